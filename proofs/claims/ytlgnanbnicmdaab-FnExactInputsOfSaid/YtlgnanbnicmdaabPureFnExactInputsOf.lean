/- The program's InputsOf returns what the reference's returns, for all arguments.
Conditions: none beyond what the row itself says. -/
import Derived.Test.YtlgnanbnicmdaabQFnExactInputsOfx9
namespace Go.Proofs.Ytlgnanbnicmdaab.Pure
open Go.RowKit Go.Proofs.Ytlgnanbnicmdaab.QFnExactInputsOf Go.Proofs.YtlgnanbnicmdaabW.PrintWords Go.Proofs.YtlgnanbnicmdaabW.PrintLast Go.Proofs.YtlgnanbnicmdaabW.PrintMore
set_option linter.unusedVariables false
set_option linter.unusedSimpArgs false

theorem w64 {x : Int} (h0 : -9223372036854775808 ≤ x) (h1 : x ≤ 9223372036854775807) : wrap64 x = x := by
  unfold wrap64; omega
theorem wf64 {a : Int} (h : (Lit.int .i64 a).wf = true) : -9223372036854775808 ≤ a ∧ a ≤ 9223372036854775807 := by
  simp only [Lit.wf, IntKind.min, IntKind.max, IntKind.signed, IntKind.bits, Bool.and_eq_true, decide_eq_true_eq, if_true] at h
  omega

theorem Ev.succ {α : Type} {g : Nat → Option α} {r : α} (h : Ev (fun k => g (k + 1)) r) : Ev g r := Ev.step (fun _ => rfl) h
theorem Ev.pos {α : Type} {c : Prop} [Decidable c] {a b : Nat → Option α} {r : α} (h : c) (e : Ev (fun k => a k) r) : Ev (fun k => if c then a k else b k) r := Ev.congr (fun _ => if_pos h) e
theorem Ev.neg {α : Type} {c : Prop} [Decidable c] {a b : Nat → Option α} {r : α} (h : ¬ c) (e : Ev (fun k => b k) r) : Ev (fun k => if c then a k else b k) r := Ev.congr (fun _ => if_neg h) e
theorem Ev.bnd {α β : Type} {g : Nat → Option α} {f : Nat → α → Option β} {a : α} {r : β} (h : Ev (fun k => g k) a) (k : Ev (fun n => f n a) r) : Ev (fun n => (g n).bind (fun x => f n x)) r := Ev.bind h k
theorem Ev.bnd1 {α β : Type} {g : Option α} {f : Nat → α → Option β} {a : α} {r : β} (h : g = some a) (k : Ev (fun n => f n a) r) : Ev (fun n => g.bind (fun x => f n x)) r := by
  rw [h]; exact k
theorem Ev.ret {α : Type} (r : α) : Ev (fun _ => some r) r := Ev.now r
theorem Ev.eq {α : Type} {g : Nat → Option α} {r r' : α} (h : Ev g r) (e : r = r') : Ev g r' := e ▸ h
theorem Ev.all {α : Type} {g : Nat → Option α} {r : α} (h : Ev (fun k => g k) r) : ∃ k, g k = some r := h.rounds
theorem rd_mid (pre : List Int) (x : Int) (post : List Int) : rd (pre ++ x :: post) (pre.length : Int) = x := by
  unfold rd; simp
theorem rd_nat (xs : List Int) (i : Nat) (h : i < xs.length) : rd xs (i : Int) = xs[i] := by
  unfold rd; simp [List.getD_eq_getElem?_getD, List.getElem?_eq_getElem h]

theorem toIntS_l0 (post : List Int) : ∀ (pre rest : List Int), rest.length = post.length → (pre ++ post).length ≤ 140737488351232 → Ev (fun k => laws_toIntS.l0 k (pre ++ post) (pre ++ rest) (pre.length : Int)) (pre ++ post) := by
  induction post with
  | nil =>
    intro pre rest hr hl
    obtain rfl : rest = [] := List.eq_nil_of_length_eq_zero hr
    refine Ev.succ ?_
    simp only [laws_toIntS.l0]
    exact Ev.neg (by simp) (Ev.ret _)
  | cons x post ih =>
    intro pre rest hr hl
    obtain ⟨y, rest, rfl⟩ : ∃ y t, rest = y :: t := by cases rest with | nil => simp at hr | cons y t => exact ⟨y, t, rfl⟩
    have h := ih (pre ++ [x]) rest (by simpa using hr) (by simpa using hl)
    simp only [List.length_append, List.length_cons, List.length_nil] at hl hr h
    refine Ev.succ ?_
    simp only [laws_toIntS.l0, List.length_append, List.length_cons]
    refine Ev.pos (by omega) (Ev.pos (by omega) (Ev.pos (by omega) ?_))
    rw [rd_mid, w64 (by omega) (by omega)]
    have e : (pre ++ y :: rest).set ((pre.length : Int)).toNat x = pre ++ [x] ++ rest := by simp
    rw [e]
    simpa using h
theorem toIntS (l : List Int) (h : l.length * 8 ≤ 140737488351232) : Ev (fun k => laws_toIntS.f k l) l := by
  simp only [laws_toIntS.f]
  refine Ev.pos (by omega) (Ev.pos (by omega) ?_)
  have := toIntS_l0 l [] (List.replicate l.length 0) (by simp) (by simp; omega)
  simpa using this

theorem eqIntS_l0 (pa : List Int) : ∀ (pa' pb pb' : List Int), pa'.length = pb'.length → pa.length = pb.length → (pa' ++ pa).length ≤ 140737488351232 → Ev (fun k => laws_eqIntS.l0 k (pa' ++ pa) (pb' ++ pb) (pa'.length : Int)) (decide (pa = pb)) := by
  induction pa with
  | nil =>
    intro pa' pb pb' h1 h2 hl
    obtain rfl : pb = [] := List.eq_nil_of_length_eq_zero h2.symm
    refine Ev.succ ?_
    simp only [laws_eqIntS.l0]
    exact Ev.neg (by simp) (Ev.eq (Ev.ret _) (by simp))
  | cons x pa ih =>
    intro pa' pb pb' h1 h2 hl
    obtain ⟨y, pb, rfl⟩ : ∃ y t, pb = y :: t := by cases pb with | nil => simp at h2 | cons y t => exact ⟨y, t, rfl⟩
    have h := ih (pa' ++ [x]) pb (pb' ++ [y]) (by simpa using h1) (by simpa using h2) (by simpa using hl)
    simp only [List.length_append, List.length_cons, List.length_nil] at hl h2 h
    refine Ev.succ ?_
    simp only [laws_eqIntS.l0, List.length_append, List.length_cons]
    refine Ev.pos (by omega) (Ev.pos (by omega) (Ev.pos (by omega) ?_))
    rw [rd_mid, show (pa'.length : Int) = (pb'.length : Int) by omega, rd_mid]
    by_cases e : x = y
    · subst e
      refine Ev.pos rfl ?_
      rw [w64 (by omega) (by omega)]
      refine Ev.eq (Ev.congr (fun k => ?_) h) (by simp)
      simp [h1]
    · exact Ev.neg e (Ev.eq (Ev.ret _) (by simp [e]))
theorem eqIntS (a b : List Int) (h : a.length ≤ 140737488351232) : Ev (fun k => laws_eqIntS.f k a b) (decide (a = b)) := by
  simp only [laws_eqIntS.f]
  by_cases e : a.length = b.length
  · exact Ev.pos (by omega) (by simpa using eqIntS_l0 a [] b [] rfl e (by simpa using h))
  · exact Ev.neg (by omega) (Ev.eq (Ev.ret _) (by simp only [false_eq_decide_iff]; intro h; exact e (by rw [h])))
theorem eqIntS_self (a : List Int) (h : a.length ≤ 140737488351232) : Ev (fun k => laws_eqIntS.f k a a) true := Ev.eq (eqIntS a a h) (by simp)

theorem spec_in_eq (a lo hi : Int) : spec_l1In.f a lo hi = some (decide (lo ≤ a ∧ a ≤ hi)) := by
  unfold spec_l1In.f
  by_cases h1 : a ≥ lo
  · rw [if_pos h1]
    by_cases h2 : a ≤ hi
    · rw [decide_eq_true h2, decide_eq_true ⟨h1, h2⟩]
    · rw [decide_eq_false h2, decide_eq_false (fun h => h2 h.2)]
  · rw [if_neg h1, decide_eq_false (fun h => h1 h.1)]
def inAll (lo hi : Int) (l : List Int) : Bool := l.all fun x => decide (lo ≤ x ∧ x ≤ hi)
theorem spec_l1All_l0 (lo hi : Int) (post : List Int) : ∀ pre : List Int, (pre ++ post).length ≤ 140737488351232 → Ev (fun k => spec_l1All.l0 k lo hi (pre ++ post) ((pre ++ post).length : Int) (pre.length : Int)) (inAll lo hi post) := by
  induction post with
  | nil =>
    intro pre hl
    refine Ev.succ ?_
    simp only [spec_l1All.l0]
    exact Ev.neg (by simp) (Ev.ret _)
  | cons x post ih =>
    intro pre hl
    have h := ih (pre ++ [x]) (by simpa using hl)
    simp only [List.length_append, List.length_cons] at hl
    refine Ev.succ ?_
    simp only [spec_l1All.l0]
    refine Ev.pos (by simp only [List.length_append, List.length_cons]; omega) (Ev.pos (by omega) (Ev.pos (by simp only [List.length_append, List.length_cons]; omega) ?_))
    rw [rd_mid]
    refine Ev.bnd1 (spec_in_eq _ _ _) ?_
    by_cases hx : lo ≤ x ∧ x ≤ hi
    · rw [decide_eq_true hx]
      refine Ev.pos rfl ?_
      rw [w64 (by omega) (by omega)]
      refine Ev.eq (by simpa using h) ?_
      simp [inAll, hx]
    · rw [decide_eq_false hx]
      exact Ev.neg (by simp) (Ev.eq (Ev.ret _) (by simp only [inAll, List.all_cons, decide_eq_false hx, Bool.false_and]))
theorem spec_l1All_ev (lo hi : Int) (l : List Int) (hl : l.length ≤ 140737488351232) : Ev (fun k => spec_l1All.f k l lo hi) (inAll lo hi l) := by
  simp only [spec_l1All.f]
  simpa using spec_l1All_l0 lo hi l [] (by simpa using hl)
theorem inAll_mem {lo hi : Int} {l : List Int} (h : inAll lo hi l = true) : ∀ x ∈ l, lo ≤ x ∧ x ≤ hi := by
  intro x hx
  unfold inAll at h
  simpa using List.all_eq_true.1 h x hx

theorem anyO_not {α : Type} (f : α → Option Bool) (p : α → Bool) (l : List α) (h : ∀ x ∈ l, f x = some (!p x)) : anyO f l = some (!l.all p) := by
  induction l with
  | nil => rfl
  | cons x t ih =>
    simp only [anyO]
    rw [h x (by simp), Option.bind_some]
    cases hp : p x with
    | true => simp [hp, ih (fun y hy => h y (by simp [hy]))]
    | false => simp [hp]

def goodSign (s : List Int) : Bool := decide (1 ≤ s.length ∧ s.length ≤ 10) && (inAll 0 3 s && (rd s 0 == 0))
theorem goodSign_len {s : List Int} (h : goodSign s = true) : 1 ≤ s.length ∧ s.length ≤ 10 := by
  unfold goodSign at h
  simp only [Bool.and_eq_true, decide_eq_true_eq] at h
  exact h.1
theorem goodSign_mem {s : List Int} (h : goodSign s = true) : ∀ x ∈ s, 0 ≤ x ∧ x ≤ 3 := by
  unfold goodSign at h
  simp only [Bool.and_eq_true] at h
  exact inAll_mem h.2.1
theorem goodSign_rd {s : List Int} (h : goodSign s = true) (x : Int) (h0 : 0 ≤ x) (h1 : x < s.length) : 0 ≤ rd s x ∧ rd s x ≤ 3 := by
  obtain ⟨n, rfl⟩ : ∃ n : Nat, x = n := ⟨x.toNat, by omega⟩
  have hn : n < s.length := by omega
  rw [rd_nat s n hn]
  exact goodSign_mem h _ (List.getElem_mem hn)
theorem spec_GoodSign_ev (s : List Int) (hl : s.length ≤ 140737488351232) : Ev (fun k => spec_GoodSign.f k s) (goodSign s) := by
  simp only [spec_GoodSign.f]
  refine Ev.bnd1 (spec_in_eq _ _ _) ?_
  by_cases g : 1 ≤ s.length ∧ s.length ≤ 10
  · have g' : (1 : Int) ≤ (s.length : Int) ∧ (s.length : Int) ≤ 10 := by omega
    refine Ev.pos (decide_eq_true g') (Ev.bnd (spec_l1All_ev 0 3 s hl) ?_)
    unfold goodSign
    rw [decide_eq_true g, Bool.true_and]
    cases ha : inAll 0 3 s with
    | true => exact Ev.pos rfl (Ev.pos (by omega) (Ev.eq (Ev.ret _) rfl))
    | false => exact Ev.neg (by simp) (Ev.eq (Ev.ret _) rfl)
  · have g' : ¬ ((1 : Int) ≤ (s.length : Int) ∧ (s.length : Int) ≤ 10) := by omega
    refine Ev.neg (by rw [decide_eq_false g']; simp) (Ev.eq (Ev.ret _) ?_)
    unfold goodSign
    rw [decide_eq_false g, Bool.false_and]
theorem impl_GoodSign_any (s : List Int) : impl_GoodSign_1_any.f s = some (!inAll 0 3 s) := by
  unfold impl_GoodSign_1_any.f inAll
  refine anyO_not _ _ _ (fun x _ => ?_)
  unfold impl_GoodSign_1.f
  by_cases h1 : x < 0
  · rw [if_pos h1, decide_eq_false (by omega)]; rfl
  · rw [if_neg h1]
    by_cases h2 : x ≤ 3
    · rw [decide_eq_true (show 0 ≤ x ∧ x ≤ 3 by omega), decide_eq_false (by omega)]; rfl
    · rw [decide_eq_false (show ¬ (0 ≤ x ∧ x ≤ 3) by omega), decide_eq_true (by omega)]; rfl
theorem impl_GoodSign_eq (s : List Int) : impl_GoodSign.f s = some (goodSign s) := by
  unfold impl_GoodSign.f goodSign
  by_cases g : 1 ≤ s.length ∧ s.length ≤ 10
  · rw [if_neg (by omega), if_neg (by omega), if_pos (by omega), decide_eq_true g, Bool.true_and]
    by_cases e : rd s 0 = 0
    · rw [if_pos e, impl_GoodSign_any, e]; simp
    · rw [if_neg e]; simp [e]
  · rw [decide_eq_false g, Bool.false_and]
    by_cases h1 : (s.length : Int) < 1
    · rw [if_pos h1]
    · rw [if_neg h1, if_pos (by omega)]

/-! Terms in prefix form. -/
/-- How many arguments a token takes. -/
def ar (s : List Int) (x : Int) : Nat := if x < 0 then 0 else (rd s x).toNat
/-- Whether a number may stand in a term. -/
def tok (s : List Int) (x : Int) : Bool := decide (-12 ≤ x ∧ x < s.length)
/-- What is left of a row when so many terms are read off it. -/
def eat (s : List Int) : List Int → Nat → Option (List Int)
  | l, 0 => some l
  | [], _ + 1 => none
  | x :: l, n + 1 => if tok s x = true then eat s l (n + ar s x) else none
def isTerm (s : List Int) (l : List Int) : Bool := decide (1 ≤ l.length ∧ l.length ≤ 40) && (eat s l 1 == some [])
def goodTerm (s : List Int) (l : List Int) : Bool := goodSign s && isTerm s l
theorem ar_le {s : List Int} (h : goodSign s = true) {x : Int} (ht : tok s x = true) : ar s x ≤ 3 := by
  unfold tok at ht
  simp only [decide_eq_true_eq] at ht
  unfold ar
  by_cases g : x < 0
  · rw [if_pos g]; omega
  · rw [if_neg g]
    have := goodSign_rd h x (by omega) (by omega)
    omega
theorem ar_rd {s : List Int} (h : goodSign s = true) {x : Int} (h0 : 0 ≤ x) (ht : tok s x = true) : rd s x = (ar s x : Int) := by
  unfold tok at ht
  simp only [decide_eq_true_eq] at ht
  unfold ar
  rw [if_neg (by omega)]
  have := goodSign_rd h x (by omega) (by omega)
  omega
theorem eat_suf (s : List Int) (l : List Int) : ∀ (n : Nat) (r : List Int), eat s l n = some r → ∃ c, l = c ++ r := by
  induction l with
  | nil =>
    intro n r h
    cases n with
    | zero => simp only [eat, Option.some.injEq] at h; exact ⟨[], by simp [h]⟩
    | succ n => simp [eat] at h
  | cons x l ih =>
    intro n r h
    cases n with
    | zero => simp only [eat, Option.some.injEq] at h; exact ⟨[], by simp [h]⟩
    | succ n =>
      simp only [eat] at h
      split at h
      · obtain ⟨c, e⟩ := ih _ _ h
        exact ⟨x :: c, by rw [e]; rfl⟩
      · simp at h
theorem eat_zero (s : List Int) (l : List Int) : eat s l 0 = some l := by cases l <;> rfl
theorem eat_split (s : List Int) (l : List Int) : ∀ (n m : Nat) (r : List Int), eat s l (n + m) = some r → ∃ mid, eat s l n = some mid ∧ eat s mid m = some r := by
  induction l with
  | nil =>
    intro n m r h
    cases n with
    | zero => exact ⟨[], eat_zero _ _, by simpa using h⟩
    | succ n => rw [show n + 1 + m = (n + m) + 1 by omega] at h; simp [eat] at h
  | cons x l ih =>
    intro n m r h
    cases n with
    | zero => exact ⟨x :: l, eat_zero _ _, by simpa using h⟩
    | succ n =>
      rw [show n + 1 + m = (n + m) + 1 by omega] at h
      simp only [eat] at h ⊢
      split at h
      · rename_i ht
        rw [if_pos ht]
        exact ih _ _ _ (by rw [← h]; congr 1; omega)
      · simp at h
theorem spec_l1End_l0 (s : List Int) (hs : goodSign s = true) (l : List Int) : ∀ (pre : List Int) (n : Nat), (pre ++ l).length ≤ 1000000000 → n ≤ 3 * pre.length + 3 →
    Ev (fun k => spec_l1End.l0 k (pre ++ l) (pre.length : Int) (n : Int) s) (match eat s l n with | some r => ((pre ++ l).length : Int) - r.length | none => -1) := by
  have hsl := goodSign_len hs
  induction l with
  | nil =>
    intro pre n hl hn
    refine Ev.succ ?_
    simp only [spec_l1End.l0]
    cases n with
    | zero => exact Ev.neg (by simp) (Ev.eq (Ev.ret _) (by simp [eat]))
    | succ n =>
      refine Ev.pos (by omega) (Ev.pos (by simp) (Ev.succ ?_))
      simp only [spec_l1End.j1]
      exact Ev.pos trivial (Ev.eq (Ev.ret _) (by simp [eat]))
  | cons x l ih =>
    intro pre n hl hn
    have hl' := hl
    simp only [List.length_append, List.length_cons] at hl
    refine Ev.succ ?_
    simp only [spec_l1End.l0]
    cases n with
    | zero => exact Ev.neg (by simp) (Ev.eq (Ev.ret _) (by simp only [eat, List.length_append, List.length_cons]; omega))
    | succ n =>
      refine Ev.pos (by omega) (Ev.neg (by simp only [List.length_append, List.length_cons]; omega) (Ev.pos (by omega) (Ev.pos (by simp only [List.length_append, List.length_cons]; omega) ?_)))
      rw [rd_mid, w64 (x := (s.length : Int) - 1) (by omega) (by omega)]
      refine Ev.bnd1 (spec_in_eq _ _ _) (Ev.succ ?_)
      simp only [spec_l1End.j1]
      by_cases g : -12 ≤ x ∧ x ≤ (s.length : Int) - 1
      · have ht : tok s x = true := by unfold tok; exact decide_eq_true (by omega)
        have har := ar_le hs ht
        have h := ih (pre ++ [x]) (n + ar s x) (by simpa using hl') (by simp only [List.length_append, List.length_cons, List.length_nil]; omega)
        refine Ev.neg (by rw [decide_eq_true g]; simp) (Ev.pos (by omega) (Ev.pos (by simp only [List.length_append, List.length_cons]; omega) ?_))
        have e : eat s (x :: l) (n + 1) = eat s l (n + ar s x) := by simp only [eat]; rw [if_pos ht]
        rw [e]
        have e0 : wrap64 ((pre.length : Int) + 1) = (pre.length : Int) + 1 := w64 (by omega) (by omega)
        have e1 : wrap64 (((n + 1 : Nat) : Int) - 1) = (n : Int) := by rw [w64 (by omega) (by omega)]; omega
        rw [rd_mid, e0, e1]
        have h' : Ev (fun k => spec_l1End.l0 k (pre ++ x :: l) ((pre.length : Int) + 1) ((n : Int) + (ar s x : Int)) s) (match eat s l (n + ar s x) with | some r => ((pre ++ x :: l).length : Int) - r.length | none => -1) := by simpa using h
        by_cases g0 : x ≥ 0
        · refine Ev.pos g0 (Ev.pos g0 (Ev.pos (by omega) ?_))
          rw [ar_rd hs g0 ht, w64 (by omega) (by omega)]
          exact h'
        · refine Ev.neg g0 ?_
          have e2 : ar s x = 0 := by unfold ar; rw [if_pos (by omega)]
          rw [e2] at h' ⊢
          simpa using h'
      · have ht : ¬ tok s x = true := by unfold tok; rw [decide_eq_true_eq]; omega
        refine Ev.pos (by rw [decide_eq_false g]; rfl) (Ev.eq (Ev.ret _) ?_)
        simp only [eat]
        rw [if_neg ht]
theorem spec_l1End_ev (s : List Int) (hs : goodSign s = true) (pre l : List Int) (hl : (pre ++ l).length ≤ 1000000000) :
    Ev (fun k => spec_l1End.f k s (pre ++ l) (pre.length : Int)) (match eat s l 1 with | some r => ((pre ++ l).length : Int) - r.length | none => -1) := by
  simp only [spec_l1End.f]
  exact spec_l1End_l0 s hs l pre 1 hl (by omega)
theorem spec_l1Term_ev (s : List Int) (hs : goodSign s = true) (l : List Int) : Ev (fun k => spec_l1Term.f k s l) (isTerm s l) := by
  simp only [spec_l1Term.f]
  refine Ev.bnd1 (spec_in_eq _ _ _) ?_
  unfold isTerm
  by_cases g : 1 ≤ l.length ∧ l.length ≤ 40
  · have g' : (1 : Int) ≤ (l.length : Int) ∧ (l.length : Int) ≤ 40 := by omega
    have h := spec_l1End_ev s hs [] l (by simp; omega)
    refine Ev.pos (decide_eq_true g') (Ev.bnd (by simpa using h) (Ev.eq (Ev.ret _) ?_))
    rw [decide_eq_true g, Bool.true_and]
    cases e : eat s l 1 with
    | none => simp
    | some r =>
      cases r with
      | nil => simp
      | cons y r => simp; omega
  · have g' : ¬ ((1 : Int) ≤ (l.length : Int) ∧ (l.length : Int) ≤ 40) := by omega
    refine Ev.neg (by rw [decide_eq_false g']; simp) (Ev.eq (Ev.ret _) ?_)
    rw [decide_eq_false g, Bool.false_and]
theorem impl_args_eq (s : List Int) (hs : goodSign s = true) (x : Int) (ht : tok s x = true) : impl_Sign_args.f s x = some (ar s x : Int) := by
  unfold impl_Sign_args.f
  by_cases g : x < 0
  · rw [if_pos g]; unfold ar; rw [if_pos g]; rfl
  · have ht' := ht
    unfold tok at ht'
    simp only [decide_eq_true_eq] at ht'
    rw [if_neg g, if_pos (by omega), if_pos (by omega), ar_rd hs (by omega) ht]
theorem impl_isTerm_l0 (s : List Int) (hs : goodSign s = true) (l : List Int) : ∀ (pre : List Int) (n : Nat), (pre ++ l).length ≤ 1000000 → n ≤ 3 * pre.length + 3 →
    Ev (fun k => impl_Sign_isTerm.l0 k (n : Int) (pre ++ l) ((pre ++ l).length : Int) (pre.length : Int) s) (eat s l n == some []) := by
  have hsl := goodSign_len hs
  induction l with
  | nil =>
    intro pre n hl hn
    refine Ev.succ ?_
    simp only [impl_Sign_isTerm.l0]
    refine Ev.neg (by simp) (Ev.eq (Ev.ret _) ?_)
    cases n with
    | zero => rfl
    | succ n => first | (simp [eat]; done) | (simp [eat]; omega)
  | cons x l ih =>
    intro pre n hl hn
    have hl' := hl
    simp only [List.length_append, List.length_cons] at hl
    refine Ev.succ ?_
    simp only [impl_Sign_isTerm.l0]
    refine Ev.pos (by simp only [List.length_append, List.length_cons]; omega) (Ev.pos (by omega) (Ev.pos (by simp only [List.length_append, List.length_cons]; omega) ?_))
    cases n with
    | zero => exact Ev.pos rfl (Ev.eq (Ev.ret _) (by simp [eat]))
    | succ n =>
      refine Ev.neg (by omega) ?_
      rw [rd_mid]
      by_cases g1 : x < -12
      · refine Ev.pos g1 (Ev.eq (Ev.ret _) ?_)
        have ht : ¬ tok s x = true := by unfold tok; rw [decide_eq_true_eq]; omega
        simp only [eat]
        rw [if_neg ht]; rfl
      · refine Ev.neg g1 ?_
        by_cases g2 : x ≥ (s.length : Int)
        · refine Ev.pos g2 (Ev.eq (Ev.ret _) ?_)
          have ht : ¬ tok s x = true := by unfold tok; rw [decide_eq_true_eq]; omega
          simp only [eat]
          rw [if_neg ht]; rfl
        · refine Ev.neg g2 ?_
          have ht : tok s x = true := by unfold tok; exact decide_eq_true (by omega)
          have har := ar_le hs ht
          have h := ih (pre ++ [x]) (n + ar s x) (by simpa using hl') (by simp only [List.length_append, List.length_cons, List.length_nil]; omega)
          refine Ev.bnd1 (impl_args_eq s hs x ht) ?_
          have e0 : wrap64 ((pre.length : Int) + 1) = (pre.length : Int) + 1 := w64 (by omega) (by omega)
          have e1 : wrap64 ((ar s x : Int) - 1) = (ar s x : Int) - 1 := w64 (by omega) (by omega)
          have e2 : wrap64 (((n + 1 : Nat) : Int) + ((ar s x : Int) - 1)) = (n : Int) + (ar s x : Int) := by rw [w64 (by omega) (by omega)]; omega
          rw [e0, e1, e2]
          refine Ev.eq (by simpa using h) ?_
          simp only [eat]
          rw [if_pos ht]
theorem impl_isTerm_ev (s : List Int) (hs : goodSign s = true) (l : List Int) : Ev (fun k => impl_Sign_isTerm.f k s l) (isTerm s l) := by
  simp only [impl_Sign_isTerm.f]
  unfold isTerm
  by_cases g : l.length > 40
  · refine Ev.pos (by omega) (Ev.eq (Ev.ret _) ?_)
    rw [decide_eq_false (by omega), Bool.false_and]
  · refine Ev.neg (by omega) ?_
    have h := impl_isTerm_l0 s hs l [] 1 (by simp; omega) (by omega)
    refine Ev.eq (by simpa using h) ?_
    cases l with
    | nil => simp [eat]
    | cons x l => rw [decide_eq_true (show 1 ≤ (x :: l).length ∧ (x :: l).length ≤ 40 by simp only [List.length_cons] at g ⊢; omega), Bool.true_and]

theorem szIntS_eq (l : List Int) (a : Int) (h0 : 0 ≤ a) (h1 : a ≤ 1048576) (hl : l.length ≤ 9223372036854775807) : laws_szIntS.f l a = some (if (l.length : Int) ≤ a then a - l.length else -1) := by
  unfold laws_szIntS.f
  rw [w64 (x := a - (l.length : Int)) (by omega) (by omega)]
  by_cases g : a - (l.length : Int) < 0
  · rw [if_pos g, if_neg (by omega)]
  · rw [if_neg g, if_pos (by omega)]
theorem szSign_eq (l : List Int) (a : Int) (h0 : 0 ≤ a) (h1 : a ≤ 1048576) (hl : l.length ≤ 9223372036854775807) : laws_szSign.f l a = some (if (l.length : Int) ≤ a then a - l.length else -1) := by
  unfold laws_szSign.f
  rw [szIntS_eq l a h0 h1 hl, Option.bind_some]
  by_cases g : (l.length : Int) ≤ a
  · rw [if_pos g, if_neg (by omega)]
  · rw [if_neg g]; rfl
theorem toSign_ev (l : List Int) (h : l.length ≤ 1048576) : Ev (fun k => laws_toSign.f k l) l := by
  simp only [laws_toSign.f]
  exact Ev.bnd (toIntS l (by omega)) (Ev.ret _)
theorem eqSign_self (l : List Int) (h : l.length ≤ 1048576) : Ev (fun k => laws_eqSign.f k l l) true := by
  simp only [laws_eqSign.f]
  exact Ev.bnd (eqIntS_self l (by omega)) (Ev.pos rfl (Ev.ret _))

/-! Literals as the laws hand them over. -/
def okLitA (x : S62) : Prop := x.f1.length ≤ 9223372036854775807 ∧ x.f2.length ≤ 9223372036854775807
def smLitA (x : S62) : Prop := x.f1.length ≤ 1048576 ∧ x.f2.length ≤ 1048576
def cvLit (x : S62) : S65 := ⟨x.f0, x.f1, x.f2⟩
def smLit (x : S65) : Prop := x.f1.length ≤ 1048576 ∧ x.f2.length ≤ 1048576
theorem rdLA_mid (pre : List S62) (x : S62) (post : List S62) : rd_T62 (pre ++ x :: post) (pre.length : Int) = x := by
  unfold rd_T62; simp
theorem rdLB_mid (pre : List S65) (x : S65) (post : List S65) : rd_T65 (pre ++ x :: post) (pre.length : Int) = x := by
  unfold rd_T65; simp
theorem szLit_eq (b : Bool) (f1 f2 : List Int) (a : Int) (h0 : 0 ≤ a) (h1 : a ≤ 1048576) (hf1 : f1.length ≤ 9223372036854775807) (hf2 : f2.length ≤ 9223372036854775807) : ∃ r, laws_szLit.f b f1 f2 a = some r ∧ r ≤ a ∧ (0 ≤ r → f1.length ≤ 1048576 ∧ f2.length ≤ 1048576) := by
  unfold laws_szLit.f
  rw [szIntS_eq f1 a h0 h1 hf1, Option.bind_some]
  by_cases g : (f1.length : Int) ≤ a
  · rw [if_pos g, if_neg (by omega), szIntS_eq f2 _ (by omega) (by omega) hf2, Option.bind_some]
    by_cases g2 : (f2.length : Int) ≤ a - f1.length
    · rw [if_pos g2, if_neg (by omega)]; exact ⟨_, rfl, by omega, fun _ => by omega⟩
    · rw [if_neg g2]; exact ⟨-1, rfl, by omega, by omega⟩
  · rw [if_neg g]; exact ⟨-1, rfl, by omega, by omega⟩
theorem szLitS_l0 (post : List S62) : ∀ (pre : List S62) (a : Int), 0 ≤ a → a ≤ 1048576 → (∀ x ∈ post, okLitA x) → (pre ++ post).length ≤ 1048576 →
    ∃ r, Ev (fun k => laws_szLitS.l0 k (pre ++ post) a (pre.length : Int)) r ∧ r ≤ a ∧ (0 ≤ r → ∀ x ∈ post, smLitA x) := by
  induction post with
  | nil =>
    intro pre a h0 h1 hk hl
    refine ⟨a, Ev.succ ?_, by omega, by simp⟩
    simp only [laws_szLitS.l0]
    exact Ev.neg (by simp) (Ev.ret _)
  | cons x post ih =>
    intro pre a h0 h1 hk hl
    have hl' := hl
    simp only [List.length_append, List.length_cons] at hl
    have hx := hk x (by simp)
    obtain ⟨r, e, hr, hs⟩ := szLit_eq x.f0 x.f1 x.f2 a h0 h1 hx.1 hx.2
    by_cases g : r < 0
    · refine ⟨-1, Ev.succ ?_, by omega, by omega⟩
      simp only [laws_szLitS.l0]
      refine Ev.pos (by simp only [List.length_append, List.length_cons]; omega) (Ev.pos (by omega) ?_)
      rw [rdLA_mid]
      exact Ev.bnd1 e (Ev.pos g (Ev.ret _))
    · obtain ⟨r2, e2, hr2, hs2⟩ := ih (pre ++ [x]) r (by omega) (by omega) (fun y hy => hk y (by simp [hy])) (by simpa using hl')
      refine ⟨r2, Ev.succ ?_, by omega, fun h y hy => ?_⟩
      · simp only [laws_szLitS.l0]
        refine Ev.pos (by simp only [List.length_append, List.length_cons]; omega) (Ev.pos (by omega) ?_)
        rw [rdLA_mid, w64 (x := (pre.length : Int) + 1) (by omega) (by omega)]
        exact Ev.bnd1 e (Ev.neg g (by simpa using e2))
      · rcases List.mem_cons.1 hy with rfl | hy
        · exact hs (by omega)
        · exact hs2 h y hy
theorem szLitS_ev (l : List S62) (a : Int) (h0 : 0 ≤ a) (h1 : a ≤ 1048576) (hl : l.length ≤ 9223372036854775807) (hk : ∀ x ∈ l, okLitA x) :
    ∃ r, Ev (fun k => laws_szLitS.f k l a) r ∧ r ≤ a ∧ (0 ≤ r → l.length ≤ 1048576 ∧ ∀ x ∈ l, smLitA x) := by
  simp only [laws_szLitS.f]
  rw [w64 (x := a - (l.length : Int)) (by omega) (by omega)]
  by_cases g : a - (l.length : Int) < 0
  · exact ⟨-1, Ev.pos g (Ev.ret _), by omega, by omega⟩
  · obtain ⟨r, e, hr, hs⟩ := szLitS_l0 l [] (a - l.length) (by omega) (by omega) hk (by simp; omega)
    exact ⟨r, Ev.neg g (by simpa using e), by omega, fun h => ⟨by omega, hs h⟩⟩
theorem toLit_ev (b : Bool) (f1 f2 : List Int) (h1 : f1.length ≤ 1048576) (h2 : f2.length ≤ 1048576) : Ev (fun k => laws_toLit.f k b f1 f2) (b, f1, f2) := by
  simp only [laws_toLit.f]
  exact Ev.bnd (toIntS f1 (by omega)) (Ev.bnd (toIntS f2 (by omega)) (Ev.ret _))
theorem toLitS_l0 (post : List S62) : ∀ (pre : List S62) (pre' rest : List S65), pre'.length = pre.length → rest.length = post.length → (pre ++ post).length ≤ 1048576 → (∀ x ∈ post, smLitA x) →
    Ev (fun k => laws_toLitS.l0 k (pre ++ post) (pre' ++ rest) (pre.length : Int)) (pre' ++ post.map cvLit) := by
  induction post with
  | nil =>
    intro pre pre' rest hp hr hl hk
    obtain rfl : rest = [] := List.eq_nil_of_length_eq_zero hr
    refine Ev.succ ?_
    simp only [laws_toLitS.l0]
    exact Ev.neg (by simp) (Ev.ret _)
  | cons x post ih =>
    intro pre pre' rest hp hr hl hk
    obtain ⟨y, rest, rfl⟩ : ∃ y t, rest = y :: t := by cases rest with | nil => simp at hr | cons y t => exact ⟨y, t, rfl⟩
    have h := ih (pre ++ [x]) (pre' ++ [cvLit x]) rest (by simpa using hp) (by simpa using hr) (by simpa using hl) (fun z hz => hk z (by simp [hz]))
    simp only [List.length_append, List.length_cons, List.length_nil] at hl hr h
    have hx := hk x (by simp)
    refine Ev.succ ?_
    simp only [laws_toLitS.l0, List.length_append, List.length_cons]
    refine Ev.pos (by omega) (Ev.pos (by omega) ?_)
    rw [rdLA_mid, w64 (by omega) (by omega)]
    refine Ev.bnd (toLit_ev _ _ _ hx.1 hx.2) (Ev.pos (by omega) ?_)
    have e : (pre' ++ y :: rest).set ((pre.length : Int)).toNat ⟨x.f0, x.f1, x.f2⟩ = pre' ++ [cvLit x] ++ rest := by simp [← hp, cvLit]
    rw [e]
    simpa using h
theorem toLitS_ev (l : List S62) (h : l.length ≤ 1048576) (hk : ∀ x ∈ l, smLitA x) : Ev (fun k => laws_toLitS.f k l) (l.map cvLit) := by
  simp only [laws_toLitS.f]
  refine Ev.pos (by omega) (Ev.pos (by omega) ?_)
  have := toLitS_l0 l [] [] (List.replicate l.length z65) rfl (by simp) (by simp; omega) hk
  simpa using this
theorem cvLit_sm {l : List S62} (hk : ∀ x ∈ l, smLitA x) : ∀ x ∈ l.map cvLit, smLit x := by
  intro x hx
  obtain ⟨y, hy, rfl⟩ := List.mem_map.1 hx
  exact hk y hy
theorem eqLit_self (b : Bool) (f1 f2 : List Int) (h1 : f1.length ≤ 1048576) (h2 : f2.length ≤ 1048576) : Ev (fun k => laws_eqLit.f k b f1 f2 b f1 f2) true := by
  simp only [laws_eqLit.f]
  exact Ev.neg (by simp) (Ev.bnd (eqIntS_self f1 (by omega)) (Ev.pos rfl (Ev.bnd (eqIntS_self f2 (by omega)) (Ev.pos rfl (Ev.ret _)))))
theorem eqLitS_l0 (post : List S65) : ∀ pre : List S65, (pre ++ post).length ≤ 1048576 → (∀ x ∈ post, smLit x) → Ev (fun k => laws_eqLitS.l0 k (pre ++ post) (pre ++ post) (pre.length : Int)) true := by
  induction post with
  | nil =>
    intro pre hl hk
    refine Ev.succ ?_
    simp only [laws_eqLitS.l0]
    exact Ev.neg (by simp) (Ev.ret _)
  | cons x post ih =>
    intro pre hl hk
    have h := ih (pre ++ [x]) (by simpa using hl) (fun y hy => hk y (by simp [hy]))
    have hx := hk x (by simp)
    simp only [List.length_append, List.length_cons] at hl
    refine Ev.succ ?_
    simp only [laws_eqLitS.l0]
    refine Ev.pos (by simp only [List.length_append, List.length_cons]; omega) (Ev.pos (by omega) (Ev.pos (by simp only [List.length_append, List.length_cons]; omega) ?_))
    rw [rdLB_mid, w64 (by omega) (by omega)]
    exact Ev.bnd (eqLit_self _ _ _ hx.1 hx.2) (Ev.pos rfl (by simpa using h))
theorem eqLitS_self (l : List S65) (hl : l.length ≤ 1048576) (hk : ∀ x ∈ l, smLit x) : Ev (fun k => laws_eqLitS.f k l l) true := by
  simp only [laws_eqLitS.f]
  exact Ev.pos trivial (by simpa using eqLitS_l0 l [] (by simpa using hl) hk)

/-! Steps of a proof as the laws hand them over. -/
def okStepA (x : S78) : Prop := x.f1.length ≤ 9223372036854775807 ∧ x.f2.length ≤ 9223372036854775807 ∧ x.f3.length ≤ 9223372036854775807 ∧ ∀ y ∈ x.f3, okLitA y
def smStepA (x : S78) : Prop := x.f1.length ≤ 1048576 ∧ x.f2.length ≤ 1048576 ∧ x.f3.length ≤ 1048576 ∧ ∀ y ∈ x.f3, smLitA y
def cvStep (x : S78) : S81 := ⟨x.f0, x.f1, x.f2, x.f3.map cvLit⟩
def smStep (x : S81) : Prop := x.f1.length ≤ 1048576 ∧ x.f2.length ≤ 1048576 ∧ x.f3.length ≤ 1048576 ∧ ∀ y ∈ x.f3, smLit y
theorem rdSA_mid (pre : List S78) (x : S78) (post : List S78) : rd_T78 (pre ++ x :: post) (pre.length : Int) = x := by
  unfold rd_T78; simp
theorem rdSB_mid (pre : List S81) (x : S81) (post : List S81) : rd_T81 (pre ++ x :: post) (pre.length : Int) = x := by
  unfold rd_T81; simp
theorem szStep_ev (x : S78) (a : Int) (h0 : 0 ≤ a) (h1 : a ≤ 1048576) (hx : okStepA x) : ∃ r, Ev (fun k => laws_szStep.f k x.f0 x.f1 x.f2 x.f3 a) r ∧ r ≤ a ∧ (0 ≤ r → smStepA x) := by
  obtain ⟨hf1, hf2, hf3, hk⟩ := hx
  by_cases g : (x.f1.length : Int) ≤ a
  · by_cases g2 : (x.f2.length : Int) ≤ a - x.f1.length
    · obtain ⟨r, e, hr, hs⟩ := szLitS_ev x.f3 (a - x.f1.length - x.f2.length) (by omega) (by omega) hf3 hk
      by_cases g3 : r < 0
      · refine ⟨-1, ?_, by omega, by omega⟩
        simp only [laws_szStep.f]
        refine Ev.bnd1 (szIntS_eq x.f1 a h0 h1 hf1) ?_
        rw [if_pos g]
        refine Ev.neg (by omega) (Ev.bnd1 (szIntS_eq x.f2 _ (by omega) (by omega) hf2) ?_)
        rw [if_pos g2]
        exact Ev.neg (by omega) (Ev.bnd e (Ev.pos g3 (Ev.ret _)))
      · refine ⟨r, ?_, by omega, fun h => ⟨by omega, by omega, (hs h).1, (hs h).2⟩⟩
        simp only [laws_szStep.f]
        refine Ev.bnd1 (szIntS_eq x.f1 a h0 h1 hf1) ?_
        rw [if_pos g]
        refine Ev.neg (by omega) (Ev.bnd1 (szIntS_eq x.f2 _ (by omega) (by omega) hf2) ?_)
        rw [if_pos g2]
        exact Ev.neg (by omega) (Ev.bnd e (Ev.neg g3 (Ev.ret _)))
    · refine ⟨-1, ?_, by omega, by omega⟩
      simp only [laws_szStep.f]
      refine Ev.bnd1 (szIntS_eq x.f1 a h0 h1 hf1) ?_
      rw [if_pos g]
      refine Ev.neg (by omega) (Ev.bnd1 (szIntS_eq x.f2 _ (by omega) (by omega) hf2) ?_)
      rw [if_neg g2]
      exact Ev.pos (by omega) (Ev.ret _)
  · refine ⟨-1, ?_, by omega, by omega⟩
    simp only [laws_szStep.f]
    refine Ev.bnd1 (szIntS_eq x.f1 a h0 h1 hf1) ?_
    rw [if_neg g]
    exact Ev.pos (by omega) (Ev.ret _)
theorem szStepS_l0 (post : List S78) : ∀ (pre : List S78) (a : Int), 0 ≤ a → a ≤ 1048576 → (∀ x ∈ post, okStepA x) → (pre ++ post).length ≤ 1048576 →
    ∃ r, Ev (fun k => laws_szStepS.l0 k (pre ++ post) a (pre.length : Int)) r ∧ r ≤ a ∧ (0 ≤ r → ∀ x ∈ post, smStepA x) := by
  induction post with
  | nil =>
    intro pre a h0 h1 hk hl
    refine ⟨a, Ev.succ ?_, by omega, by simp⟩
    simp only [laws_szStepS.l0]
    exact Ev.neg (by simp) (Ev.ret _)
  | cons x post ih =>
    intro pre a h0 h1 hk hl
    have hl' := hl
    simp only [List.length_append, List.length_cons] at hl
    have hx := hk x (by simp)
    obtain ⟨r, e, hr, hs⟩ := szStep_ev x a h0 h1 hx
    by_cases g : r < 0
    · refine ⟨-1, Ev.succ ?_, by omega, by omega⟩
      simp only [laws_szStepS.l0]
      refine Ev.pos (by simp only [List.length_append, List.length_cons]; omega) (Ev.pos (by omega) ?_)
      rw [rdSA_mid]
      exact Ev.bnd e (Ev.pos g (Ev.ret _))
    · obtain ⟨r2, e2, hr2, hs2⟩ := ih (pre ++ [x]) r (by omega) (by omega) (fun y hy => hk y (by simp [hy])) (by simpa using hl')
      refine ⟨r2, Ev.succ ?_, by omega, fun h y hy => ?_⟩
      · simp only [laws_szStepS.l0]
        refine Ev.pos (by simp only [List.length_append, List.length_cons]; omega) (Ev.pos (by omega) ?_)
        rw [rdSA_mid, w64 (x := (pre.length : Int) + 1) (by omega) (by omega)]
        exact Ev.bnd e (Ev.neg g (by simpa using e2))
      · rcases List.mem_cons.1 hy with rfl | hy
        · exact hs (by omega)
        · exact hs2 h y hy
theorem szStepS_ev (l : List S78) (a : Int) (h0 : 0 ≤ a) (h1 : a ≤ 1048576) (hl : l.length ≤ 9223372036854775807) (hk : ∀ x ∈ l, okStepA x) :
    ∃ r, Ev (fun k => laws_szStepS.f k l a) r ∧ r ≤ a ∧ (0 ≤ r → l.length ≤ 1048576 ∧ ∀ x ∈ l, smStepA x) := by
  simp only [laws_szStepS.f]
  rw [w64 (x := a - (l.length : Int)) (by omega) (by omega)]
  by_cases g : a - (l.length : Int) < 0
  · exact ⟨-1, Ev.pos g (Ev.ret _), by omega, by omega⟩
  · obtain ⟨r, e, hr, hs⟩ := szStepS_l0 l [] (a - l.length) (by omega) (by omega) hk (by simp; omega)
    exact ⟨r, Ev.neg g (by simpa using e), by omega, fun h => ⟨by omega, hs h⟩⟩
theorem toStep_ev (x : S78) (hx : smStepA x) : Ev (fun k => laws_toStep.f k x.f0 x.f1 x.f2 x.f3) (x.f0, x.f1, x.f2, x.f3.map cvLit) := by
  obtain ⟨h1, h2, h3, hk⟩ := hx
  simp only [laws_toStep.f]
  exact Ev.bnd (toIntS x.f1 (by omega)) (Ev.bnd (toIntS x.f2 (by omega)) (Ev.bnd (toLitS_ev x.f3 h3 hk) (Ev.ret _)))
theorem toStepS_l0 (post : List S78) : ∀ (pre : List S78) (pre' rest : List S81), pre'.length = pre.length → rest.length = post.length → (pre ++ post).length ≤ 1048576 → (∀ x ∈ post, smStepA x) →
    Ev (fun k => laws_toStepS.l0 k (pre ++ post) (pre' ++ rest) (pre.length : Int)) (pre' ++ post.map cvStep) := by
  induction post with
  | nil =>
    intro pre pre' rest hp hr hl hk
    obtain rfl : rest = [] := List.eq_nil_of_length_eq_zero hr
    refine Ev.succ ?_
    simp only [laws_toStepS.l0]
    exact Ev.neg (by simp) (Ev.ret _)
  | cons x post ih =>
    intro pre pre' rest hp hr hl hk
    obtain ⟨y, rest, rfl⟩ : ∃ y t, rest = y :: t := by cases rest with | nil => simp at hr | cons y t => exact ⟨y, t, rfl⟩
    have h := ih (pre ++ [x]) (pre' ++ [cvStep x]) rest (by simpa using hp) (by simpa using hr) (by simpa using hl) (fun z hz => hk z (by simp [hz]))
    simp only [List.length_append, List.length_cons, List.length_nil] at hl hr h
    have hx := hk x (by simp)
    refine Ev.succ ?_
    simp only [laws_toStepS.l0, List.length_append, List.length_cons]
    refine Ev.pos (by omega) (Ev.pos (by omega) ?_)
    rw [rdSA_mid, w64 (by omega) (by omega)]
    refine Ev.bnd (toStep_ev _ hx) (Ev.pos (by omega) ?_)
    have e : (pre' ++ y :: rest).set ((pre.length : Int)).toNat ⟨x.f0, x.f1, x.f2, x.f3.map cvLit⟩ = pre' ++ [cvStep x] ++ rest := by simp [← hp, cvStep]
    rw [e]
    simpa using h
theorem toStepS_ev (l : List S78) (h : l.length ≤ 1048576) (hk : ∀ x ∈ l, smStepA x) : Ev (fun k => laws_toStepS.f k l) (l.map cvStep) := by
  simp only [laws_toStepS.f]
  refine Ev.pos (by omega) (Ev.pos (by omega) ?_)
  have := toStepS_l0 l [] [] (List.replicate l.length z81) rfl (by simp) (by simp; omega) hk
  simpa using this
theorem cvStep_sm {l : List S78} (hk : ∀ x ∈ l, smStepA x) : ∀ x ∈ l.map cvStep, smStep x := by
  intro x hx
  obtain ⟨y, hy, rfl⟩ := List.mem_map.1 hx
  obtain ⟨h1, h2, h3, h4⟩ := hk y hy
  exact ⟨h1, h2, by simpa [cvStep] using h3, cvLit_sm h4⟩
theorem eqStep_self (x : S81) (hx : smStep x) : Ev (fun k => laws_eqStep.f k x.f0 x.f1 x.f2 x.f3 x.f0 x.f1 x.f2 x.f3) true := by
  obtain ⟨h1, h2, h3, hk⟩ := hx
  simp only [laws_eqStep.f]
  exact Ev.pos trivial (Ev.bnd (eqIntS_self x.f1 (by omega)) (Ev.pos rfl (Ev.bnd (eqIntS_self x.f2 (by omega)) (Ev.pos rfl (Ev.bnd (eqLitS_self x.f3 h3 hk) (Ev.pos rfl (Ev.ret _)))))))
theorem eqStepS_l0 (post : List S81) : ∀ pre : List S81, (pre ++ post).length ≤ 1048576 → (∀ x ∈ post, smStep x) → Ev (fun k => laws_eqStepS.l0 k (pre ++ post) (pre ++ post) (pre.length : Int)) true := by
  induction post with
  | nil =>
    intro pre hl hk
    refine Ev.succ ?_
    simp only [laws_eqStepS.l0]
    exact Ev.neg (by simp) (Ev.ret _)
  | cons x post ih =>
    intro pre hl hk
    have h := ih (pre ++ [x]) (by simpa using hl) (fun y hy => hk y (by simp [hy]))
    have hx := hk x (by simp)
    simp only [List.length_append, List.length_cons] at hl
    refine Ev.succ ?_
    simp only [laws_eqStepS.l0]
    refine Ev.pos (by simp only [List.length_append, List.length_cons]; omega) (Ev.pos (by omega) (Ev.pos (by simp only [List.length_append, List.length_cons]; omega) ?_))
    rw [rdSB_mid, w64 (by omega) (by omega)]
    exact Ev.bnd (eqStep_self _ hx) (Ev.pos rfl (by simpa using h))
theorem eqStepS_self (l : List S81) (hl : l.length ≤ 1048576) (hk : ∀ x ∈ l, smStep x) : Ev (fun k => laws_eqStepS.f k l l) true := by
  simp only [laws_eqStepS.f]
  exact Ev.pos trivial (by simpa using eqStepS_l0 l [] (by simpa using hl) hk)

/-! Literals and clauses over a signature. -/
def isLit (s : List Int) (x : S65) : Bool := isTerm s x.f1 && isTerm s x.f2
def isClause (s : List Int) (l : List S65) : Bool := decide (l.length ≤ 8) && l.all (isLit s)
theorem spec_l1End_tot (s : List Int) (hsl : s.length ≤ 1048576) (l : List Int) : ∀ (pre : List Int) (n : Int), (pre ++ l).length ≤ 1000000000 → ∃ r, Ev (fun k => spec_l1End.l0 k (pre ++ l) (pre.length : Int) n s) r := by
  induction l with
  | nil =>
    intro pre n hl
    by_cases g : n > 0
    · refine ⟨-1, Ev.succ ?_⟩
      simp only [spec_l1End.l0]
      refine Ev.pos g (Ev.pos (by simp) (Ev.succ ?_))
      simp only [spec_l1End.j1]
      exact Ev.pos trivial (Ev.ret _)
    · refine ⟨(pre.length : Int), Ev.succ ?_⟩
      simp only [spec_l1End.l0]
      exact Ev.neg g (Ev.ret _)
  | cons x l ih =>
    intro pre n hl
    have hl' := hl
    simp only [List.length_append, List.length_cons] at hl
    by_cases g : n > 0
    · by_cases g1 : -12 ≤ x ∧ x ≤ (s.length : Int) - 1
      · by_cases g2 : x ≥ 0
        · obtain ⟨r, hr⟩ := ih (pre ++ [x]) (wrap64 (wrap64 (n - 1) + rd s x)) (by simpa using hl')
          refine ⟨r, Ev.succ ?_⟩
          simp only [spec_l1End.l0]
          refine Ev.pos g (Ev.neg (by simp only [List.length_append, List.length_cons]; omega) (Ev.pos (by omega) (Ev.pos (by simp only [List.length_append, List.length_cons]; omega) ?_)))
          rw [rd_mid, w64 (x := (s.length : Int) - 1) (by omega) (by omega)]
          refine Ev.bnd1 (spec_in_eq _ _ _) (Ev.succ ?_)
          simp only [spec_l1End.j1]
          refine Ev.neg (by rw [decide_eq_true g1]; simp) (Ev.pos (by omega) (Ev.pos (by simp only [List.length_append, List.length_cons]; omega) ?_))
          rw [rd_mid, w64 (x := (pre.length : Int) + 1) (by omega) (by omega)]
          exact Ev.pos g2 (Ev.pos g2 (Ev.pos (by omega) (by simpa using hr)))
        · obtain ⟨r, hr⟩ := ih (pre ++ [x]) (wrap64 (n - 1)) (by simpa using hl')
          refine ⟨r, Ev.succ ?_⟩
          simp only [spec_l1End.l0]
          refine Ev.pos g (Ev.neg (by simp only [List.length_append, List.length_cons]; omega) (Ev.pos (by omega) (Ev.pos (by simp only [List.length_append, List.length_cons]; omega) ?_)))
          rw [rd_mid, w64 (x := (s.length : Int) - 1) (by omega) (by omega)]
          refine Ev.bnd1 (spec_in_eq _ _ _) (Ev.succ ?_)
          simp only [spec_l1End.j1]
          refine Ev.neg (by rw [decide_eq_true g1]; simp) (Ev.pos (by omega) (Ev.pos (by simp only [List.length_append, List.length_cons]; omega) ?_))
          rw [rd_mid, w64 (x := (pre.length : Int) + 1) (by omega) (by omega)]
          exact Ev.neg g2 (by simpa using hr)
      · refine ⟨-1, Ev.succ ?_⟩
        simp only [spec_l1End.l0]
        refine Ev.pos g (Ev.neg (by simp only [List.length_append, List.length_cons]; omega) (Ev.pos (by omega) (Ev.pos (by simp only [List.length_append, List.length_cons]; omega) ?_)))
        rw [rd_mid, w64 (x := (s.length : Int) - 1) (by omega) (by omega)]
        refine Ev.bnd1 (spec_in_eq _ _ _) (Ev.succ ?_)
        simp only [spec_l1End.j1]
        exact Ev.pos (by rw [decide_eq_false g1]; rfl) (Ev.ret _)
    · refine ⟨(pre.length : Int), Ev.succ ?_⟩
      simp only [spec_l1End.l0]
      exact Ev.neg g (Ev.ret _)
/-- The reference's word about a term over any row of numbers: it is the word about terms where the row is a signature. -/
theorem spec_l1Term_tot (s : List Int) (hsl : s.length ≤ 1048576) (l : List Int) : ∃ b, Ev (fun k => spec_l1Term.f k s l) b ∧ (goodSign s = true → b = isTerm s l) := by
  by_cases hs : goodSign s = true
  · exact ⟨_, spec_l1Term_ev s hs l, fun _ => rfl⟩
  · simp only [spec_l1Term.f]
    by_cases g : (1 : Int) ≤ (l.length : Int) ∧ (l.length : Int) ≤ 40
    · obtain ⟨r, h⟩ := spec_l1End_tot s hsl l [] 1 (by simp only [List.nil_append]; omega)
      refine ⟨_, Ev.bnd1 (spec_in_eq _ _ _) (Ev.pos (decide_eq_true g) (Ev.bnd (a := r) ?_ (Ev.ret _))), fun h => absurd h hs⟩
      simp only [spec_l1End.f]
      simpa using h
    · exact ⟨_, Ev.bnd1 (spec_in_eq _ _ _) (Ev.neg (by rw [decide_eq_false g]; simp) (Ev.ret _)), fun h => absurd h hs⟩
theorem spec_l4Lit_tot (s : List Int) (hsl : s.length ≤ 1048576) (x : S65) : ∃ b, Ev (fun k => spec_l4Lit.f k s x.f0 x.f1 x.f2) b ∧ (goodSign s = true → b = isLit s x) := by
  obtain ⟨b1, h1, e1⟩ := spec_l1Term_tot s hsl x.f1
  obtain ⟨b2, h2, e2⟩ := spec_l1Term_tot s hsl x.f2
  simp only [spec_l4Lit.f]
  cases b1 with
  | true => exact ⟨b2, Ev.bnd h1 (Ev.pos rfl (Ev.bnd h2 (Ev.ret _))), fun h => by unfold isLit; rw [← e1 h, ← e2 h]; rfl⟩
  | false => exact ⟨false, Ev.bnd h1 (Ev.neg (by simp) (Ev.ret _)), fun h => by unfold isLit; rw [← e1 h]; rfl⟩
theorem spec_l4Clause_l0 (s : List Int) (hsl : s.length ≤ 1048576) (x1 : List S65) (post : List S65) : ∀ pre : List S65, (pre ++ post).length ≤ 1048576 →
    ∃ b, Ev (fun k => spec_l4Clause.l0 k x1 (pre ++ post) ((pre ++ post).length : Int) (pre.length : Int) s) b ∧ (goodSign s = true → b = (post.all (isLit s) && decide (x1.length ≤ 8))) := by
  induction post with
  | nil =>
    intro pre hl
    refine ⟨decide ((x1.length : Int) ≤ 8), Ev.succ ?_, fun _ => ?_⟩
    · simp only [spec_l4Clause.l0]
      exact Ev.neg (by simp) (Ev.ret _)
    · rw [List.all_nil, Bool.true_and]; congr 1; simp only [eq_iff_iff]; omega
  | cons x post ih =>
    intro pre hl
    have hl' := hl
    simp only [List.length_append, List.length_cons] at hl
    obtain ⟨b1, h1, e1⟩ := spec_l4Lit_tot s hsl x
    have pref : ∀ {g : Nat → Option Bool} {r : Bool}, Ev (fun k => (spec_l4Lit.f k s x.f0 x.f1 x.f2).bind fun t => if t = true then g k else some false) r → Ev (fun k => if (pre.length : Int) < ((pre ++ x :: post).length : Int) then (if 0 ≤ (pre.length : Int) then (if (pre.length : Int) < ((pre ++ x :: post).length : Int) then ((spec_l4Lit.f k s ((rd_T65 (pre ++ x :: post) (pre.length : Int)).f0) ((rd_T65 (pre ++ x :: post) (pre.length : Int)).f1) ((rd_T65 (pre ++ x :: post) (pre.length : Int)).f2)).bind fun t => if t = true then g k else some false) else none) else none) else some (decide ((x1.length : Int) ≤ 8))) r := by
      intro g r h
      refine Ev.pos (by simp only [List.length_append, List.length_cons]; omega) (Ev.pos (by omega) (Ev.pos (by simp only [List.length_append, List.length_cons]; omega) ?_))
      rw [rdLB_mid]
      exact h
    cases b1 with
    | true =>
      obtain ⟨b2, h2, e2⟩ := ih (pre ++ [x]) (by simpa using hl')
      refine ⟨b2, Ev.succ ?_, fun h => by rw [e2 h, List.all_cons, ← e1 h, Bool.true_and]⟩
      simp only [spec_l4Clause.l0]
      rw [w64 (x := (pre.length : Int) + 1) (by omega) (by omega)]
      exact pref (Ev.bnd h1 (Ev.pos rfl (by simpa using h2)))
    | false =>
      refine ⟨false, Ev.succ ?_, fun h => by rw [List.all_cons, ← e1 h, Bool.false_and, Bool.false_and]⟩
      simp only [spec_l4Clause.l0]
      exact pref (Ev.bnd h1 (Ev.neg (by simp) (Ev.ret _)))
theorem spec_l4Clause_tot (s : List Int) (hsl : s.length ≤ 1048576) (l : List S65) (hl : l.length ≤ 1048576) : ∃ b, Ev (fun k => spec_l4Clause.f k s l) b ∧ (goodSign s = true → b = isClause s l) := by
  obtain ⟨b, h, e⟩ := spec_l4Clause_l0 s hsl l l [] (by simpa using hl)
  simp only [spec_l4Clause.f]
  exact ⟨b, by simpa using h, fun hs => by rw [e hs, isClause, Bool.and_comm]⟩
theorem impl_isLit_ev (s : List Int) (hs : goodSign s = true) (x : S65) : Ev (fun k => impl_Sign_isLit.f k s x.f0 x.f1 x.f2) (isLit s x) := by
  simp only [impl_Sign_isLit.f]
  refine Ev.bnd (impl_isTerm_ev s hs x.f1) ?_
  unfold isLit
  cases isTerm s x.f1 with
  | true => exact Ev.pos rfl (Ev.bnd (impl_isTerm_ev s hs x.f2) (Ev.eq (Ev.ret _) rfl))
  | false => exact Ev.neg (by simp) (Ev.ret _)
/-- A search through a row whose word takes rounds. -/
theorem anyO_ev {α : Type} (f : Nat → α → Option Bool) (p : α → Bool) (l : List α) (h : ∀ x ∈ l, Ev (fun k => f k x) (!p x)) : Ev (fun k => anyO (fun x => f k x) l) (!l.all p) := by
  induction l with
  | nil => exact Ev.ret _
  | cons x t ih =>
    simp only [anyO]
    refine Ev.bnd (h x (by simp)) ?_
    cases hp : p x with
    | true => exact Ev.neg (by simp) (Ev.eq (ih (fun y hy => h y (by simp [hy]))) (by simp [hp]))
    | false => exact Ev.pos rfl (Ev.eq (Ev.ret _) (by simp [hp]))
theorem impl_isClause_ev (s : List Int) (hs : goodSign s = true) (l : List S65) : Ev (fun k => impl_Sign_isClause.f k s l) (isClause s l) := by
  simp only [impl_Sign_isClause.f, isClause]
  by_cases g : l.length ≤ 8
  · refine Ev.pos (by omega) (Ev.bnd (a := !l.all (isLit s)) ?_ (Ev.eq (Ev.ret _) ?_))
    · simp only [impl_Sign_isClause_1_any.f]
      refine anyO_ev _ _ _ (fun x _ => ?_)
      simp only [impl_Sign_isClause_1.f]
      exact Ev.bnd (impl_isLit_ev s hs x) (Ev.ret _)
    · rw [decide_eq_true g, Bool.not_not, Bool.true_and]
  · exact Ev.neg (by omega) (Ev.eq (Ev.ret _) (by rw [decide_eq_false g, Bool.false_and]))

/-! A row of steps: each made of earlier ones. -/
def areSteps (s : List Int) (l : List S81) : Bool := decide (l.length ≤ 200) && l.all fun x => isClause s x.f3
/-- Whether each step names earlier ones alone, the first of them being number `i`. -/
def linkedFrom : Int → List S81 → Bool
  | _, [] => true
  | i, x :: t => inAll 0 (i - 1) x.f1 && linkedFrom (i + 1) t
def areLinked (s : List Int) (l : List S81) : Bool := goodSign s && (areSteps s l && linkedFrom 0 l)
theorem spec_l8Steps_l0 (s : List Int) (hsl : s.length ≤ 1048576) (x1 : List S81) (post : List S81) : ∀ pre : List S81, (pre ++ post).length ≤ 1048576 → (∀ x ∈ post, smStep x) →
    Ev (fun k => spec_l8Steps.l0 k x1 (pre ++ post) ((pre ++ post).length : Int) (pre.length : Int) s) (goodSign s && (decide (x1.length ≤ 200) && post.all fun x => isClause s x.f3)) := by
  induction post with
  | nil =>
    intro pre hl hk
    refine Ev.succ ?_
    simp only [spec_l8Steps.l0]
    refine Ev.neg (by simp) (Ev.bnd (spec_GoodSign_ev s (by omega)) ?_)
    cases goodSign s with
    | true => exact Ev.pos rfl (Ev.eq (Ev.ret _) (by rw [Bool.true_and, List.all_nil, Bool.and_true]; congr 1; simp only [eq_iff_iff]; omega))
    | false => exact Ev.neg (by simp) (Ev.eq (Ev.ret _) (by simp))
  | cons x post ih =>
    intro pre hl hk
    have h := ih (pre ++ [x]) (by simpa using hl) (fun y hy => hk y (by simp [hy]))
    simp only [List.length_append, List.length_cons] at hl
    obtain ⟨b1, h1, e1⟩ := spec_l4Clause_tot s hsl x.f3 (hk x (by simp)).2.2.1
    refine Ev.succ ?_
    simp only [spec_l8Steps.l0]
    refine Ev.pos (by simp only [List.length_append, List.length_cons]; omega) (Ev.pos (by omega) (Ev.pos (by simp only [List.length_append, List.length_cons]; omega) ?_))
    rw [rdSB_mid, w64 (by omega) (by omega)]
    refine Ev.bnd h1 ?_
    cases b1 with
    | true =>
      refine Ev.pos rfl (Ev.eq (Ev.congr (fun k => ?_) h) ?_)
      · simp
      · cases hs : goodSign s with
        | true => rw [List.all_cons, ← e1 hs]; simp only [Bool.true_and]
        | false => rfl
    | false =>
      refine Ev.neg (by simp) (Ev.eq (Ev.ret _) ?_)
      cases hs : goodSign s with
      | true => rw [List.all_cons, ← e1 hs, Bool.false_and, Bool.and_false, Bool.and_false]
      | false => rfl
theorem spec_l8Steps_ev (s : List Int) (hsl : s.length ≤ 1048576) (l : List S81) (hl : l.length ≤ 1048576) (hk : ∀ x ∈ l, smStep x) : Ev (fun k => spec_l8Steps.f k s l) (goodSign s && areSteps s l) := by
  simp only [spec_l8Steps.f]
  simpa [areSteps] using spec_l8Steps_l0 s hsl l l [] (by simpa using hl) hk
theorem spec_l9Steps_l0 (s : List Int) (hsl : s.length ≤ 1048576) (x1 : List S81) (hx1 : x1.length ≤ 1048576) (hx1k : ∀ x ∈ x1, smStep x) (post : List S81) : ∀ pre : List S81, pre ++ post = x1 →
    Ev (fun k => spec_l9Steps.l0 k x1 (pre ++ post) ((pre ++ post).length : Int) (pre.length : Int) s) ((goodSign s && areSteps s x1) && linkedFrom (pre.length : Int) post) := by
  induction post with
  | nil =>
    intro pre he
    refine Ev.succ ?_
    simp only [spec_l9Steps.l0]
    exact Ev.neg (by simp) (Ev.bnd (spec_l8Steps_ev s hsl x1 hx1 hx1k) (Ev.eq (Ev.ret _) (by simp [linkedFrom])))
  | cons x post ih =>
    intro pre he
    have h := ih (pre ++ [x]) (by simpa using he)
    have hl : pre.length + (post.length + 1) = x1.length := by rw [← he]; simp
    have hxm : smStep x := hx1k x (by rw [← he]; simp)
    refine Ev.succ ?_
    simp only [spec_l9Steps.l0]
    refine Ev.pos (by simp only [List.length_append, List.length_cons]; omega) (Ev.pos (by omega) (Ev.pos (by simp only [List.length_append, List.length_cons]; omega) ?_))
    rw [rdSB_mid, w64 (x := (pre.length : Int) + 1) (by omega) (by omega), w64 (x := (pre.length : Int) - 1) (by omega) (by omega)]
    by_cases g : (pre.length : Int) ≥ 200
    · refine Ev.pos g (Ev.eq (Ev.ret _) ?_)
      have : areSteps s x1 = false := by unfold areSteps; rw [decide_eq_false (by omega), Bool.false_and]
      rw [this, Bool.and_false, Bool.false_and]
    · refine Ev.neg g (Ev.bnd (spec_l1All_ev 0 ((pre.length : Int) - 1) x.f1 (by have := hxm.1; omega)) ?_)
      simp only [linkedFrom]
      cases inAll 0 ((pre.length : Int) - 1) x.f1 with
      | true => exact Ev.pos rfl (Ev.eq (Ev.congr (fun k => by simp) h) (by simp))
      | false => exact Ev.neg (by simp) (Ev.eq (Ev.ret _) (by simp))
theorem spec_l9Steps_ev (s : List Int) (hsl : s.length ≤ 1048576) (l : List S81) (hl : l.length ≤ 1048576) (hk : ∀ x ∈ l, smStep x) : Ev (fun k => spec_l9Steps.f k s l) (areLinked s l) := by
  simp only [spec_l9Steps.f]
  have h := spec_l9Steps_l0 s hsl l hl hk l [] rfl
  exact Ev.eq (by simpa using h) (by unfold areLinked; rw [Bool.and_assoc]; try simp)
theorem impl_areSteps_ev (s : List Int) (hs : goodSign s = true) (l : List S81) : Ev (fun k => impl_Sign_areSteps.f k s l) (areSteps s l) := by
  simp only [impl_Sign_areSteps.f, areSteps]
  by_cases g : l.length ≤ 200
  · refine Ev.pos (by omega) (Ev.bnd (a := !l.all fun x => isClause s x.f3) ?_ (Ev.eq (Ev.ret _) ?_))
    · simp only [impl_Sign_areSteps_1_any.f]
      refine anyO_ev _ _ _ (fun x _ => ?_)
      simp only [impl_Sign_areSteps_1.f]
      exact Ev.bnd (impl_isClause_ev s hs x.f3) (Ev.ret _)
    · rw [decide_eq_true g, Bool.not_not, Bool.true_and]
  · exact Ev.neg (by omega) (Ev.eq (Ev.ret _) (by rw [decide_eq_false g, Bool.false_and]))
theorem impl_areOf_eq (l : List S81) (f : List Int) : impl_areOf.f l f = some (inAll 0 ((l.length : Int) - 1) f) := by
  unfold impl_areOf.f
  have h : impl_areOf_1_any.f f l = some (!inAll 0 ((l.length : Int) - 1) f) := by
    unfold impl_areOf_1_any.f inAll
    refine anyO_not _ _ _ (fun x _ => ?_)
    unfold impl_areOf_1.f
    by_cases h1 : x < 0
    · rw [if_pos h1, decide_eq_false (by omega)]; rfl
    · rw [if_neg h1]
      by_cases h2 : x ≤ (l.length : Int) - 1
      · rw [decide_eq_true (show 0 ≤ x ∧ x ≤ (l.length : Int) - 1 by omega), decide_eq_false (by omega)]; rfl
      · rw [decide_eq_false (show ¬ (0 ≤ x ∧ x ≤ (l.length : Int) - 1) by omega), decide_eq_true (by omega)]; rfl
  rw [h, Option.bind_some, Bool.not_not]
theorem impl_areLinked_l0 (x1 : List S81) (hx : x1.length ≤ 1048576) (post : List S81) : ∀ pre : List S81, pre ++ post = x1 →
    Ev (fun k => impl_areLinked.l0 k x1 (pre ++ post) ((pre ++ post).length : Int) (pre.length : Int)) (linkedFrom (pre.length : Int) post) := by
  induction post with
  | nil =>
    intro pre he
    refine Ev.succ ?_
    simp only [impl_areLinked.l0]
    exact Ev.neg (by simp) (Ev.ret _)
  | cons x post ih =>
    intro pre he
    have h := ih (pre ++ [x]) (by simpa using he)
    have hl : pre.length + (post.length + 1) = x1.length := by rw [← he]; simp
    have hc := impl_areOf_eq (x1.take ((pre.length : Int)).toNat) x.f1
    have ht : (x1.take ((pre.length : Int)).toNat).length = pre.length := by rw [List.length_take]; omega
    rw [ht] at hc
    refine Ev.succ ?_
    simp only [impl_areLinked.l0]
    refine Ev.pos (by simp only [List.length_append, List.length_cons]; omega) (Ev.pos (by omega) (Ev.pos (by simp only [List.length_append, List.length_cons]; omega) (Ev.pos (by omega) ?_)))
    rw [rdSB_mid, w64 (by omega) (by omega)]
    refine Ev.bnd1 hc ?_
    simp only [linkedFrom]
    cases inAll 0 ((pre.length : Int) - 1) x.f1 with
    | true => exact Ev.pos rfl (Ev.eq (by simpa using h) (by simp))
    | false => exact Ev.neg (by simp) (Ev.eq (Ev.ret _) (by simp))
theorem impl_areLinked_ev (s : List Int) (l : List S81) (hl : l.length ≤ 1048576) : Ev (fun k => impl_areLinked.f k s l) (areLinked s l) := by
  simp only [impl_areLinked.f, areLinked]
  refine Ev.bnd1 (impl_GoodSign_eq s) ?_
  cases hs : goodSign s with
  | false =>
    refine Ev.neg (by simp) (Ev.succ ?_)
    simp only [impl_areLinked.j0]
    exact Ev.pos trivial (Ev.eq (Ev.ret _) (by simp))
  | true =>
    refine Ev.pos rfl (Ev.bnd (impl_areSteps_ev s hs l) ?_)
    cases areSteps s l with
    | false =>
      refine Ev.succ ?_
      simp only [impl_areLinked.j0]
      exact Ev.pos rfl (Ev.eq (Ev.ret _) (by simp))
    | true =>
      refine Ev.succ ?_
      simp only [impl_areLinked.j0]
      have h := impl_areLinked_l0 l hl l [] rfl
      exact Ev.neg (by simp) (Ev.eq (by simpa using h) (by simp))

/-! Several things at once, with enough rounds. -/
def Evp (P : Nat → Prop) : Prop := ∃ K, ∀ k, K ≤ k → P k
theorem Evp.and {P Q : Nat → Prop} (hp : Evp P) (hq : Evp Q) : Evp (fun k => P k ∧ Q k) := by
  obtain ⟨K1, h1⟩ := hp
  obtain ⟨K2, h2⟩ := hq
  exact ⟨K1 + K2, fun k hk => ⟨h1 k (by omega), h2 k (by omega)⟩⟩
theorem Evp.some {P : Nat → Prop} (h : Evp P) : ∃ k, P k := by
  obtain ⟨K, h⟩ := h
  exact ⟨K, h K (Nat.le_refl _)⟩
theorem Evp.of {α : Type} {g : Nat → Option α} {r : α} (h : Ev g r) : Evp (fun k => g k = .some r) := h
theorem Evp.const {p : Prop} (h : p) : Evp (fun _ => p) := ⟨0, fun _ _ => h⟩

def ups : Int → Nat → List Int
  | _, 0 => []
  | m, n + 1 => m :: ups (m + 1) n
theorem ups_len (n : Nat) : ∀ m, (ups m n).length = n := by
  induction n with
  | zero => intro m; rfl
  | succ n ih => intro m; simp [ups, ih]
theorem markIntS_l0 (post : List Int) : ∀ (pre : List Int) (m : Int), 0 ≤ m → m + post.length ≤ 4611686018427387904 → (pre ++ post).length ≤ 140737488351232 → Ev (fun k => laws_markIntS.l0 k (pre ++ post) m (pre.length : Int)) (m + post.length, pre ++ ups m post.length) := by
  induction post with
  | nil =>
    intro pre m h0 h1 hl
    refine Ev.succ ?_
    simp only [laws_markIntS.l0]
    exact Ev.neg (by simp) (Ev.eq (Ev.ret _) (by simp [ups]))
  | cons x post ih =>
    intro pre m h0 h1 hl
    simp only [List.length_append, List.length_cons] at hl h1
    have h := ih (pre ++ [m]) (m + 1) (by omega) (by omega) (by simp only [List.length_append, List.length_cons, List.length_nil]; omega)
    refine Ev.succ ?_
    simp only [laws_markIntS.l0]
    refine Ev.pos (by simp only [List.length_append, List.length_cons]; omega) (Ev.pos (by omega) ?_)
    rw [w64 (x := m + 1) (by omega) (by omega), w64 (by omega) (by omega)]
    have e : (pre ++ x :: post).set ((pre.length : Int)).toNat m = pre ++ [m] ++ post := by simp
    rw [e]
    refine Ev.eq (by simpa using h) ?_
    simp only [ups, List.length_cons, Prod.mk.injEq]
    exact ⟨by omega, trivial⟩
theorem markIntS (l : List Int) (m : Int) (h0 : 0 ≤ m) (h1 : m + l.length ≤ 4611686018427387904) (hl : l.length ≤ 140737488351232) : Ev (fun k => laws_markIntS.f k l m) (m + l.length, ups m l.length) := by
  simp only [laws_markIntS.f]
  simpa using markIntS_l0 l [] m h0 h1 (by simpa using hl)
theorem heldIntS_l0 (n : Nat) : ∀ (pre : List Int) (m : Int), 0 ≤ m → m + n ≤ 4611686018427387904 → pre.length + n ≤ 140737488351232 → Ev (fun k => laws_heldIntS.l0 k (pre ++ ups m n) m (pre.length : Int)) (m + n) := by
  induction n with
  | zero =>
    intro pre m h0 h1 hl
    refine Ev.succ ?_
    simp only [laws_heldIntS.l0]
    exact Ev.neg (by simp [ups]) (Ev.eq (Ev.ret _) (by simp))
  | succ n ih =>
    intro pre m h0 h1 hl
    have h := ih (pre ++ [m]) (m + 1) (by omega) (by omega) (by simp only [List.length_append, List.length_cons, List.length_nil]; omega)
    refine Ev.succ ?_
    simp only [laws_heldIntS.l0]
    refine Ev.pos (by simp only [List.length_append, ups_len]; omega) (Ev.pos (by omega) (Ev.pos (by simp only [ups]; exact rd_mid _ _ _) ?_))
    rw [w64 (x := m + 1) (by omega) (by omega), w64 (by omega) (by omega)]
    refine Ev.eq (by simpa [ups] using h) (by omega)
theorem heldIntS (n : Nat) (m : Int) (h0 : 0 ≤ m) (h1 : m + n ≤ 4611686018427387904) (hl : n ≤ 140737488351232) : Ev (fun k => laws_heldIntS.f k (ups m n) m) (m + n) := by
  simp only [laws_heldIntS.f]
  simpa using heldIntS_l0 n [] m h0 h1 (by simpa using hl)

theorem sum_le_mul {α : Type} (f : α → Nat) (c : Nat) (l : List α) (h : ∀ x ∈ l, f x ≤ c) : (l.map f).sum ≤ l.length * c := by
  induction l with
  | nil => simp
  | cons x t ih =>
    have h1 := ih (fun y hy => h y (by simp [hy]))
    have h2 := h x (by simp)
    rw [List.map_cons, List.sum_cons, List.length_cons, Nat.add_mul, Nat.one_mul]
    omega
theorem ltot_le (l : List S65) (hl : l.length ≤ 1048576) (hk : ∀ x ∈ l, smLit x) : ltot l ≤ 2199024304128 := by
  have h := sum_le_mul lsz 2097153 l (fun x hx => by have := hk x hx; unfold smLit at this; unfold lsz; omega)
  have h2 : l.length * 2097153 ≤ 1048576 * 2097153 := Nat.mul_le_mul_right _ hl
  unfold ltot
  omega
theorem okMarkL_of (l : List S65) (hk : ∀ x ∈ l, smLit x) : ∀ x ∈ l, okMarkL x := fun x hx => by have := hk x hx; unfold smLit at this; unfold okMarkL; omega
theorem markSign_ev (l : List Int) (m : Int) (h0 : 0 ≤ m) (h1 : m + l.length ≤ 4611686018427387904) (hl : l.length ≤ 140737488351232) : Ev (fun k => laws_markSign.f k l m) (m + l.length, ups m l.length) := by
  simp only [laws_markSign.f]
  exact Ev.bnd (markIntS l m h0 h1 hl) (Ev.ret _)

theorem stot_le (l : List S81) (hl : l.length ≤ 1048576) (hk : ∀ x ∈ l, smStep x) : stot l ≤ 2305846307749625856 := by
  have h := sum_le_mul ssz 2199026401281 l (fun x hx => by
    obtain ⟨h1, h2, h3, h4⟩ := hk x hx
    have := ltot_le x.f3 h3 h4
    unfold ssz
    omega)
  have h2 : l.length * 2199026401281 ≤ 1048576 * 2199026401281 := Nat.mul_le_mul_right _ hl
  unfold stot
  omega
theorem okMark_of (l : List S81) (hk : ∀ x ∈ l, smStep x) : ∀ x ∈ l, okMark x := fun x hx => by
  obtain ⟨h1, h2, h3, h4⟩ := hk x hx
  exact ⟨by omega, by omega, by omega, okMarkL_of x.f3 h4⟩

/-! Rows in strictly increasing order. -/
def asc (l : List Int) : Prop := l.Pairwise (· < ·)
theorem asc_ext (a : List Int) : ∀ b : List Int, asc a → asc b → (∀ x, x ∈ a ↔ x ∈ b) → a = b := by
  induction a with
  | nil =>
    intro b _ _ h
    cases b with
    | nil => rfl
    | cons y b => exact absurd ((h y).2 (by simp)) (by simp)
  | cons x a ih =>
    intro b ha hb h
    cases b with
    | nil => exact absurd ((h x).1 (by simp)) (by simp)
    | cons y b =>
      obtain ⟨ha1, ha2⟩ := List.pairwise_cons.1 ha
      obtain ⟨hb1, hb2⟩ := List.pairwise_cons.1 hb
      have e : x = y := by
        rcases List.mem_cons.1 ((h x).1 (by simp)) with e | e
        · exact e
        · rcases List.mem_cons.1 ((h y).2 (by simp)) with e2 | e2
          · exact e2.symm
          · have := hb1 x e
            have := ha1 y e2
            omega
      subst e
      rw [ih b ha2 hb2 (fun z => ?_)]
      constructor
      · intro hz
        rcases List.mem_cons.1 ((h z).1 (List.mem_cons_of_mem _ hz)) with e | e
        · have := ha1 z hz; omega
        · exact e
      · intro hz
        rcases List.mem_cons.1 ((h z).2 (List.mem_cons_of_mem _ hz)) with e | e
        · have := hb1 z hz; omega
        · exact e
theorem asc_ins (pre post : List Int) (v : Int) (h : asc (pre ++ post)) (h1 : ∀ x ∈ pre, x < v) (h2 : ∀ x ∈ post, v < x) : asc (pre ++ v :: post) := by
  unfold asc at h ⊢
  rw [List.pairwise_append] at h ⊢
  refine ⟨h.1, List.pairwise_cons.2 ⟨h2, h.2.1⟩, fun a ha b hb => ?_⟩
  rcases List.mem_cons.1 hb with rfl | hb
  · exact h1 a ha
  · exact h.2.2 a ha b hb
theorem put_l0 (v : Int) (post : List Int) : ∀ (pre : List Int), (pre ++ post).length ≤ 2097152 → asc (pre ++ post) → (∀ x ∈ pre, x < v) →
    ∃ r, Ev (fun k => spec_l1Put.l0 k (pre ++ post) v (pre.length : Int)) r ∧ asc r ∧ (∀ y, y ∈ r ↔ y = v ∨ y ∈ pre ++ post) ∧ r.length ≤ (pre ++ post).length + 1 := by
  induction post with
  | nil =>
    intro pre hl ha hp
    simp only [List.length_append, List.length_nil] at hl
    refine ⟨([] ++ (pre ++ []).take ((pre.length : Int)).toNat ++ [v]) ++ (pre ++ []).drop ((pre.length : Int)).toNat, Ev.succ ?_, ?_, fun y => by simp [or_comm], by simp⟩
    · simp only [spec_l1Put.l0]
      exact Ev.neg (by simp) (Ev.bnd1 rfl (Ev.pos (by omega) (Ev.pos (by simp) (Ev.bnd1 rfl (Ev.pos (by simp; omega) (Ev.bnd1 rfl (Ev.pos (by simp; omega) (Ev.bnd1 rfl (Ev.bnd1 rfl (Ev.pos (by simp; omega) (Ev.ret _)))))))))))
    · have := asc_ins pre [] v ha hp (by simp)
      simpa using this
  | cons x post ih =>
    intro pre hl ha hp
    have hl' := hl
    simp only [List.length_append, List.length_cons] at hl
    have e0 : wrap64 ((pre.length : Int) + 1) = (pre.length : Int) + 1 := w64 (by omega) (by omega)
    by_cases g : x < v
    · obtain ⟨r, h1, h2, h3, h4⟩ := ih (pre ++ [x]) (by simpa using hl') (by simpa using ha) (fun y hy => by
        rcases List.mem_append.1 hy with hy | hy
        · exact hp y hy
        · rw [List.mem_singleton.1 hy]; exact g)
      refine ⟨r, Ev.succ ?_, h2, fun y => by rw [h3]; simp, by simpa using h4⟩
      simp only [spec_l1Put.l0]
      refine Ev.pos (by simp only [List.length_append, List.length_cons]; omega) (Ev.pos (by omega) ?_)
      rw [rd_mid, e0]
      exact Ev.pos g (by simpa using h1)
    · by_cases g2 : x = v
      · refine ⟨pre ++ x :: post, Ev.succ ?_, ha, fun y => ⟨fun h => .inr h, fun h => ?_⟩, by omega⟩
        · simp only [spec_l1Put.l0]
          refine Ev.pos (by simp only [List.length_append, List.length_cons]; omega) (Ev.pos (by omega) ?_)
          rw [rd_mid]
          exact Ev.neg g (Ev.pos g2 (Ev.ret _))
        · rcases h with rfl | h
          · simp [g2]
          · exact h
      · refine ⟨([] ++ (pre ++ x :: post).take ((pre.length : Int)).toNat ++ [v]) ++ (pre ++ x :: post).drop ((pre.length : Int)).toNat, Ev.succ ?_, ?_, fun y => ?_, by simp; omega⟩
        · simp only [spec_l1Put.l0]
          refine Ev.pos (by simp only [List.length_append, List.length_cons]; omega) (Ev.pos (by omega) ?_)
          rw [rd_mid]
          exact Ev.neg g (Ev.neg g2 (Ev.bnd1 rfl (Ev.pos (by simp only [List.length_append, List.length_cons]; omega) (Ev.bnd1 rfl (Ev.pos (by simp; omega) (Ev.bnd1 rfl (Ev.pos (by simp; omega) (Ev.bnd1 rfl (Ev.bnd1 rfl (Ev.pos (by simp; omega) (Ev.ret _)))))))))))
        · have hpost : ∀ y ∈ x :: post, v < y := fun y hy => by
            rcases List.mem_cons.1 hy with rfl | hy
            · omega
            · unfold asc at ha
              rw [List.pairwise_append] at ha
              have := (List.pairwise_cons.1 ha.2.1).1 y hy
              omega
          have := asc_ins pre (x :: post) v ha hp hpost
          simpa using this
        · simp only [Int.toNat_natCast, List.nil_append, List.take_left', List.drop_left', List.mem_append, List.mem_cons, List.not_mem_nil, or_false]
          constructor
          · rintro ((h | h) | h | h)
            · exact .inr (.inl h)
            · exact .inl h
            · exact .inr (.inr (.inl h))
            · exact .inr (.inr (.inr h))
          · rintro (h | h | h | h)
            · exact .inl (.inr h)
            · exact .inl (.inl h)
            · exact .inr (.inl h)
            · exact .inr (.inr h)
theorem put_ev (l : List Int) (v : Int) (hl : l.length ≤ 2097152) (ha : asc l) : ∃ r, Ev (fun k => spec_l1Put.f k l v) r ∧ asc r ∧ (∀ y, y ∈ r ↔ y = v ∨ y ∈ l) ∧ r.length ≤ l.length + 1 := by
  obtain ⟨r, h1, h2, h3, h4⟩ := put_l0 v l [] (by simpa using hl) (by simpa using ha) (by simp)
  refine ⟨r, ?_, h2, by simpa using h3, by simpa using h4⟩
  simp only [spec_l1Put.f]
  simpa using h1

/-! The inputs of steps, in order, each once. -/
theorem compact_sorted (d : Array Int) (hd : ∀ i j, i ≤ j → j < d.size → d[i]! ≤ d[j]!) (m : Nat) : m ≤ d.size → asc (Lib.compactUpTo d m) ∧ ∀ x, x ∈ Lib.compactUpTo d m ↔ ∃ j, j < m ∧ d[j]! = x := by
  induction m with
  | zero => intro _; refine ⟨by simp [Lib.compactUpTo, asc], fun x => by simp [Lib.compactUpTo]⟩
  | succ m ih =>
    intro hm
    obtain ⟨h1, h2⟩ := ih (by omega)
    rw [Lib.compactUpTo_succ]
    by_cases g : Lib.keeps d m = true
    · rw [if_pos g]
      constructor
      · unfold asc at h1 ⊢
        rw [List.pairwise_append]
        refine ⟨h1, by simp, fun a ha b hb => ?_⟩
        obtain ⟨j, hj, e⟩ := (h2 a).1 ha
        rw [List.mem_singleton.1 hb, ← e]
        unfold Lib.keeps at g
        rw [decide_eq_true_eq] at g
        have q1 := hd j (m - 1) (by omega) (by omega)
        have q2 := hd (m - 1) m (by omega) (by omega)
        rcases g with g | g
        · omega
        · omega
      · intro x
        rw [List.mem_append, h2, List.mem_singleton]
        constructor
        · rintro (⟨j, hj, e⟩ | e)
          · exact ⟨j, by omega, e⟩
          · exact ⟨m, by omega, e.symm⟩
        · rintro ⟨j, hj, e⟩
          by_cases q : j = m
          · exact .inr (by rw [← e, q])
          · exact .inl ⟨j, by omega, e⟩
    · rw [if_neg g, List.append_nil]
      refine ⟨h1, fun x => ?_⟩
      rw [h2]
      constructor
      · rintro ⟨j, hj, e⟩; exact ⟨j, by omega, e⟩
      · rintro ⟨j, hj, e⟩
        by_cases q : j = m
        · unfold Lib.keeps at g
          rw [decide_eq_true_eq] at g
          by_cases q0 : m = 0
          · exact absurd (.inl q0) g
          · refine ⟨m - 1, by omega, ?_⟩
            rw [← e, q]
            by_cases q3 : d[m]! = d[m - 1]!
            · exact q3.symm
            · exact absurd (.inr q3) g
        · exact ⟨j, by omega, e⟩
theorem compact_merge (l : List Int) : asc (Lib.compact (l.mergeSort fun a b => decide (a ≤ b))) ∧ ∀ x, x ∈ Lib.compact (l.mergeSort fun a b => decide (a ≤ b)) ↔ x ∈ l := by
  generalize hz : (l.mergeSort fun a b => decide (a ≤ b)) = z
  have hp : z.Pairwise (fun a b => a ≤ b) := by
    have := List.pairwise_mergeSort (le := fun a b : Int => decide (a ≤ b)) (fun a b c h1 h2 => by simp only [decide_eq_true_eq] at *; omega) (fun a b => by simp only [Bool.or_eq_true, decide_eq_true_eq]; omega) l
    rw [hz] at this
    exact this.imp (fun h => by simpa using h)
  have hm : ∀ x, x ∈ z ↔ x ∈ l := fun x => by rw [← hz]; exact List.mem_mergeSort
  have hd : ∀ i j, i ≤ j → j < z.toArray.size → z.toArray[i]! ≤ z.toArray[j]! := by
    intro i j hij hj
    have hj' : j < z.length := by simpa using hj
    have e1 : z.toArray[i]! = z[i]'(by omega) := by simp [getElem!_pos, show i < z.length by omega]
    have e2 : z.toArray[j]! = z[j]'hj' := by simp [getElem!_pos, hj']
    rw [e1, e2]
    by_cases q : i = j
    · subst q; omega
    · exact List.pairwise_iff_getElem.1 hp i j (by omega) hj' (by omega)
  unfold Lib.compact
  obtain ⟨h1, h2⟩ := compact_sorted z.toArray hd z.length (by simp)
  refine ⟨h1, fun x => ?_⟩
  rw [h2, ← hm]
  constructor
  · rintro ⟨j, hj, e⟩
    have e2 : z.toArray[j]! = z[j]'hj := by simp [getElem!_pos, hj]
    rw [← e, e2]
    exact List.getElem_mem hj
  · intro hx
    obtain ⟨j, hj, e⟩ := List.getElem_of_mem hx
    exact ⟨j, hj, by simp [getElem!_pos, hj, e]⟩
theorem inputs_got_len (l : List S81) : (impl_inputsOf.got l).length ≤ l.length := by
  induction l with
  | nil => simp [impl_inputsOf.got]
  | cons x t ih =>
    simp only [impl_inputsOf.got, List.length_append, List.length_cons]
    split <;> simp <;> omega
theorem spec_inputs_l0 (post : List S81) : ∀ (pre : List S81) (acc : List Int), (pre ++ post).length ≤ 1048576 → acc.length ≤ pre.length → asc acc →
    ∃ r, Ev (fun k => spec_InputsOf.l0 k acc (pre ++ post) ((pre ++ post).length : Int) (pre.length : Int)) (r, true) ∧ asc r ∧ ∀ x, x ∈ r ↔ x ∈ acc ∨ x ∈ impl_inputsOf.got post := by
  induction post with
  | nil =>
    intro pre acc hl ha hs
    refine ⟨acc, Ev.succ ?_, hs, fun x => by simp [impl_inputsOf.got]⟩
    simp only [spec_InputsOf.l0]
    exact Ev.neg (by simp) (Ev.ret _)
  | cons y post ih =>
    intro pre acc hl ha hs
    have hl' := hl
    simp only [List.length_append, List.length_cons] at hl
    have e0 : wrap64 ((pre.length : Int) + 1) = (pre.length : Int) + 1 := w64 (by omega) (by omega)
    have hp : (pre ++ [y]) ++ post = pre ++ y :: post := by simp
    have hn : ((pre ++ [y]).length : Int) = (pre.length : Int) + 1 := by simp
    by_cases g : y.f0 = 1 ∧ y.f2.length = 1
    · obtain ⟨t, p1, p2, p3, p4⟩ := put_ev acc (rd y.f2 0) (by omega) hs
      obtain ⟨r, h1, h2, h3⟩ := ih (pre ++ [y]) t (by simpa using hl') (by rw [List.length_append, List.length_singleton]; omega) p2
      rw [hp, hn] at h1
      refine ⟨r, Ev.succ ?_, h2, fun x => ?_⟩
      · simp only [spec_InputsOf.l0]
        refine Ev.pos (by simp only [List.length_append, List.length_cons]; omega) (Ev.pos (by omega) (Ev.pos (by simp only [List.length_append, List.length_cons]; omega) ?_))
        rw [rdSB_mid, e0]
        exact Ev.pos g.1 (Ev.pos (by omega) (Ev.pos (by omega) (Ev.bnd p1 h1)))
      · rw [h3, p3]
        simp only [impl_inputsOf.got]
        rw [if_pos g, List.mem_append, List.mem_singleton]
        constructor
        · rintro ((h | h) | h)
          · exact .inr (.inl h)
          · exact .inl h
          · exact .inr (.inr h)
        · rintro (h | h | h)
          · exact .inl (.inr h)
          · exact .inl (.inl h)
          · exact .inr h
    · obtain ⟨r, h1, h2, h3⟩ := ih (pre ++ [y]) acc (by simpa using hl') (by rw [List.length_append, List.length_singleton]; omega) hs
      rw [hp, hn] at h1
      refine ⟨r, Ev.succ ?_, h2, fun x => ?_⟩
      · simp only [spec_InputsOf.l0]
        refine Ev.pos (by simp only [List.length_append, List.length_cons]; omega) (Ev.pos (by omega) (Ev.pos (by simp only [List.length_append, List.length_cons]; omega) ?_))
        rw [rdSB_mid, e0]
        by_cases g1 : y.f0 = 1
        · exact Ev.pos g1 (Ev.neg (fun q => g ⟨g1, by omega⟩) h1)
        · exact Ev.neg g1 h1
      · rw [h3]
        simp only [impl_inputsOf.got]
        rw [if_neg g, List.nil_append]
theorem InputsOf_ex (s : List Int) (hs : s.length ≤ 1048576) (l : List S81) (hl : l.length ≤ 1048576) (hk : ∀ x ∈ l, smStep x) :
    ∃ r : List Int × Bool, r.1.length ≤ 1048576 ∧ Ev (fun k => spec_InputsOf.f k s l) r ∧ Ev (fun k => impl_InputsOf.f k s l) r := by
  by_cases g : areLinked s l = true
  · obtain ⟨r, h1, h2, h3⟩ := spec_inputs_l0 l [] [] (by simpa using hl) (by simp) (by simp [asc])
    obtain ⟨c1, c2⟩ := compact_merge (impl_inputsOf.got l)
    have e : r = Lib.compact ((impl_inputsOf.got l).mergeSort fun a b => decide (a ≤ b)) := asc_ext _ _ h2 c1 (fun x => by rw [h3, c2]; simp)
    have hlen : r.length ≤ l.length := by
      rw [e]
      refine Nat.le_trans (Lib.compact_length_le _) ?_
      rw [List.length_mergeSort]
      exact inputs_got_len l
    refine ⟨(r, true), by simp only; omega, ?_, ?_⟩
    · simp only [spec_InputsOf.f]
      exact Ev.bnd (spec_l9Steps_ev s hs l hl hk) (Ev.pos g (by simpa using h1))
    · simp only [impl_InputsOf.f]
      refine Ev.bnd (impl_areLinked_ev s l hl) (Ev.pos g (Ev.bnd1 (a := r) ?_ (Ev.ret _)))
      unfold impl_inputsOf.f
      rw [if_pos (by omega), e]
  · refine ⟨([], false), by simp, ?_, ?_⟩
    · simp only [spec_InputsOf.f]
      exact Ev.bnd (spec_l9Steps_ev s hs l hl hk) (Ev.neg g (Ev.ret _))
    · simp only [impl_InputsOf.f]
      exact Ev.bnd (impl_areLinked_ev s l hl) (Ev.neg g (Ev.ret _))

theorem FnExactInputsOf : laws_FnExactInputsOf.Pure := by
  intro l0 l1 h0 h1
  have hm : (maxLen : Nat) ≤ 9223372036854775807 := by unfold maxLen; omega
  have hs0 : l0.length ≤ 9223372036854775807 := by have := h0.1; omega
  have hs1 : l1.length ≤ 9223372036854775807 := by have := h1.1; omega
  have hok1 : ∀ x ∈ l1, okStepA x := fun x hx => by
    obtain ⟨_, g1, g2, g3⟩ := h1.2 x hx
    exact ⟨by have := g1.1; omega, by have := g2.1; omega, by have := g3.1; omega, fun y hy => by
      obtain ⟨_, f1, f2⟩ := g3.2 y hy
      exact ⟨by have := f1.1; omega, by have := f2.1; omega⟩⟩
  clear h0 h1 hm
  suffices hF : ∃ k, laws_FnExactInputsOf.Facts k l0 l1 by
    obtain ⟨k, h⟩ := hF
    exact ⟨k, laws_FnExactInputsOf.f_of h⟩
  have hz0 := szSign_eq l0 1048576 (by omega) (by omega) hs0
  by_cases g0 : (l0.length : Int) ≤ 1048576
  rotate_left
  · exact ⟨0, ⟨-1, by rw [hz0, if_neg g0], .inl (by omega)⟩⟩
  rw [if_pos g0] at hz0
  have hb0 : l0.length ≤ 1048576 := by omega
  obtain ⟨z1, hz1, hzr1, hzk1⟩ := szStepS_ev l1 (1048576 - (l0.length : Int)) (by omega) (by omega) hs1 hok1
  by_cases g1 : z1 < 0
  · obtain ⟨k, ehz1⟩ := (Evp.of hz1).some
    exact ⟨k, ⟨_, hz0, .inr ⟨by omega, ⟨_, ehz1, .inl g1⟩⟩⟩⟩
  obtain ⟨hb1, hkA1⟩ := hzk1 (by omega)
  have hl1 : (l1.map cvStep).length ≤ 1048576 := by rw [List.length_map]; exact hb1
  have hk1 := cvStep_sm hkA1
  obtain ⟨⟨r0, r1⟩, hlen, es, ei⟩ := InputsOf_ex l0 hb0 (l1.map cvStep) hl1 hk1
  simp only at hlen
  have hT1 := stot_le (l1.map cvStep) hl1 hk1
  obtain ⟨k, ehz1, t0, t1, es, ei, q0, q0_, q1_, k0_, mi, hi⟩ := (Evp.and (Evp.of hz1) (Evp.and (Evp.of (toSign_ev l0 hb0)) (Evp.and (Evp.of (toStepS_ev l1 hb1 hkA1)) (Evp.and (Evp.of es) (Evp.and (Evp.of ei) (Evp.and (Evp.of (eqIntS_self r0 (by omega))) (Evp.and (Evp.of (eqSign_self l0 hb0)) (Evp.and (Evp.of (eqStepS_self _ hl1 hk1)) (Evp.and (Evp.of (markSign_ev l0 1 (by omega) (by omega) (by omega))) (Evp.and (Evp.of (markIntS r0 1 (by omega) (by omega) (by omega))) (Evp.of (heldIntS r0.length 1 (by omega) (by omega) (by omega))))))))))))).some
  exact ⟨k, ⟨_, hz0, .inr ⟨by omega, ⟨_, ehz1, .inr ⟨by omega, ⟨(l1.map cvStep), r0, r1, (1 + (l0.length : Int)), ((1 + (l0.length : Int)) + stot (l1.map cvStep)), _, _, _, ⟨t0, t1, es, ei, q0, q0_, q1_, (by omega), k0_, (by omega), ⟨⟨by omega, rfl, by omega⟩, okMark_of (l1.map cvStep) hk1, by omega⟩, mi, hi, (by omega)⟩⟩⟩⟩⟩⟩⟩

end Go.Proofs.Ytlgnanbnicmdaab.Pure
