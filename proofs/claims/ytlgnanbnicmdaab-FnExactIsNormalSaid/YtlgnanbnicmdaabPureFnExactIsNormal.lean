/- The program's IsNormal returns what the reference's returns, for all arguments.
Conditions: none beyond what the row itself says. -/
import Derived.Test.YtlgnanbnicmdaabQFnExactIsNormalx13
namespace Go.Proofs.Ytlgnanbnicmdaab.Pure
open Go.RowKit Go.Proofs.Ytlgnanbnicmdaab.QFnExactIsNormal Go.Proofs.YtlgnanbnicmdaabW.PrintWords Go.Proofs.YtlgnanbnicmdaabW.PrintLast Go.Proofs.YtlgnanbnicmdaabW.PrintMore
set_option linter.unusedVariables false
set_option linter.unusedSimpArgs false

theorem w64 {x : Int} (h0 : -9223372036854775808 ≤ x) (h1 : x ≤ 9223372036854775807) : wrap64 x = x := by
  unfold wrap64; omega
theorem wf64 {a : Int} (h : (Lit.int .i64 a).wf = true) : -9223372036854775808 ≤ a ∧ a ≤ 9223372036854775807 := by
  simp only [Lit.wf, IntKind.min, IntKind.max, IntKind.signed, IntKind.bits, Bool.and_eq_true, decide_eq_true_eq, if_true] at h
  omega

theorem Ev.succ {α : Type} {g : Nat → Option α} {r : α} (h : Ev (fun k => g (k + 1)) r) : Ev g r := Ev.step (fun _ => rfl) h
theorem Ev.pos {α : Type} {c : Prop} [Decidable c] {a b : Nat → Option α} {r : α} (h : c) (e : Ev (fun k => a k) r) : Ev (fun k => if c then a k else b k) r := Ev.congr (fun _ => if_pos h) e
theorem Ev.neg {α : Type} {c : Prop} [Decidable c] {a b : Nat → Option α} {r : α} (h : ¬ c) (e : Ev (fun k => b k) r) : Ev (fun k => if c then a k else b k) r := Ev.congr (fun _ => if_neg h) e
theorem Ev.bnd {α β : Type} {g : Nat → Option α} {f : Nat → α → Option β} {a : α} {r : β} (h : Ev (fun k => g k) a) (k : Ev (fun n => f n a) r) : Ev (fun n => (g n).bind (fun x => f n x)) r := Ev.bind h k
theorem Ev.bnd1 {α β : Type} {g : Option α} {f : Nat → α → Option β} {a : α} {r : β} (h : g = some a) (k : Ev (fun n => f n a) r) : Ev (fun n => g.bind (fun x => f n x)) r := by
  rw [h]; exact k
theorem Ev.ret {α : Type} (r : α) : Ev (fun _ => some r) r := Ev.now r
theorem Ev.eq {α : Type} {g : Nat → Option α} {r r' : α} (h : Ev g r) (e : r = r') : Ev g r' := e ▸ h
theorem Ev.all {α : Type} {g : Nat → Option α} {r : α} (h : Ev (fun k => g k) r) : ∃ k, g k = some r := h.rounds
theorem rd_mid (pre : List Int) (x : Int) (post : List Int) : rd (pre ++ x :: post) (pre.length : Int) = x := by
  unfold rd; simp
theorem rd_nat (xs : List Int) (i : Nat) (h : i < xs.length) : rd xs (i : Int) = xs[i] := by
  unfold rd; simp [List.getD_eq_getElem?_getD, List.getElem?_eq_getElem h]

theorem toIntS_l0 (post : List Int) : ∀ (pre rest : List Int), rest.length = post.length → (pre ++ post).length ≤ 140737488351232 → Ev (fun k => laws_toIntS.l0 k (pre ++ post) (pre ++ rest) (pre.length : Int)) (pre ++ post) := by
  induction post with
  | nil =>
    intro pre rest hr hl
    obtain rfl : rest = [] := List.eq_nil_of_length_eq_zero hr
    refine Ev.succ ?_
    simp only [laws_toIntS.l0]
    exact Ev.neg (by simp) (Ev.ret _)
  | cons x post ih =>
    intro pre rest hr hl
    obtain ⟨y, rest, rfl⟩ : ∃ y t, rest = y :: t := by cases rest with | nil => simp at hr | cons y t => exact ⟨y, t, rfl⟩
    have h := ih (pre ++ [x]) rest (by simpa using hr) (by simpa using hl)
    simp only [List.length_append, List.length_cons, List.length_nil] at hl hr h
    refine Ev.succ ?_
    simp only [laws_toIntS.l0, List.length_append, List.length_cons]
    refine Ev.pos (by omega) (Ev.pos (by omega) (Ev.pos (by omega) ?_))
    rw [rd_mid, w64 (by omega) (by omega)]
    have e : (pre ++ y :: rest).set ((pre.length : Int)).toNat x = pre ++ [x] ++ rest := by simp
    rw [e]
    simpa using h
theorem toIntS (l : List Int) (h : l.length * 8 ≤ 140737488351232) : Ev (fun k => laws_toIntS.f k l) l := by
  simp only [laws_toIntS.f]
  refine Ev.pos (by omega) (Ev.pos (by omega) ?_)
  have := toIntS_l0 l [] (List.replicate l.length 0) (by simp) (by simp; omega)
  simpa using this

theorem eqIntS_l0 (pa : List Int) : ∀ (pa' pb pb' : List Int), pa'.length = pb'.length → pa.length = pb.length → (pa' ++ pa).length ≤ 140737488351232 → Ev (fun k => laws_eqIntS.l0 k (pa' ++ pa) (pb' ++ pb) (pa'.length : Int)) (decide (pa = pb)) := by
  induction pa with
  | nil =>
    intro pa' pb pb' h1 h2 hl
    obtain rfl : pb = [] := List.eq_nil_of_length_eq_zero h2.symm
    refine Ev.succ ?_
    simp only [laws_eqIntS.l0]
    exact Ev.neg (by simp) (Ev.eq (Ev.ret _) (by simp))
  | cons x pa ih =>
    intro pa' pb pb' h1 h2 hl
    obtain ⟨y, pb, rfl⟩ : ∃ y t, pb = y :: t := by cases pb with | nil => simp at h2 | cons y t => exact ⟨y, t, rfl⟩
    have h := ih (pa' ++ [x]) pb (pb' ++ [y]) (by simpa using h1) (by simpa using h2) (by simpa using hl)
    simp only [List.length_append, List.length_cons, List.length_nil] at hl h2 h
    refine Ev.succ ?_
    simp only [laws_eqIntS.l0, List.length_append, List.length_cons]
    refine Ev.pos (by omega) (Ev.pos (by omega) (Ev.pos (by omega) ?_))
    rw [rd_mid, show (pa'.length : Int) = (pb'.length : Int) by omega, rd_mid]
    by_cases e : x = y
    · subst e
      refine Ev.pos rfl ?_
      rw [w64 (by omega) (by omega)]
      refine Ev.eq (Ev.congr (fun k => ?_) h) (by simp)
      simp [h1]
    · exact Ev.neg e (Ev.eq (Ev.ret _) (by simp [e]))
theorem eqIntS (a b : List Int) (h : a.length ≤ 140737488351232) : Ev (fun k => laws_eqIntS.f k a b) (decide (a = b)) := by
  simp only [laws_eqIntS.f]
  by_cases e : a.length = b.length
  · exact Ev.pos (by omega) (by simpa using eqIntS_l0 a [] b [] rfl e (by simpa using h))
  · exact Ev.neg (by omega) (Ev.eq (Ev.ret _) (by simp only [false_eq_decide_iff]; intro h; exact e (by rw [h])))
theorem eqIntS_self (a : List Int) (h : a.length ≤ 140737488351232) : Ev (fun k => laws_eqIntS.f k a a) true := Ev.eq (eqIntS a a h) (by simp)

theorem spec_in_eq (a lo hi : Int) : spec_l1In.f a lo hi = some (decide (lo ≤ a ∧ a ≤ hi)) := by
  unfold spec_l1In.f
  by_cases h1 : a ≥ lo
  · rw [if_pos h1]
    by_cases h2 : a ≤ hi
    · rw [decide_eq_true h2, decide_eq_true ⟨h1, h2⟩]
    · rw [decide_eq_false h2, decide_eq_false (fun h => h2 h.2)]
  · rw [if_neg h1, decide_eq_false (fun h => h1 h.1)]
def inAll (lo hi : Int) (l : List Int) : Bool := l.all fun x => decide (lo ≤ x ∧ x ≤ hi)
theorem spec_l1All_l0 (lo hi : Int) (post : List Int) : ∀ pre : List Int, (pre ++ post).length ≤ 140737488351232 → Ev (fun k => spec_l1All.l0 k lo hi (pre ++ post) ((pre ++ post).length : Int) (pre.length : Int)) (inAll lo hi post) := by
  induction post with
  | nil =>
    intro pre hl
    refine Ev.succ ?_
    simp only [spec_l1All.l0]
    exact Ev.neg (by simp) (Ev.ret _)
  | cons x post ih =>
    intro pre hl
    have h := ih (pre ++ [x]) (by simpa using hl)
    simp only [List.length_append, List.length_cons] at hl
    refine Ev.succ ?_
    simp only [spec_l1All.l0]
    refine Ev.pos (by simp only [List.length_append, List.length_cons]; omega) (Ev.pos (by omega) (Ev.pos (by simp only [List.length_append, List.length_cons]; omega) ?_))
    rw [rd_mid]
    refine Ev.bnd1 (spec_in_eq _ _ _) ?_
    by_cases hx : lo ≤ x ∧ x ≤ hi
    · rw [decide_eq_true hx]
      refine Ev.pos rfl ?_
      rw [w64 (by omega) (by omega)]
      refine Ev.eq (by simpa using h) ?_
      simp [inAll, hx]
    · rw [decide_eq_false hx]
      exact Ev.neg (by simp) (Ev.eq (Ev.ret _) (by simp only [inAll, List.all_cons, decide_eq_false hx, Bool.false_and]))
theorem spec_l1All_ev (lo hi : Int) (l : List Int) (hl : l.length ≤ 140737488351232) : Ev (fun k => spec_l1All.f k l lo hi) (inAll lo hi l) := by
  simp only [spec_l1All.f]
  simpa using spec_l1All_l0 lo hi l [] (by simpa using hl)
theorem inAll_mem {lo hi : Int} {l : List Int} (h : inAll lo hi l = true) : ∀ x ∈ l, lo ≤ x ∧ x ≤ hi := by
  intro x hx
  unfold inAll at h
  simpa using List.all_eq_true.1 h x hx

theorem anyO_not {α : Type} (f : α → Option Bool) (p : α → Bool) (l : List α) (h : ∀ x ∈ l, f x = some (!p x)) : anyO f l = some (!l.all p) := by
  induction l with
  | nil => rfl
  | cons x t ih =>
    simp only [anyO]
    rw [h x (by simp), Option.bind_some]
    cases hp : p x with
    | true => simp [hp, ih (fun y hy => h y (by simp [hy]))]
    | false => simp [hp]

def goodSign (s : List Int) : Bool := decide (1 ≤ s.length ∧ s.length ≤ 10) && (inAll 0 3 s && (rd s 0 == 0))
theorem goodSign_len {s : List Int} (h : goodSign s = true) : 1 ≤ s.length ∧ s.length ≤ 10 := by
  unfold goodSign at h
  simp only [Bool.and_eq_true, decide_eq_true_eq] at h
  exact h.1
theorem goodSign_mem {s : List Int} (h : goodSign s = true) : ∀ x ∈ s, 0 ≤ x ∧ x ≤ 3 := by
  unfold goodSign at h
  simp only [Bool.and_eq_true] at h
  exact inAll_mem h.2.1
theorem goodSign_rd {s : List Int} (h : goodSign s = true) (x : Int) (h0 : 0 ≤ x) (h1 : x < s.length) : 0 ≤ rd s x ∧ rd s x ≤ 3 := by
  obtain ⟨n, rfl⟩ : ∃ n : Nat, x = n := ⟨x.toNat, by omega⟩
  have hn : n < s.length := by omega
  rw [rd_nat s n hn]
  exact goodSign_mem h _ (List.getElem_mem hn)
theorem spec_GoodSign_ev (s : List Int) (hl : s.length ≤ 140737488351232) : Ev (fun k => spec_GoodSign.f k s) (goodSign s) := by
  simp only [spec_GoodSign.f]
  refine Ev.bnd1 (spec_in_eq _ _ _) ?_
  by_cases g : 1 ≤ s.length ∧ s.length ≤ 10
  · have g' : (1 : Int) ≤ (s.length : Int) ∧ (s.length : Int) ≤ 10 := by omega
    refine Ev.pos (decide_eq_true g') (Ev.bnd (spec_l1All_ev 0 3 s hl) ?_)
    unfold goodSign
    rw [decide_eq_true g, Bool.true_and]
    cases ha : inAll 0 3 s with
    | true => exact Ev.pos rfl (Ev.pos (by omega) (Ev.eq (Ev.ret _) rfl))
    | false => exact Ev.neg (by simp) (Ev.eq (Ev.ret _) rfl)
  · have g' : ¬ ((1 : Int) ≤ (s.length : Int) ∧ (s.length : Int) ≤ 10) := by omega
    refine Ev.neg (by rw [decide_eq_false g']; simp) (Ev.eq (Ev.ret _) ?_)
    unfold goodSign
    rw [decide_eq_false g, Bool.false_and]
theorem impl_GoodSign_any (s : List Int) : impl_GoodSign_1_any.f s = some (!inAll 0 3 s) := by
  unfold impl_GoodSign_1_any.f inAll
  refine anyO_not _ _ _ (fun x _ => ?_)
  unfold impl_GoodSign_1.f
  by_cases h1 : x < 0
  · rw [if_pos h1, decide_eq_false (by omega)]; rfl
  · rw [if_neg h1]
    by_cases h2 : x ≤ 3
    · rw [decide_eq_true (show 0 ≤ x ∧ x ≤ 3 by omega), decide_eq_false (by omega)]; rfl
    · rw [decide_eq_false (show ¬ (0 ≤ x ∧ x ≤ 3) by omega), decide_eq_true (by omega)]; rfl
theorem impl_GoodSign_eq (s : List Int) : impl_GoodSign.f s = some (goodSign s) := by
  unfold impl_GoodSign.f goodSign
  by_cases g : 1 ≤ s.length ∧ s.length ≤ 10
  · rw [if_neg (by omega), if_neg (by omega), if_pos (by omega), decide_eq_true g, Bool.true_and]
    by_cases e : rd s 0 = 0
    · rw [if_pos e, impl_GoodSign_any, e]; simp
    · rw [if_neg e]; simp [e]
  · rw [decide_eq_false g, Bool.false_and]
    by_cases h1 : (s.length : Int) < 1
    · rw [if_pos h1]
    · rw [if_neg h1, if_pos (by omega)]

/-! Terms in prefix form. -/
/-- How many arguments a token takes. -/
def ar (s : List Int) (x : Int) : Nat := if x < 0 then 0 else (rd s x).toNat
/-- Whether a number may stand in a term. -/
def tok (s : List Int) (x : Int) : Bool := decide (-12 ≤ x ∧ x < s.length)
/-- What is left of a row when so many terms are read off it. -/
def eat (s : List Int) : List Int → Nat → Option (List Int)
  | l, 0 => some l
  | [], _ + 1 => none
  | x :: l, n + 1 => if tok s x = true then eat s l (n + ar s x) else none
def isTerm (s : List Int) (l : List Int) : Bool := decide (1 ≤ l.length ∧ l.length ≤ 40) && (eat s l 1 == some [])
def goodTerm (s : List Int) (l : List Int) : Bool := goodSign s && isTerm s l
theorem ar_le {s : List Int} (h : goodSign s = true) {x : Int} (ht : tok s x = true) : ar s x ≤ 3 := by
  unfold tok at ht
  simp only [decide_eq_true_eq] at ht
  unfold ar
  by_cases g : x < 0
  · rw [if_pos g]; omega
  · rw [if_neg g]
    have := goodSign_rd h x (by omega) (by omega)
    omega
theorem ar_rd {s : List Int} (h : goodSign s = true) {x : Int} (h0 : 0 ≤ x) (ht : tok s x = true) : rd s x = (ar s x : Int) := by
  unfold tok at ht
  simp only [decide_eq_true_eq] at ht
  unfold ar
  rw [if_neg (by omega)]
  have := goodSign_rd h x (by omega) (by omega)
  omega
theorem eat_suf (s : List Int) (l : List Int) : ∀ (n : Nat) (r : List Int), eat s l n = some r → ∃ c, l = c ++ r := by
  induction l with
  | nil =>
    intro n r h
    cases n with
    | zero => simp only [eat, Option.some.injEq] at h; exact ⟨[], by simp [h]⟩
    | succ n => simp [eat] at h
  | cons x l ih =>
    intro n r h
    cases n with
    | zero => simp only [eat, Option.some.injEq] at h; exact ⟨[], by simp [h]⟩
    | succ n =>
      simp only [eat] at h
      split at h
      · obtain ⟨c, e⟩ := ih _ _ h
        exact ⟨x :: c, by rw [e]; rfl⟩
      · simp at h
theorem eat_zero (s : List Int) (l : List Int) : eat s l 0 = some l := by cases l <;> rfl
theorem eat_split (s : List Int) (l : List Int) : ∀ (n m : Nat) (r : List Int), eat s l (n + m) = some r → ∃ mid, eat s l n = some mid ∧ eat s mid m = some r := by
  induction l with
  | nil =>
    intro n m r h
    cases n with
    | zero => exact ⟨[], eat_zero _ _, by simpa using h⟩
    | succ n => rw [show n + 1 + m = (n + m) + 1 by omega] at h; simp [eat] at h
  | cons x l ih =>
    intro n m r h
    cases n with
    | zero => exact ⟨x :: l, eat_zero _ _, by simpa using h⟩
    | succ n =>
      rw [show n + 1 + m = (n + m) + 1 by omega] at h
      simp only [eat] at h ⊢
      split at h
      · rename_i ht
        rw [if_pos ht]
        exact ih _ _ _ (by rw [← h]; congr 1; omega)
      · simp at h
theorem spec_l1End_l0 (s : List Int) (hs : goodSign s = true) (l : List Int) : ∀ (pre : List Int) (n : Nat), (pre ++ l).length ≤ 1000000000 → n ≤ 3 * pre.length + 3 →
    Ev (fun k => spec_l1End.l0 k (pre ++ l) (pre.length : Int) (n : Int) s) (match eat s l n with | some r => ((pre ++ l).length : Int) - r.length | none => -1) := by
  have hsl := goodSign_len hs
  induction l with
  | nil =>
    intro pre n hl hn
    refine Ev.succ ?_
    simp only [spec_l1End.l0]
    cases n with
    | zero => exact Ev.neg (by simp) (Ev.eq (Ev.ret _) (by simp [eat]))
    | succ n =>
      refine Ev.pos (by omega) (Ev.pos (by simp) (Ev.succ ?_))
      simp only [spec_l1End.j1]
      exact Ev.pos trivial (Ev.eq (Ev.ret _) (by simp [eat]))
  | cons x l ih =>
    intro pre n hl hn
    have hl' := hl
    simp only [List.length_append, List.length_cons] at hl
    refine Ev.succ ?_
    simp only [spec_l1End.l0]
    cases n with
    | zero => exact Ev.neg (by simp) (Ev.eq (Ev.ret _) (by simp only [eat, List.length_append, List.length_cons]; omega))
    | succ n =>
      refine Ev.pos (by omega) (Ev.neg (by simp only [List.length_append, List.length_cons]; omega) (Ev.pos (by omega) (Ev.pos (by simp only [List.length_append, List.length_cons]; omega) ?_)))
      rw [rd_mid, w64 (x := (s.length : Int) - 1) (by omega) (by omega)]
      refine Ev.bnd1 (spec_in_eq _ _ _) (Ev.succ ?_)
      simp only [spec_l1End.j1]
      by_cases g : -12 ≤ x ∧ x ≤ (s.length : Int) - 1
      · have ht : tok s x = true := by unfold tok; exact decide_eq_true (by omega)
        have har := ar_le hs ht
        have h := ih (pre ++ [x]) (n + ar s x) (by simpa using hl') (by simp only [List.length_append, List.length_cons, List.length_nil]; omega)
        refine Ev.neg (by rw [decide_eq_true g]; simp) (Ev.pos (by omega) (Ev.pos (by simp only [List.length_append, List.length_cons]; omega) ?_))
        have e : eat s (x :: l) (n + 1) = eat s l (n + ar s x) := by simp only [eat]; rw [if_pos ht]
        rw [e]
        have e0 : wrap64 ((pre.length : Int) + 1) = (pre.length : Int) + 1 := w64 (by omega) (by omega)
        have e1 : wrap64 (((n + 1 : Nat) : Int) - 1) = (n : Int) := by rw [w64 (by omega) (by omega)]; omega
        rw [rd_mid, e0, e1]
        have h' : Ev (fun k => spec_l1End.l0 k (pre ++ x :: l) ((pre.length : Int) + 1) ((n : Int) + (ar s x : Int)) s) (match eat s l (n + ar s x) with | some r => ((pre ++ x :: l).length : Int) - r.length | none => -1) := by simpa using h
        by_cases g0 : x ≥ 0
        · refine Ev.pos g0 (Ev.pos g0 (Ev.pos (by omega) ?_))
          rw [ar_rd hs g0 ht, w64 (by omega) (by omega)]
          exact h'
        · refine Ev.neg g0 ?_
          have e2 : ar s x = 0 := by unfold ar; rw [if_pos (by omega)]
          rw [e2] at h' ⊢
          simpa using h'
      · have ht : ¬ tok s x = true := by unfold tok; rw [decide_eq_true_eq]; omega
        refine Ev.pos (by rw [decide_eq_false g]; rfl) (Ev.eq (Ev.ret _) ?_)
        simp only [eat]
        rw [if_neg ht]
theorem spec_l1End_ev (s : List Int) (hs : goodSign s = true) (pre l : List Int) (hl : (pre ++ l).length ≤ 1000000000) :
    Ev (fun k => spec_l1End.f k s (pre ++ l) (pre.length : Int)) (match eat s l 1 with | some r => ((pre ++ l).length : Int) - r.length | none => -1) := by
  simp only [spec_l1End.f]
  exact spec_l1End_l0 s hs l pre 1 hl (by omega)
theorem spec_l1Term_ev (s : List Int) (hs : goodSign s = true) (l : List Int) : Ev (fun k => spec_l1Term.f k s l) (isTerm s l) := by
  simp only [spec_l1Term.f]
  refine Ev.bnd1 (spec_in_eq _ _ _) ?_
  unfold isTerm
  by_cases g : 1 ≤ l.length ∧ l.length ≤ 40
  · have g' : (1 : Int) ≤ (l.length : Int) ∧ (l.length : Int) ≤ 40 := by omega
    have h := spec_l1End_ev s hs [] l (by simp; omega)
    refine Ev.pos (decide_eq_true g') (Ev.bnd (by simpa using h) (Ev.eq (Ev.ret _) ?_))
    rw [decide_eq_true g, Bool.true_and]
    cases e : eat s l 1 with
    | none => simp
    | some r =>
      cases r with
      | nil => simp
      | cons y r => simp; omega
  · have g' : ¬ ((1 : Int) ≤ (l.length : Int) ∧ (l.length : Int) ≤ 40) := by omega
    refine Ev.neg (by rw [decide_eq_false g']; simp) (Ev.eq (Ev.ret _) ?_)
    rw [decide_eq_false g, Bool.false_and]
theorem impl_args_eq (s : List Int) (hs : goodSign s = true) (x : Int) (ht : tok s x = true) : impl_Sign_args.f s x = some (ar s x : Int) := by
  unfold impl_Sign_args.f
  by_cases g : x < 0
  · rw [if_pos g]; unfold ar; rw [if_pos g]; rfl
  · have ht' := ht
    unfold tok at ht'
    simp only [decide_eq_true_eq] at ht'
    rw [if_neg g, if_pos (by omega), if_pos (by omega), ar_rd hs (by omega) ht]
theorem impl_isTerm_l0 (s : List Int) (hs : goodSign s = true) (l : List Int) : ∀ (pre : List Int) (n : Nat), (pre ++ l).length ≤ 1000000 → n ≤ 3 * pre.length + 3 →
    Ev (fun k => impl_Sign_isTerm.l0 k (n : Int) (pre ++ l) ((pre ++ l).length : Int) (pre.length : Int) s) (eat s l n == some []) := by
  have hsl := goodSign_len hs
  induction l with
  | nil =>
    intro pre n hl hn
    refine Ev.succ ?_
    simp only [impl_Sign_isTerm.l0]
    refine Ev.neg (by simp) (Ev.eq (Ev.ret _) ?_)
    cases n with
    | zero => rfl
    | succ n => first | (simp [eat]; done) | (simp [eat]; omega)
  | cons x l ih =>
    intro pre n hl hn
    have hl' := hl
    simp only [List.length_append, List.length_cons] at hl
    refine Ev.succ ?_
    simp only [impl_Sign_isTerm.l0]
    refine Ev.pos (by simp only [List.length_append, List.length_cons]; omega) (Ev.pos (by omega) (Ev.pos (by simp only [List.length_append, List.length_cons]; omega) ?_))
    cases n with
    | zero => exact Ev.pos rfl (Ev.eq (Ev.ret _) (by simp [eat]))
    | succ n =>
      refine Ev.neg (by omega) ?_
      rw [rd_mid]
      by_cases g1 : x < -12
      · refine Ev.pos g1 (Ev.eq (Ev.ret _) ?_)
        have ht : ¬ tok s x = true := by unfold tok; rw [decide_eq_true_eq]; omega
        simp only [eat]
        rw [if_neg ht]; rfl
      · refine Ev.neg g1 ?_
        by_cases g2 : x ≥ (s.length : Int)
        · refine Ev.pos g2 (Ev.eq (Ev.ret _) ?_)
          have ht : ¬ tok s x = true := by unfold tok; rw [decide_eq_true_eq]; omega
          simp only [eat]
          rw [if_neg ht]; rfl
        · refine Ev.neg g2 ?_
          have ht : tok s x = true := by unfold tok; exact decide_eq_true (by omega)
          have har := ar_le hs ht
          have h := ih (pre ++ [x]) (n + ar s x) (by simpa using hl') (by simp only [List.length_append, List.length_cons, List.length_nil]; omega)
          refine Ev.bnd1 (impl_args_eq s hs x ht) ?_
          have e0 : wrap64 ((pre.length : Int) + 1) = (pre.length : Int) + 1 := w64 (by omega) (by omega)
          have e1 : wrap64 ((ar s x : Int) - 1) = (ar s x : Int) - 1 := w64 (by omega) (by omega)
          have e2 : wrap64 (((n + 1 : Nat) : Int) + ((ar s x : Int) - 1)) = (n : Int) + (ar s x : Int) := by rw [w64 (by omega) (by omega)]; omega
          rw [e0, e1, e2]
          refine Ev.eq (by simpa using h) ?_
          simp only [eat]
          rw [if_pos ht]
theorem impl_isTerm_ev (s : List Int) (hs : goodSign s = true) (l : List Int) : Ev (fun k => impl_Sign_isTerm.f k s l) (isTerm s l) := by
  simp only [impl_Sign_isTerm.f]
  unfold isTerm
  by_cases g : l.length > 40
  · refine Ev.pos (by omega) (Ev.eq (Ev.ret _) ?_)
    rw [decide_eq_false (by omega), Bool.false_and]
  · refine Ev.neg (by omega) ?_
    have h := impl_isTerm_l0 s hs l [] 1 (by simp; omega) (by omega)
    refine Ev.eq (by simpa using h) ?_
    cases l with
    | nil => simp [eat]
    | cons x l => rw [decide_eq_true (show 1 ≤ (x :: l).length ∧ (x :: l).length ≤ 40 by simp only [List.length_cons] at g ⊢; omega), Bool.true_and]

theorem spec_GoodTerm_ev (s l : List Int) (hsl : s.length ≤ 140737488351232) : Ev (fun k => spec_GoodTerm.f k s l) (goodTerm s l) := by
  simp only [spec_GoodTerm.f]
  refine Ev.bnd (spec_GoodSign_ev s hsl) ?_
  unfold goodTerm
  cases hs : goodSign s with
  | true => exact Ev.pos rfl (Ev.bnd (spec_l1Term_ev s hs l) (Ev.eq (Ev.ret _) rfl))
  | false => exact Ev.neg (by simp) (Ev.eq (Ev.ret _) rfl)
theorem impl_GoodTerm_ev (s l : List Int) : Ev (fun k => impl_GoodTerm.f k s l) (goodTerm s l) := by
  simp only [impl_GoodTerm.f]
  refine Ev.bnd1 (impl_GoodSign_eq s) ?_
  unfold goodTerm
  cases hs : goodSign s with
  | true => exact Ev.pos rfl (Ev.bnd (impl_isTerm_ev s hs l) (Ev.eq (Ev.ret _) rfl))
  | false => exact Ev.neg (by simp) (Ev.eq (Ev.ret _) rfl)

theorem szIntS_eq (l : List Int) (a : Int) (h0 : 0 ≤ a) (h1 : a ≤ 1048576) (hl : l.length ≤ 9223372036854775807) : laws_szIntS.f l a = some (if (l.length : Int) ≤ a then a - l.length else -1) := by
  unfold laws_szIntS.f
  rw [w64 (x := a - (l.length : Int)) (by omega) (by omega)]
  by_cases g : a - (l.length : Int) < 0
  · rw [if_pos g, if_neg (by omega)]
  · rw [if_neg g, if_pos (by omega)]
theorem szSign_eq (l : List Int) (a : Int) (h0 : 0 ≤ a) (h1 : a ≤ 1048576) (hl : l.length ≤ 9223372036854775807) : laws_szSign.f l a = some (if (l.length : Int) ≤ a then a - l.length else -1) := by
  unfold laws_szSign.f
  rw [szIntS_eq l a h0 h1 hl, Option.bind_some]
  by_cases g : (l.length : Int) ≤ a
  · rw [if_pos g, if_neg (by omega)]
  · rw [if_neg g]; rfl
theorem toSign_ev (l : List Int) (h : l.length ≤ 1048576) : Ev (fun k => laws_toSign.f k l) l := by
  simp only [laws_toSign.f]
  exact Ev.bnd (toIntS l (by omega)) (Ev.ret _)
theorem eqSign_self (l : List Int) (h : l.length ≤ 1048576) : Ev (fun k => laws_eqSign.f k l l) true := by
  simp only [laws_eqSign.f]
  exact Ev.bnd (eqIntS_self l (by omega)) (Ev.pos rfl (Ev.ret _))

/-! Literals as the laws hand them over. -/
def okLitA (x : S62) : Prop := x.f1.length ≤ 9223372036854775807 ∧ x.f2.length ≤ 9223372036854775807
def smLitA (x : S62) : Prop := x.f1.length ≤ 1048576 ∧ x.f2.length ≤ 1048576
def cvLit (x : S62) : S65 := ⟨x.f0, x.f1, x.f2⟩
def smLit (x : S65) : Prop := x.f1.length ≤ 1048576 ∧ x.f2.length ≤ 1048576
theorem rdLA_mid (pre : List S62) (x : S62) (post : List S62) : rd_T62 (pre ++ x :: post) (pre.length : Int) = x := by
  unfold rd_T62; simp
theorem rdLB_mid (pre : List S65) (x : S65) (post : List S65) : rd_T65 (pre ++ x :: post) (pre.length : Int) = x := by
  unfold rd_T65; simp
theorem szLit_eq (b : Bool) (f1 f2 : List Int) (a : Int) (h0 : 0 ≤ a) (h1 : a ≤ 1048576) (hf1 : f1.length ≤ 9223372036854775807) (hf2 : f2.length ≤ 9223372036854775807) : ∃ r, laws_szLit.f b f1 f2 a = some r ∧ r ≤ a ∧ (0 ≤ r → f1.length ≤ 1048576 ∧ f2.length ≤ 1048576) := by
  unfold laws_szLit.f
  rw [szIntS_eq f1 a h0 h1 hf1, Option.bind_some]
  by_cases g : (f1.length : Int) ≤ a
  · rw [if_pos g, if_neg (by omega), szIntS_eq f2 _ (by omega) (by omega) hf2, Option.bind_some]
    by_cases g2 : (f2.length : Int) ≤ a - f1.length
    · rw [if_pos g2, if_neg (by omega)]; exact ⟨_, rfl, by omega, fun _ => by omega⟩
    · rw [if_neg g2]; exact ⟨-1, rfl, by omega, by omega⟩
  · rw [if_neg g]; exact ⟨-1, rfl, by omega, by omega⟩
theorem szLitS_l0 (post : List S62) : ∀ (pre : List S62) (a : Int), 0 ≤ a → a ≤ 1048576 → (∀ x ∈ post, okLitA x) → (pre ++ post).length ≤ 1048576 →
    ∃ r, Ev (fun k => laws_szLitS.l0 k (pre ++ post) a (pre.length : Int)) r ∧ r ≤ a ∧ (0 ≤ r → ∀ x ∈ post, smLitA x) := by
  induction post with
  | nil =>
    intro pre a h0 h1 hk hl
    refine ⟨a, Ev.succ ?_, by omega, by simp⟩
    simp only [laws_szLitS.l0]
    exact Ev.neg (by simp) (Ev.ret _)
  | cons x post ih =>
    intro pre a h0 h1 hk hl
    have hl' := hl
    simp only [List.length_append, List.length_cons] at hl
    have hx := hk x (by simp)
    obtain ⟨r, e, hr, hs⟩ := szLit_eq x.f0 x.f1 x.f2 a h0 h1 hx.1 hx.2
    by_cases g : r < 0
    · refine ⟨-1, Ev.succ ?_, by omega, by omega⟩
      simp only [laws_szLitS.l0]
      refine Ev.pos (by simp only [List.length_append, List.length_cons]; omega) (Ev.pos (by omega) ?_)
      rw [rdLA_mid]
      exact Ev.bnd1 e (Ev.pos g (Ev.ret _))
    · obtain ⟨r2, e2, hr2, hs2⟩ := ih (pre ++ [x]) r (by omega) (by omega) (fun y hy => hk y (by simp [hy])) (by simpa using hl')
      refine ⟨r2, Ev.succ ?_, by omega, fun h y hy => ?_⟩
      · simp only [laws_szLitS.l0]
        refine Ev.pos (by simp only [List.length_append, List.length_cons]; omega) (Ev.pos (by omega) ?_)
        rw [rdLA_mid, w64 (x := (pre.length : Int) + 1) (by omega) (by omega)]
        exact Ev.bnd1 e (Ev.neg g (by simpa using e2))
      · rcases List.mem_cons.1 hy with rfl | hy
        · exact hs (by omega)
        · exact hs2 h y hy
theorem szLitS_ev (l : List S62) (a : Int) (h0 : 0 ≤ a) (h1 : a ≤ 1048576) (hl : l.length ≤ 9223372036854775807) (hk : ∀ x ∈ l, okLitA x) :
    ∃ r, Ev (fun k => laws_szLitS.f k l a) r ∧ r ≤ a ∧ (0 ≤ r → l.length ≤ 1048576 ∧ ∀ x ∈ l, smLitA x) := by
  simp only [laws_szLitS.f]
  rw [w64 (x := a - (l.length : Int)) (by omega) (by omega)]
  by_cases g : a - (l.length : Int) < 0
  · exact ⟨-1, Ev.pos g (Ev.ret _), by omega, by omega⟩
  · obtain ⟨r, e, hr, hs⟩ := szLitS_l0 l [] (a - l.length) (by omega) (by omega) hk (by simp; omega)
    exact ⟨r, Ev.neg g (by simpa using e), by omega, fun h => ⟨by omega, hs h⟩⟩
theorem toLit_ev (b : Bool) (f1 f2 : List Int) (h1 : f1.length ≤ 1048576) (h2 : f2.length ≤ 1048576) : Ev (fun k => laws_toLit.f k b f1 f2) (b, f1, f2) := by
  simp only [laws_toLit.f]
  exact Ev.bnd (toIntS f1 (by omega)) (Ev.bnd (toIntS f2 (by omega)) (Ev.ret _))
theorem toLitS_l0 (post : List S62) : ∀ (pre : List S62) (pre' rest : List S65), pre'.length = pre.length → rest.length = post.length → (pre ++ post).length ≤ 1048576 → (∀ x ∈ post, smLitA x) →
    Ev (fun k => laws_toLitS.l0 k (pre ++ post) (pre' ++ rest) (pre.length : Int)) (pre' ++ post.map cvLit) := by
  induction post with
  | nil =>
    intro pre pre' rest hp hr hl hk
    obtain rfl : rest = [] := List.eq_nil_of_length_eq_zero hr
    refine Ev.succ ?_
    simp only [laws_toLitS.l0]
    exact Ev.neg (by simp) (Ev.ret _)
  | cons x post ih =>
    intro pre pre' rest hp hr hl hk
    obtain ⟨y, rest, rfl⟩ : ∃ y t, rest = y :: t := by cases rest with | nil => simp at hr | cons y t => exact ⟨y, t, rfl⟩
    have h := ih (pre ++ [x]) (pre' ++ [cvLit x]) rest (by simpa using hp) (by simpa using hr) (by simpa using hl) (fun z hz => hk z (by simp [hz]))
    simp only [List.length_append, List.length_cons, List.length_nil] at hl hr h
    have hx := hk x (by simp)
    refine Ev.succ ?_
    simp only [laws_toLitS.l0, List.length_append, List.length_cons]
    refine Ev.pos (by omega) (Ev.pos (by omega) ?_)
    rw [rdLA_mid, w64 (by omega) (by omega)]
    refine Ev.bnd (toLit_ev _ _ _ hx.1 hx.2) (Ev.pos (by omega) ?_)
    have e : (pre' ++ y :: rest).set ((pre.length : Int)).toNat ⟨x.f0, x.f1, x.f2⟩ = pre' ++ [cvLit x] ++ rest := by simp [← hp, cvLit]
    rw [e]
    simpa using h
theorem toLitS_ev (l : List S62) (h : l.length ≤ 1048576) (hk : ∀ x ∈ l, smLitA x) : Ev (fun k => laws_toLitS.f k l) (l.map cvLit) := by
  simp only [laws_toLitS.f]
  refine Ev.pos (by omega) (Ev.pos (by omega) ?_)
  have := toLitS_l0 l [] [] (List.replicate l.length z65) rfl (by simp) (by simp; omega) hk
  simpa using this
theorem cvLit_sm {l : List S62} (hk : ∀ x ∈ l, smLitA x) : ∀ x ∈ l.map cvLit, smLit x := by
  intro x hx
  obtain ⟨y, hy, rfl⟩ := List.mem_map.1 hx
  exact hk y hy
theorem eqLit_self (b : Bool) (f1 f2 : List Int) (h1 : f1.length ≤ 1048576) (h2 : f2.length ≤ 1048576) : Ev (fun k => laws_eqLit.f k b f1 f2 b f1 f2) true := by
  simp only [laws_eqLit.f]
  exact Ev.neg (by simp) (Ev.bnd (eqIntS_self f1 (by omega)) (Ev.pos rfl (Ev.bnd (eqIntS_self f2 (by omega)) (Ev.pos rfl (Ev.ret _)))))
theorem eqLitS_l0 (post : List S65) : ∀ pre : List S65, (pre ++ post).length ≤ 1048576 → (∀ x ∈ post, smLit x) → Ev (fun k => laws_eqLitS.l0 k (pre ++ post) (pre ++ post) (pre.length : Int)) true := by
  induction post with
  | nil =>
    intro pre hl hk
    refine Ev.succ ?_
    simp only [laws_eqLitS.l0]
    exact Ev.neg (by simp) (Ev.ret _)
  | cons x post ih =>
    intro pre hl hk
    have h := ih (pre ++ [x]) (by simpa using hl) (fun y hy => hk y (by simp [hy]))
    have hx := hk x (by simp)
    simp only [List.length_append, List.length_cons] at hl
    refine Ev.succ ?_
    simp only [laws_eqLitS.l0]
    refine Ev.pos (by simp only [List.length_append, List.length_cons]; omega) (Ev.pos (by omega) (Ev.pos (by simp only [List.length_append, List.length_cons]; omega) ?_))
    rw [rdLB_mid, w64 (by omega) (by omega)]
    exact Ev.bnd (eqLit_self _ _ _ hx.1 hx.2) (Ev.pos rfl (by simpa using h))
theorem eqLitS_self (l : List S65) (hl : l.length ≤ 1048576) (hk : ∀ x ∈ l, smLit x) : Ev (fun k => laws_eqLitS.f k l l) true := by
  simp only [laws_eqLitS.f]
  exact Ev.pos trivial (by simpa using eqLitS_l0 l [] (by simpa using hl) hk)

/-! Several things at once, with enough rounds. -/
def Evp (P : Nat → Prop) : Prop := ∃ K, ∀ k, K ≤ k → P k
theorem Evp.and {P Q : Nat → Prop} (hp : Evp P) (hq : Evp Q) : Evp (fun k => P k ∧ Q k) := by
  obtain ⟨K1, h1⟩ := hp
  obtain ⟨K2, h2⟩ := hq
  exact ⟨K1 + K2, fun k hk => ⟨h1 k (by omega), h2 k (by omega)⟩⟩
theorem Evp.some {P : Nat → Prop} (h : Evp P) : ∃ k, P k := by
  obtain ⟨K, h⟩ := h
  exact ⟨K, h K (Nat.le_refl _)⟩
theorem Evp.of {α : Type} {g : Nat → Option α} {r : α} (h : Ev g r) : Evp (fun k => g k = .some r) := h
theorem Evp.const {p : Prop} (h : p) : Evp (fun _ => p) := ⟨0, fun _ _ => h⟩

/-! Terms within rows. -/
theorem eat_front (s : List Int) (l : List Int) : ∀ (n : Nat) (r : List Int), eat s l n = some r → ∃ c, l = c ++ r ∧ eat s c n = some [] := by
  induction l with
  | nil =>
    intro n r h
    cases n with
    | zero => simp only [eat, Option.some.injEq] at h; exact ⟨[], by simp [h], by simp [eat]⟩
    | succ n => simp [eat] at h
  | cons x l ih =>
    intro n r h
    cases n with
    | zero => simp only [eat, Option.some.injEq] at h; exact ⟨[], by simp [h], by simp [eat]⟩
    | succ n =>
      simp only [eat] at h
      split at h
      · rename_i ht
        obtain ⟨c, e, e2⟩ := ih _ _ h
        exact ⟨x :: c, by rw [e]; rfl, by simp only [eat]; rw [if_pos ht]; exact e2⟩
      · simp at h
theorem eat_app (s : List Int) (c : List Int) : ∀ (n m : Nat) (l : List Int), eat s c n = some [] → eat s (c ++ l) (n + m) = eat s l m := by
  induction c with
  | nil =>
    intro n m l h
    cases n with
    | zero => simp
    | succ n => simp [eat] at h
  | cons x c ih =>
    intro n m l h
    cases n with
    | zero => simp [eat] at h
    | succ n =>
      simp only [eat] at h
      split at h
      · rename_i ht
        rw [List.cons_append, show n + 1 + m = (n + m) + 1 by omega]
        simp only [eat]
        rw [if_pos ht, show n + m + ar s x = n + ar s x + m by omega]
        exact ih _ _ _ h
      · simp at h
theorem eat_tok (s : List Int) (l : List Int) : ∀ n, eat s l n = some [] → ∀ x ∈ l, tok s x = true := by
  induction l with
  | nil => intro n h x hx; simp at hx
  | cons x l ih =>
    intro n h y hy
    cases n with
    | zero => simp [eat] at h
    | succ n =>
      simp only [eat] at h
      split at h
      · rename_i ht
        rcases List.mem_cons.1 hy with rfl | hy
        · exact ht
        · exact ih _ h y hy
      · simp at h
theorem eat_cons {s : List Int} {x : Int} {l : List Int} {n : Nat} {r : List Int} (h : eat s (x :: l) (n + 1) = some r) : tok s x = true ∧ eat s l (n + ar s x) = some r := by
  simp only [eat] at h
  split at h
  · rename_i ht; exact ⟨ht, h⟩
  · simp at h
/-- The first of several terms. -/
theorem eat_first {s t : List Int} {m : Nat} (h : eat s t (m + 1) = some []) : ∃ c r, t = c ++ r ∧ eat s c 1 = some [] ∧ eat s t 1 = some r ∧ eat s r m = some [] ∧ c ≠ [] ∧ t.take (t.length - r.length) = c := by
  obtain ⟨r, h1, h2⟩ := eat_split s t 1 m [] (by rw [Nat.add_comm]; exact h)
  obtain ⟨c, e, e2⟩ := eat_front s t 1 r h1
  refine ⟨c, r, e, e2, h1, h2, fun hc => by rw [hc] at e2; simp [eat] at e2, ?_⟩
  rw [e, List.length_append, Nat.add_sub_cancel, List.take_left' rfl]
theorem eat_at (s : List Int) (l : List Int) : ∀ (n a : Nat), eat s l n = some [] → a < l.length → ∃ m, eat s (l.drop a) (m + 1) = some [] := by
  induction l with
  | nil => intro n a h ha; simp at ha
  | cons x l ih =>
    intro n a h ha
    cases n with
    | zero => simp [eat] at h
    | succ n =>
      cases a with
      | zero => exact ⟨n, by simpa using h⟩
      | succ a => exact ih _ a (eat_cons h).2 (by simpa using ha)
theorem eat_put (s : List Int) (pre : List Int) : ∀ (n : Nat) (c d r : List Int), eat s c 1 = some [] → eat s d 1 = some [] → eat s (pre ++ (c ++ r)) n = some [] → eat s (pre ++ (d ++ r)) n = some [] := by
  induction pre with
  | nil =>
    intro n c d r hc hd h
    cases n with
    | zero =>
      rw [List.nil_append, eat_zero] at h
      cases c with
      | nil => simp [eat] at hc
      | cons x c => simp at h
    | succ n =>
      rw [List.nil_append, Nat.add_comm, eat_app s _ 1 n _ hc] at h
      rw [List.nil_append, Nat.add_comm, eat_app s _ 1 n _ hd, h]
  | cons x pre ih =>
    intro n c d r hc hd h
    cases n with
    | zero => simp [eat] at h
    | succ n =>
      obtain ⟨ht, h⟩ := eat_cons h
      rw [List.cons_append]
      simp only [eat]
      rw [if_pos ht]
      exact ih _ _ _ _ hc hd h
theorem mid_slice (pre c r : List Int) : ((pre ++ (c ++ r)).take (((pre ++ (c ++ r)).length : Int) - (r.length : Int)).toNat).drop ((pre.length : Int)).toNat = c := by
  have e : (((pre ++ (c ++ r)).length : Int) - (r.length : Int)).toNat = (pre ++ c).length := by simp only [List.length_append]; omega
  rw [e, ← List.append_assoc, List.take_left' rfl, Int.toNat_natCast, List.drop_left' rfl]
theorem own_eq (l : List Int) (h : l.length ≤ 1000000) : spec_l1Own.f l = some l := by
  unfold spec_l1Own.f
  rw [Option.bind_some, if_pos (by simp only [List.length_nil]; omega), List.nil_append]
theorem spec_l1Part_ev (s : List Int) (hs : goodSign s = true) (pre c r : List Int) (hr : eat s (c ++ r) 1 = some r) (hl : (pre ++ (c ++ r)).length ≤ 1000000) :
    Ev (fun k => spec_l1Part.f k s (pre ++ (c ++ r)) (pre.length : Int)) c := by
  simp only [spec_l1Part.f]
  have h := spec_l1End_ev s hs pre (c ++ r) (by omega)
  rw [hr] at h
  simp only at h
  have hl2 := hl
  simp only [List.length_append] at hl2
  refine Ev.bnd h (Ev.pos (by omega) (Ev.pos (by simp only [List.length_append]; omega) (Ev.pos (by simp only [List.length_append]; omega) ?_)))
  rw [mid_slice]
  exact Ev.bnd1 (own_eq c (by omega)) (Ev.ret _)

/-! Matching, replacing, order: what the two sides compute. -/
theorem impl_end_l0 (s : List Int) (hs : goodSign s = true) (l : List Int) : ∀ (pre : List Int) (n : Nat) (r : List Int), (pre ++ l).length ≤ 1000000000 → n ≤ 3 * pre.length + 3 → eat s l n = some r →
    Ev (fun k => impl_Sign_end.l0 k (pre ++ l) (pre.length : Int) (n : Int) s) (((pre ++ l).length : Int) - r.length) := by
  induction l with
  | nil =>
    intro pre n r hl hn h
    cases n with
    | zero =>
      simp only [eat, Option.some.injEq] at h
      refine Ev.succ ?_
      simp only [impl_Sign_end.l0]
      exact Ev.neg (by simp) (Ev.eq (Ev.ret _) (by rw [← h]; simp))
    | succ n => simp [eat] at h
  | cons x l ih =>
    intro pre n r hl hn h
    have hl' := hl
    simp only [List.length_append, List.length_cons] at hl
    refine Ev.succ ?_
    simp only [impl_Sign_end.l0]
    cases n with
    | zero =>
      simp only [eat, Option.some.injEq] at h
      exact Ev.neg (by simp) (Ev.eq (Ev.ret _) (by rw [← h]; simp only [List.length_append]; omega))
    | succ n =>
      obtain ⟨ht, h⟩ := eat_cons h
      have har := ar_le hs ht
      refine Ev.pos (by omega) (Ev.pos (by omega) (Ev.pos (by simp only [List.length_append, List.length_cons]; omega) ?_))
      rw [rd_mid]
      refine Ev.bnd1 (impl_args_eq s hs x ht) ?_
      have h' := ih (pre ++ [x]) (n + ar s x) r (by simpa using hl') (by simp only [List.length_append, List.length_cons, List.length_nil]; omega) h
      have e0 : wrap64 ((pre.length : Int) + 1) = (pre.length : Int) + 1 := w64 (by omega) (by omega)
      have e1 : wrap64 ((ar s x : Int) - 1) = (ar s x : Int) - 1 := w64 (by omega) (by omega)
      have e2 : wrap64 (((n + 1 : Nat) : Int) + ((ar s x : Int) - 1)) = (n : Int) + (ar s x : Int) := by rw [w64 (by omega) (by omega)]; omega
      rw [e0, e1, e2]
      simpa using h'
theorem impl_end_ev (s : List Int) (hs : goodSign s = true) (pre l r : List Int) (hl : (pre ++ l).length ≤ 1000000000) (h : eat s l 1 = some r) :
    Ev (fun k => impl_Sign_end.f k s (pre ++ l) (pre.length : Int)) (((pre ++ l).length : Int) - r.length) := by
  simp only [impl_Sign_end.f]
  exact impl_end_l0 s hs l pre 1 r hl (by omega) h
theorem impl_part_ev (s : List Int) (hs : goodSign s = true) (pre c r : List Int) (hr : eat s (c ++ r) 1 = some r) (hl : (pre ++ (c ++ r)).length ≤ 1000000) :
    Ev (fun k => impl_Sign_part.f k s (pre ++ (c ++ r)) (pre.length : Int)) c := by
  simp only [impl_Sign_part.f]
  have h := impl_end_ev s hs pre (c ++ r) r (by omega) hr
  have hl2 := hl
  simp only [List.length_append] at hl2
  refine Ev.bnd h (Ev.pos (by omega) (Ev.pos (by simp only [List.length_append]; omega) (Ev.pos (by simp only [List.length_append]; omega) ?_)))
  rw [mid_slice]
  refine Ev.bnd1 (a := c) (by unfold slices_Clone_int_int_83.f; rw [if_pos (by omega)]) (Ev.ret _)
theorem same_l0 (post : List Int) : ∀ (pre post2 : List Int), post2.length = post.length → (pre ++ post).length ≤ 1000000 → ∀ pre2 : List Int, pre2.length = pre.length →
    Ev (fun k => spec_l1Same.l0 k (pre ++ post) (pre2 ++ post2) ((pre ++ post).length : Int) (pre.length : Int)) (decide (post = post2)) ∧ Ev (fun k => slices_Equal_int_int.l0 k (pre ++ post) (pre2 ++ post2) ((pre ++ post).length : Int) (pre.length : Int)) (decide (post = post2)) := by
  induction post with
  | nil =>
    intro pre post2 h2 hl pre2 hp
    have e2 : post2 = [] := List.eq_nil_of_length_eq_zero h2
    subst e2
    constructor
    · refine Ev.succ ?_
      simp only [spec_l1Same.l0]
      exact Ev.neg (by simp) (Ev.eq (Ev.ret _) (by simp))
    · refine Ev.succ ?_
      simp only [slices_Equal_int_int.l0]
      exact Ev.neg (by simp) (Ev.eq (Ev.ret _) (by simp))
  | cons x post ih =>
    intro pre post2 h2 hl pre2 hp
    obtain ⟨y, post2, rfl⟩ : ∃ y t, post2 = y :: t := by cases post2 with | nil => simp at h2 | cons y t => exact ⟨y, t, rfl⟩
    obtain ⟨i1, i2⟩ := ih (pre ++ [x]) post2 (by simpa using h2) (by simpa using hl) (pre2 ++ [y]) (by simpa using hp)
    simp only [List.length_append, List.length_cons] at hl
    have e0 : wrap64 ((pre.length : Int) + 1) = (pre.length : Int) + 1 := w64 (by omega) (by omega)
    have ey : rd (pre2 ++ y :: post2) (pre.length : Int) = y := by rw [← hp]; exact rd_mid _ _ _
    constructor
    · refine Ev.succ ?_
      simp only [spec_l1Same.l0]
      refine Ev.pos (by simp only [List.length_append, List.length_cons]; omega) (Ev.pos (by omega) (Ev.pos (by simp only [List.length_append, List.length_cons]; omega) (Ev.pos (by simp only [List.length_append, List.length_cons]; omega) ?_)))
      rw [rd_mid, ey, e0]
      by_cases g : x = y
      · refine Ev.pos g (Ev.eq (by simpa using i1) (by simp [g]))
      · refine Ev.neg g (Ev.eq (Ev.ret _) (by simp [g]))
    · refine Ev.succ ?_
      simp only [slices_Equal_int_int.l0]
      refine Ev.pos (by simp only [List.length_append, List.length_cons]; omega) (Ev.pos (by omega) (Ev.pos (by simp only [List.length_append, List.length_cons]; omega) (Ev.pos (by simp only [List.length_append, List.length_cons]; omega) ?_)))
      rw [rd_mid, ey, e0]
      by_cases g : x = y
      · refine Ev.pos g (Ev.eq (by simpa using i2) (by simp [g]))
      · refine Ev.neg g (Ev.eq (Ev.ret _) (by simp [g]))
theorem spec_l1Same_ev (a b : List Int) (h : a.length ≤ 1000000) : Ev (fun k => spec_l1Same.f k a b) (decide (a = b)) := by
  simp only [spec_l1Same.f]
  by_cases g : a.length = b.length
  · exact Ev.pos (by omega) (by simpa using (same_l0 a [] b g.symm (by simpa using h) [] rfl).1)
  · exact Ev.neg (by omega) (Ev.eq (Ev.ret _) (by rw [decide_eq_false]; intro e; exact g (by rw [e])))
theorem impl_Equal_ev (a b : List Int) (h : a.length ≤ 1000000) : Ev (fun k => slices_Equal_int_int.f k a b) (decide (a = b)) := by
  simp only [slices_Equal_int_int.f]
  by_cases g : a.length = b.length
  · exact Ev.pos (by omega) (by simpa using (same_l0 a [] b g.symm (by simpa using h) [] rfl).2)
  · exact Ev.neg (by omega) (Ev.eq (Ev.ret _) (by rw [decide_eq_false]; intro e; exact g (by rw [e])))
/-- The rows that a pattern's variables take at a term. -/
def mtch (s : List Int) : List Int → List Int → List (List Int) → Option (List (List Int))
  | [], _, b => some b
  | n :: p, t, b => if 0 ≤ n then (match t with
      | [] => none
      | c :: t => if n = c then mtch s p t b else none)
    else match eat s t 1 with
      | none => none
      | some r => if b.getD (-1 - n).toNat [] = [] ∨ b.getD (-1 - n).toNat [] = t.take (t.length - r.length) then mtch s p r (b.set (-1 - n).toNat (t.take (t.length - r.length))) else none
def mout (o : Option (List (List Int))) : List (List Int) × Bool := match o with
  | some b => (b, true)
  | none => ([], false)
/-- What the rows that variables take look like. -/
def okB (s : List Int) (N : Nat) (b : List (List Int)) : Prop := b.length = 12 ∧ ∀ x ∈ b, x.length ≤ N ∧ (x ≠ [] → eat s x 1 = some [])
theorem okB_get {s : List Int} {N : Nat} {b : List (List Int)} (h : okB s N b) (v : Nat) : (b.getD v []).length ≤ N ∧ (b.getD v [] ≠ [] → eat s (b.getD v []) 1 = some []) := by
  by_cases g : v < b.length
  · have e : b.getD v [] = b[v] := by simp [List.getD_eq_getElem?_getD, List.getElem?_eq_getElem g]
    rw [e]; exact h.2 _ (List.getElem_mem g)
  · have e : b.getD v [] = [] := by rw [List.getD_eq_getElem?_getD, List.getElem?_eq_none (by omega)]; rfl
    rw [e]; simp
theorem okB_set {s : List Int} {N : Nat} {b : List (List Int)} (h : okB s N b) (v : Nat) (x : List Int) (h1 : x.length ≤ N) (h2 : eat s x 1 = some []) : okB s N (b.set v x) := by
  refine ⟨by rw [List.length_set]; exact h.1, fun y hy => ?_⟩
  rcases List.mem_or_eq_of_mem_set hy with hy | rfl
  · exact h.2 y hy
  · exact ⟨h1, fun _ => h2⟩
theorem tok_neg {s : List Int} {n : Int} (ht : tok s n = true) (h : n < 0) : ar s n = 0 ∧ -12 ≤ n := by
  unfold tok at ht
  simp only [decide_eq_true_eq] at ht
  refine ⟨by unfold ar; rw [if_pos h], ht.1⟩
theorem mtch_ok (s : List Int) (p : List Int) : ∀ (t : List Int) (b : List (List Int)) (m : Nat) (N : Nat) (b' : List (List Int)), eat s p m = some [] → eat s t m = some [] → t.length ≤ N → okB s N b → mtch s p t b = some b' → okB s N b' := by
  induction p with
  | nil => intro t b m N b' hp ht hN hb h; simp only [mtch, Option.some.injEq] at h; exact h ▸ hb
  | cons n p ih =>
    intro t b m N b' hp ht hN hb h
    cases m with
    | zero => simp [eat] at hp
    | succ m =>
      obtain ⟨htk, hp⟩ := eat_cons hp
      simp only [mtch] at h
      split at h
      · split at h
        · simp at h
        · split at h
          · rename_i g
            subst g
            exact ih _ _ _ N b' hp (eat_cons ht).2 (by simp only [List.length_cons] at hN; omega) hb h
          · simp at h
      · rename_i g0
        rw [(tok_neg htk (by omega)).1] at hp
        obtain ⟨c, r, e, e1, e2, e3, e4, e5⟩ := eat_first ht
        rw [e2] at h
        simp only [e5] at h
        split at h
        · exact ih _ _ _ N b' hp e3 (by rw [e, List.length_append] at hN; omega) (okB_set hb _ _ (by rw [e, List.length_append] at hN; omega) e1) h
        · simp at h
theorem spec_match_ev (s : List Int) (hs : goodSign s = true) (p : List Int) : ∀ (pre t : List Int) (b : List (List Int)) (m : Nat) (N : Nat), N ≤ 1000 → eat s p m = some [] → eat s t m = some [] → (pre ++ t).length ≤ N → okB s N b →
    Ev (fun k => spec_l2Match.go k s (pre ++ t) p b pre.length) (mout (mtch s p t b)) := by
  induction p with
  | nil => intro pre t b m N hN hp ht hl hb; simp only [spec_l2Match.go]; exact Ev.eq (Ev.ret _) rfl
  | cons n p ih =>
    intro pre t b m N hN hp ht hl hb
    cases m with
    | zero => simp [eat] at hp
    | succ m =>
      obtain ⟨htk, hp⟩ := eat_cons hp
      simp only [spec_l2Match.go, mtch]
      by_cases g : 0 ≤ n
      · rw [if_pos g]
        refine Ev.pos g ?_
        cases t with
        | nil => simp [eat] at ht
        | cons c t =>
          refine Ev.pos (by simp) ?_
          rw [rd_mid]
          by_cases g2 : n = c
          · subst g2
            have h := ih (pre ++ [n]) t b (m + ar s n) N hN hp (eat_cons ht).2 (by simpa using hl) hb
            exact Ev.eq (r := mout (mtch s p t b)) (Ev.pos rfl (by simpa using h)) (by simp)
          · exact Ev.eq (r := ([], false)) (Ev.neg g2 (Ev.ret _)) (by simp [g2, mout])
      · rw [if_neg g]
        obtain ⟨htn, htk2⟩ := tok_neg htk (by omega)
        rw [htn] at hp
        obtain ⟨c, r, e, e1, e2, e3, e4, e5⟩ := eat_first ht
        rw [e2]
        simp only [e5]
        have hb12 := hb.1
        have hbv := okB_get hb (-1 - n).toNat
        subst e
        have hcl : c.length ≤ N := by simp only [List.length_append] at hl; omega
        have hlen : (pre ++ (c ++ r)).length = pre.length + c.length + r.length := by simp only [List.length_append]; omega
        refine Ev.neg g (Ev.pos (by omega) (Ev.bnd (spec_l1Part_ev s hs pre c r e2 (by omega)) (Ev.pos (by omega) ?_)))
        have h := ih (pre ++ c) r (b.set (-1 - n).toNat c) m N hN hp e3 (by simpa using hl) (okB_set hb _ _ hcl e1)
        rw [List.append_assoc, List.length_append] at h
        by_cases g3 : b.getD (-1 - n).toNat [] = []
        · rw [if_pos (.inl g3)]
          exact Ev.neg (by rw [g3]; simp) h
        · refine Ev.pos (List.length_pos_iff.2 g3) (Ev.bnd (spec_l1Same_ev _ _ (by omega)) ?_)
          by_cases g4 : b.getD (-1 - n).toNat [] = c
          · rw [if_pos (.inr g4)]
            exact Ev.pos (decide_eq_true g4) h
          · rw [if_neg (by rintro (q | q); exact g3 q; exact g4 q)]
            exact Ev.neg (by rw [decide_eq_false g4]; simp) (Ev.eq (Ev.ret _) rfl)
theorem set_getD_self (b : List (List Int)) (v : Nat) : b.set v (b.getD v []) = b := by
  by_cases g : v < b.length
  · have e : b.getD v [] = b[v] := by simp [List.getD_eq_getElem?_getD, List.getElem?_eq_getElem g]
    rw [e, List.set_getElem_self]
  · rw [List.set_eq_of_length_le (by omega)]
theorem impl_match_ev (s : List Int) (hs : goodSign s = true) (p : List Int) : ∀ (pre t : List Int) (b : List (List Int)) (m : Nat) (N : Nat), N ≤ 1000 → eat s p m = some [] → eat s t m = some [] → (pre ++ t).length ≤ N → okB s N b →
    Ev (fun k => impl_Sign_match.go k s (pre ++ t) p b pre.length) (mout (mtch s p t b)) := by
  induction p with
  | nil =>
    intro pre t b m N hN hp ht hl hb
    cases m with
    | succ m => simp [eat] at hp
    | zero =>
      rw [eat_zero] at ht
      simp only [Option.some.injEq] at ht
      subst ht
      simp only [impl_Sign_match.go]
      exact Ev.eq (Ev.ret _) (by simp [mout, mtch])
  | cons n p ih =>
    intro pre t b m N hN hp ht hl hb
    cases m with
    | zero => simp [eat] at hp
    | succ m =>
      obtain ⟨htk, hp⟩ := eat_cons hp
      simp only [impl_Sign_match.go, mtch]
      have hpos : pre.length < (pre ++ t).length := by
        cases t with
        | nil => simp [eat] at ht
        | cons c t => simp
      refine Ev.pos hpos ?_
      by_cases g : 0 ≤ n
      · rw [if_pos g]
        refine Ev.pos g ?_
        cases t with
        | nil => simp [eat] at ht
        | cons c t =>
          rw [rd_mid]
          by_cases g2 : n = c
          · subst g2
            have h := ih (pre ++ [n]) t b (m + ar s n) N hN hp (eat_cons ht).2 (by simpa using hl) hb
            exact Ev.eq (r := mout (mtch s p t b)) (Ev.pos rfl (by simpa using h)) (by simp)
          · exact Ev.eq (r := ([], false)) (Ev.neg (fun q => g2 q.symm) (Ev.ret _)) (by simp [g2, mout])
      · rw [if_neg g]
        obtain ⟨htn, htk2⟩ := tok_neg htk (by omega)
        rw [htn] at hp
        obtain ⟨c, r, e, e1, e2, e3, e4, e5⟩ := eat_first ht
        rw [e2]
        simp only [e5]
        have hb12 := hb.1
        have hbv := okB_get hb (-1 - n).toNat
        subst e
        have hcl : c.length ≤ N := by simp only [List.length_append] at hl; omega
        have hlen : (pre ++ (c ++ r)).length = pre.length + c.length + r.length := by simp only [List.length_append]; omega
        refine Ev.neg g (Ev.pos (by omega) (Ev.bnd (impl_end_ev s hs pre (c ++ r) r (by omega) e2) (Ev.pos (by omega) ?_)))
        have h := ih (pre ++ c) r (b.set (-1 - n).toNat c) m N hN hp e3 (by simpa using hl) (okB_set hb _ _ hcl e1)
        rw [List.append_assoc, List.length_append] at h
        have ms := mid_slice pre c r
        rw [Int.toNat_natCast] at ms
        have en : (((pre ++ (c ++ r)).length : Int) - (r.length : Int)).toNat = pre.length + c.length := by omega
        rw [ms, en]
        by_cases g3 : b.getD (-1 - n).toNat [] = []
        · rw [if_pos (.inl g3)]
          exact Ev.pos (by rw [g3]; rfl) h
        · refine Ev.neg (fun q => g3 (List.eq_nil_of_length_eq_zero q)) (Ev.bnd (impl_Equal_ev _ _ (by omega)) ?_)
          by_cases g4 : b.getD (-1 - n).toNat [] = c
          · rw [if_pos (.inr g4)]
            have e9 := set_getD_self b (-1 - n).toNat
            rw [g4] at e9
            rw [e9] at h
            exact Ev.pos (decide_eq_true g4) (by rw [e9]; exact h)
          · rw [if_neg (by rintro (q | q); exact g3 q; exact g4 q)]
            exact Ev.neg (by rw [decide_eq_false g4]; simp) (Ev.eq (Ev.ret _) rfl)
/-- What stands for a variable. -/
def sub (b : List (List Int)) (v : Nat) : List Int := if b.getD v [] = [] then [-1 - (v : Int)] else b.getD v []
def app (b : List (List Int)) : List Int → List Int
  | [] => []
  | n :: t => (if n < 0 then sub b (-1 - n).toNat else [n]) ++ app b t
theorem isItself_eq (l : List Int) (i : Nat) (hi : i ≤ 1000) : impl_isItself.f l (i : Int) = some (decide (l = [-1 - (i : Int)])) := by
  unfold impl_isItself.f
  by_cases g : l.length = 1
  · obtain ⟨x, rfl⟩ := List.length_eq_one_iff.1 g
    rw [if_pos (by simp), if_pos (by simp), w64 (by omega) (by omega)]
    congr 1
    have : rd [x] 0 = x := rfl
    rw [this]
    by_cases h : x = -1 - (i : Int)
    · simp [h]
    · have h2 : ¬ ([x] = [-1 - (i : Int)]) := by simpa using h
      rw [decide_eq_false h2]
      simpa using h
  · rw [if_neg (by omega), decide_eq_false]
    intro e
    rw [e] at g
    simp at g
theorem bare_eq (m : Nat) : ∀ (i : Nat) (b : List (List Int)), i + m ≤ 1000 → ∃ b', impl_bare.go m i b = some b' ∧ b'.length = b.length ∧ (∀ v, sub b' v = sub b v) ∧ ∀ N s, okB s N b → okB s N b' := by
  induction m with
  | zero => intro i b h; exact ⟨b, rfl, rfl, fun _ => rfl, fun _ _ h => h⟩
  | succ m ih =>
    intro i b h
    simp only [impl_bare.go]
    rw [isItself_eq _ _ (by omega), Option.bind_some]
    by_cases g : b.getD i [] = [-1 - (i : Int)]
    · rw [decide_eq_true g, if_pos rfl]
      obtain ⟨b', e, el, es, eo⟩ := ih (i + 1) (b.set i []) (by omega)
      refine ⟨b', e, by rw [el, List.length_set], fun v => ?_, fun N s hb => eo N s ?_⟩
      · rw [es]
        by_cases hv : v = i
        · subst hv
          have e1 : sub b v = [-1 - (v : Int)] := by unfold sub; rw [g, if_neg (by simp)]
          have e2 : (b.set v []).getD v [] = [] := by
            by_cases hb : v < b.length
            · simp [List.getD_eq_getElem?_getD, hb]
            · rw [List.getD_eq_getElem?_getD, List.getElem?_eq_none (by rw [List.length_set]; omega)]; rfl
          rw [e1]
          unfold sub
          rw [if_pos e2]
        · have : (b.set i []).getD v [] = b.getD v [] := by
            rw [List.getD_eq_getElem?_getD, List.getD_eq_getElem?_getD, List.getElem?_set_ne (by omega)]
          unfold sub
          rw [this]
      · refine ⟨by rw [List.length_set]; exact hb.1, fun y hy => ?_⟩
        rcases List.mem_or_eq_of_mem_set hy with hy | rfl
        · exact hb.2 y hy
        · simp
    · rw [decide_eq_false g, if_neg (by simp)]
      exact ih (i + 1) b (by omega)
theorem app_congr {b b' : List (List Int)} (h : ∀ v, sub b' v = sub b v) (l : List Int) : app b' l = app b l := by
  induction l with
  | nil => rfl
  | cons n t ih => simp only [app, h, ih]
theorem rdL2_nat (b : List (List Int)) (n : Int) (h : n < 0) (h2 : -12 ≤ n) : rd_L2 b (wrap64 ((-1) - n)) = b.getD (-1 - n).toNat [] := by
  unfold rd_L2
  rw [w64 (by omega) (by omega)]
theorem sub_of (b : List (List Int)) (n : Int) (h : n < 0) : sub b (-1 - n).toNat = if b.getD (-1 - n).toNat [] = [] then [n] else b.getD (-1 - n).toNat [] := by
  unfold sub
  rw [show -1 - ((-1 - n).toNat : Int) = n by omega]
theorem spec_apply_l0 (s : List Int) (b : List (List Int)) (N : Nat) (hN : N ≤ 1000) (hb : okB s N b) (post : List Int) : ∀ (pre acc : List Int), (pre ++ post).length ≤ 1000 → (∀ x ∈ post, -12 ≤ x) → acc.length ≤ (N + 1) * pre.length →
    Ev (fun k => spec_l2Apply.l0 k b acc (pre ++ post) ((pre ++ post).length : Int) (pre.length : Int)) (acc ++ app b post) := by
  have hb12 := hb.1
  induction post with
  | nil =>
    intro pre acc hl hx ha
    refine Ev.succ ?_
    simp only [spec_l2Apply.l0]
    exact Ev.neg (by simp) (Ev.eq (Ev.ret _) (by simp [app]))
  | cons x post ih =>
    intro pre acc hl hx ha
    have hl' := hl
    simp only [List.length_append, List.length_cons] at hl
    have hx0 := hx x (by simp)
    have hbv := okB_get hb (-1 - x).toNat
    have hacc : acc.length ≤ 1001 * 1000 := Nat.le_trans ha (Nat.mul_le_mul (by omega) (by omega))
    have e0 : wrap64 ((pre.length : Int) + 1) = (pre.length : Int) + 1 := w64 (by omega) (by omega)
    have key : ∀ y : List Int, y.length ≤ N + 1 → Ev (fun k => spec_l2Apply.l0 k b (acc ++ y) (pre ++ x :: post) ((pre ++ x :: post).length : Int) ((pre.length : Int) + 1)) (acc ++ (y ++ app b post)) := by
      intro y hy
      have h := ih (pre ++ [x]) (acc ++ y) (by simpa using hl') (fun z hz => hx z (by simp [hz])) (by
        rw [List.length_append, List.length_append, List.length_singleton, Nat.mul_add]; omega)
      simpa using h
    refine Ev.succ ?_
    simp only [spec_l2Apply.l0, app]
    refine Ev.pos (by simp only [List.length_append, List.length_cons]; omega) (Ev.pos (by omega) (Ev.pos (by simp only [List.length_append, List.length_cons]; omega) ?_))
    rw [rd_mid, e0]
    by_cases g : x < 0
    · rw [rdL2_nat b x g hx0, if_pos g, sub_of b x g, w64 (x := (-1) - x) (by omega) (by omega)]
      refine Ev.pos g (Ev.pos (by omega) (Ev.pos (by omega) ?_))
      by_cases g2 : b.getD (-1 - x).toNat [] = []
      · rw [if_pos g2]
        exact Ev.neg (by rw [g2]; simp) (Ev.pos (by omega) (key [x] (by simp)))
      · rw [if_neg g2]
        have := List.length_pos_iff.2 g2
        exact Ev.pos (by omega) (Ev.pos (by omega) (key _ (by omega)))
    · rw [if_neg g]
      exact Ev.neg g (Ev.pos (by omega) (key [x] (by simp)))
theorem spec_apply_ev (s : List Int) (b : List (List Int)) (N : Nat) (hN : N ≤ 1000) (hb : okB s N b) (l : List Int) (hl : l.length ≤ 1000) (hx : ∀ x ∈ l, -12 ≤ x) : Ev (fun k => spec_l2Apply.f k b l) (app b l) := by
  simp only [spec_l2Apply.f]
  simpa using spec_apply_l0 s b N hN hb l [] [] (by simpa using hl) hx (by simp)
def cap (l : List Int) : List Int × Bool := if l.length ≤ 40 then (l, true) else ([], false)
theorem impl_apply_l0 (s : List Int) (b : List (List Int)) (N : Nat) (hN : N ≤ 1000) (hb : okB s N b) (post : List Int) : ∀ (pre acc : List Int), (pre ++ post).length ≤ 1000 → (∀ x ∈ post, -12 ≤ x) → acc.length ≤ 40 →
    Ev (fun k => impl_apply.l0 k b acc (pre ++ post) ((pre ++ post).length : Int) (pre.length : Int)) (cap (acc ++ app b post)) := by
  have hb12 := hb.1
  induction post with
  | nil =>
    intro pre acc hl hx ha
    refine Ev.succ ?_
    simp only [impl_apply.l0]
    exact Ev.neg (by simp) (Ev.eq (Ev.ret _) (by rw [app, List.append_nil]; unfold cap; rw [if_pos ha]))
  | cons x post ih =>
    intro pre acc hl hx ha
    have hl' := hl
    simp only [List.length_append, List.length_cons] at hl
    have hx0 := hx x (by simp)
    have hbv := okB_get hb (-1 - x).toNat
    have e0 : wrap64 ((pre.length : Int) + 1) = (pre.length : Int) + 1 := w64 (by omega) (by omega)
    have key : ∀ y : List Int, Ev (fun k => if ((acc ++ y).length : Int) > 40 then some (([] : List Int), false) else impl_apply.l0 k b (acc ++ y) (pre ++ x :: post) ((pre ++ x :: post).length : Int) ((pre.length : Int) + 1)) (cap (acc ++ (y ++ app b post))) := by
      intro y
      by_cases g : (acc ++ y).length ≤ 40
      · have h := ih (pre ++ [x]) (acc ++ y) (by simpa using hl') (fun z hz => hx z (by simp [hz])) g
        refine Ev.neg (by omega) ?_
        simpa only [List.append_assoc, List.singleton_append, List.length_append, List.length_singleton, Int.natCast_add, Int.cast_ofNat_Int] using h
      · refine Ev.pos (by omega) (Ev.eq (Ev.ret _) ?_)
        unfold cap; rw [if_neg (by rw [← List.append_assoc, List.length_append]; omega)]
    refine Ev.succ ?_
    simp only [impl_apply.l0, app]
    refine Ev.pos (by simp only [List.length_append, List.length_cons]; omega) (Ev.pos (by omega) (Ev.pos (by simp only [List.length_append, List.length_cons]; omega) ?_))
    rw [rd_mid]
    by_cases g : x < 0
    · rw [rdL2_nat b x g hx0, if_pos g, sub_of b x g, w64 (x := (-1) - x) (by omega) (by omega)]
      refine Ev.pos g (Ev.pos (by omega) (Ev.pos (by omega) (Ev.succ ?_)))
      simp only [impl_apply.j1]
      rw [e0, rdL2_nat b x g hx0, w64 (x := (-1) - x) (by omega) (by omega)]
      by_cases g2 : b.getD (-1 - x).toNat [] = []
      · rw [if_pos g2]
        exact Ev.neg (by rw [g2]; simp) (Ev.pos (by omega) (Ev.bnd1 rfl (key [x])))
      · rw [if_neg g2]
        have := List.length_pos_iff.2 g2
        exact Ev.pos (decide_eq_true (by omega)) (Ev.pos (by omega) (Ev.pos (by omega) (Ev.pos (by omega) (Ev.bnd1 rfl (key _)))))
    · rw [if_neg g]
      refine Ev.neg g (Ev.succ ?_)
      simp only [impl_apply.j1]
      rw [e0]
      exact Ev.neg (by simp) (Ev.pos (by omega) (Ev.bnd1 rfl (key [x])))
theorem impl_apply_ev (s : List Int) (b : List (List Int)) (N : Nat) (hN : N ≤ 1000) (hb : okB s N b) (l : List Int) (hl : l.length ≤ 1000) (hx : ∀ x ∈ l, -12 ≤ x) : Ev (fun k => impl_apply.f k b l) (cap (app b l)) := by
  simp only [impl_apply.f]
  simpa using impl_apply_l0 s b N hN hb l [] [] (by simpa using hl) hx (by simp)
theorem app_eat (s : List Int) (b : List (List Int)) (N : Nat) (hb : okB s N b) (l : List Int) : ∀ n, eat s l n = some [] → eat s (app b l) n = some [] := by
  induction l with
  | nil => intro n h; exact h
  | cons x l ih =>
    intro n h
    cases n with
    | zero => simp [eat] at h
    | succ n =>
      obtain ⟨ht, h⟩ := eat_cons h
      simp only [app]
      by_cases g : x < 0
      · rw [if_pos g, sub_of b x g]
        obtain ⟨htn, _⟩ := tok_neg ht g
        rw [htn] at h
        by_cases g2 : b.getD (-1 - x).toNat [] = []
        · rw [if_pos g2, List.singleton_append]
          simp only [eat]
          rw [if_pos ht, htn]
          exact ih _ h
        · rw [if_neg g2, Nat.add_comm, eat_app s _ 1 n _ ((okB_get hb _).2 g2)]
          exact ih _ h
      · rw [if_neg g, List.singleton_append]
        simp only [eat]
        rw [if_pos ht]
        exact ih _ h

/-! Counts, variables, order. -/
theorem count_l0 (x : Int) (post : List Int) : ∀ (pre : List Int) (c : Nat), (pre ++ post).length ≤ 1000000 → c ≤ pre.length →
    Ev (fun k => spec_l1Count.l0 k x (c : Int) (pre ++ post) ((pre ++ post).length : Int) (pre.length : Int)) ((c + post.count x : Nat) : Int) ∧ Ev (fun k => impl_count.l0 k x (c : Int) (pre ++ post) ((pre ++ post).length : Int) (pre.length : Int)) ((c + post.count x : Nat) : Int) := by
  induction post with
  | nil =>
    intro pre c hl hc
    constructor
    · refine Ev.succ ?_
      simp only [spec_l1Count.l0]
      exact Ev.neg (by simp) (Ev.eq (Ev.ret _) (by simp))
    · refine Ev.succ ?_
      simp only [impl_count.l0]
      exact Ev.neg (by simp) (Ev.eq (Ev.ret _) (by simp))
  | cons y post ih =>
    intro pre c hl hc
    have hl' := hl
    simp only [List.length_append, List.length_cons] at hl
    have e0 : wrap64 ((pre.length : Int) + 1) = (pre.length : Int) + 1 := w64 (by omega) (by omega)
    have e1 : wrap64 ((c : Int) + 1) = ((c + 1 : Nat) : Int) := by rw [w64 (by omega) (by omega)]; omega
    obtain ⟨i1, i2⟩ := ih (pre ++ [y]) (c + 1) (by simpa using hl') (by rw [List.length_append, List.length_singleton]; omega)
    obtain ⟨j1, j2⟩ := ih (pre ++ [y]) c (by simpa using hl') (by rw [List.length_append, List.length_singleton]; omega)
    have hp : (pre ++ [y]) ++ post = pre ++ y :: post := by simp
    have hn : ((pre ++ [y]).length : Int) = (pre.length : Int) + 1 := by simp
    rw [hp, hn] at i1 i2 j1 j2
    constructor
    · refine Ev.succ ?_
      simp only [spec_l1Count.l0]
      refine Ev.pos (by simp only [List.length_append, List.length_cons]; omega) (Ev.pos (by omega) (Ev.pos (by simp only [List.length_append, List.length_cons]; omega) ?_))
      rw [rd_mid, e0, e1]
      by_cases g : y = x
      · refine Ev.pos g (Ev.eq i1 ?_)
        rw [g, List.count_cons_self]; omega
      · refine Ev.neg g (Ev.eq j1 ?_)
        rw [List.count_cons_of_ne g]
    · refine Ev.succ ?_
      simp only [impl_count.l0]
      refine Ev.pos (by simp only [List.length_append, List.length_cons]; omega) (Ev.pos (by omega) (Ev.pos (by simp only [List.length_append, List.length_cons]; omega) ?_))
      rw [rd_mid, e0, e1]
      by_cases g : y = x
      · refine Ev.pos g (Ev.eq i2 ?_)
        rw [g, List.count_cons_self]; omega
      · refine Ev.neg g (Ev.eq j2 ?_)
        rw [List.count_cons_of_ne g]
theorem spec_l1Count_ev (l : List Int) (x : Int) (h : l.length ≤ 1000000) : Ev (fun k => spec_l1Count.f k l x) ((l.count x : Nat) : Int) := by
  simp only [spec_l1Count.f]
  simpa using (count_l0 x l [] 0 (by simpa using h) (by simp)).1
theorem impl_count_ev (l : List Int) (x : Int) (h : l.length ≤ 1000000) : Ev (fun k => impl_count.f k l x) ((l.count x : Nat) : Int) := by
  simp only [impl_count.f]
  simpa using (count_l0 x l [] 0 (by simpa using h) (by simp)).2
theorem put_l0 (v : Int) (post : List Int) : ∀ (pre : List Int), (pre ++ post).length ≤ 1000000 →
    ∃ r, Ev (fun k => spec_l1Put.l0 k (pre ++ post) v (pre.length : Int)) r ∧ (∀ y, y ∈ r ↔ y = v ∨ y ∈ pre ++ post) ∧ r.length ≤ (pre ++ post).length + 1 := by
  induction post with
  | nil =>
    intro pre hl
    simp only [List.length_append, List.length_nil] at hl
    refine ⟨([] ++ (pre ++ []).take ((pre.length : Int)).toNat ++ [v]) ++ (pre ++ []).drop ((pre.length : Int)).toNat, Ev.succ ?_, fun y => by simp [or_comm], by simp⟩
    simp only [spec_l1Put.l0]
    exact Ev.neg (by simp) (Ev.bnd1 rfl (Ev.pos (by omega) (Ev.pos (by simp) (Ev.bnd1 rfl (Ev.pos (by simp; omega) (Ev.bnd1 rfl (Ev.pos (by simp; omega) (Ev.bnd1 rfl (Ev.bnd1 rfl (Ev.pos (by simp; omega) (Ev.ret _)))))))))))
  | cons x post ih =>
    intro pre hl
    have hl' := hl
    simp only [List.length_append, List.length_cons] at hl
    have e0 : wrap64 ((pre.length : Int) + 1) = (pre.length : Int) + 1 := w64 (by omega) (by omega)
    by_cases g : x < v
    · obtain ⟨r, h1, h2, h3⟩ := ih (pre ++ [x]) (by simpa using hl')
      refine ⟨r, Ev.succ ?_, fun y => by rw [h2]; simp, by simpa using h3⟩
      simp only [spec_l1Put.l0]
      refine Ev.pos (by simp only [List.length_append, List.length_cons]; omega) (Ev.pos (by omega) ?_)
      rw [rd_mid, e0]
      exact Ev.pos g (by simpa using h1)
    · by_cases g2 : x = v
      · refine ⟨pre ++ x :: post, Ev.succ ?_, fun y => ⟨fun h => .inr h, fun h => ?_⟩, by omega⟩
        · simp only [spec_l1Put.l0]
          refine Ev.pos (by simp only [List.length_append, List.length_cons]; omega) (Ev.pos (by omega) ?_)
          rw [rd_mid]
          exact Ev.neg g (Ev.pos g2 (Ev.ret _))
        · rcases h with rfl | h
          · simp [g2]
          · exact h
      · refine ⟨([] ++ (pre ++ x :: post).take ((pre.length : Int)).toNat ++ [v]) ++ (pre ++ x :: post).drop ((pre.length : Int)).toNat, Ev.succ ?_, fun y => ?_, by simp; omega⟩
        · simp only [spec_l1Put.l0]
          refine Ev.pos (by simp only [List.length_append, List.length_cons]; omega) (Ev.pos (by omega) ?_)
          rw [rd_mid]
          exact Ev.neg g (Ev.neg g2 (Ev.bnd1 rfl (Ev.pos (by simp only [List.length_append, List.length_cons]; omega) (Ev.bnd1 rfl (Ev.pos (by simp; omega) (Ev.bnd1 rfl (Ev.pos (by simp; omega) (Ev.bnd1 rfl (Ev.bnd1 rfl (Ev.pos (by simp; omega) (Ev.ret _)))))))))))
        · simp only [Int.toNat_natCast, List.nil_append, List.take_left', List.drop_left', List.mem_append, List.mem_cons, List.not_mem_nil, or_false]
          constructor
          · rintro ((h | h) | h | h)
            · exact .inr (.inl h)
            · exact .inl h
            · exact .inr (.inr (.inl h))
            · exact .inr (.inr (.inr h))
          · rintro (h | h | h | h)
            · exact .inl (.inr h)
            · exact .inl (.inl h)
            · exact .inr (.inl h)
            · exact .inr (.inr h)
theorem vars_l0 (post : List Int) : ∀ (pre acc : List Int), (pre ++ post).length ≤ 100000 → acc.length ≤ pre.length → (∀ x ∈ post, -12 ≤ x) →
    ∃ vs, Ev (fun k => spec_l1Vars.l0 k acc (pre ++ post) ((pre ++ post).length : Int) (pre.length : Int)) vs ∧ (∀ v, v ∈ vs ↔ v ∈ acc ∨ (0 ≤ v ∧ -1 - v ∈ post)) ∧ vs.length ≤ (pre ++ post).length := by
  induction post with
  | nil =>
    intro pre acc hl ha hx
    refine ⟨acc, Ev.succ ?_, fun v => by simp, by simpa using ha⟩
    simp only [spec_l1Vars.l0]
    exact Ev.neg (by simp) (Ev.ret _)
  | cons x post ih =>
    intro pre acc hl ha hx
    have hl' := hl
    simp only [List.length_append, List.length_cons] at hl
    have hx0 := hx x (by simp)
    have e0 : wrap64 ((pre.length : Int) + 1) = (pre.length : Int) + 1 := w64 (by omega) (by omega)
    by_cases g : x < 0
    · obtain ⟨r, p1, p2, p3⟩ := put_l0 (-1 - x) acc [] (by simp only [List.nil_append]; omega)
      rw [List.nil_append] at p1 p2 p3
      obtain ⟨vs, h1, h2, h3⟩ := ih (pre ++ [x]) r (by simpa using hl') (by rw [List.length_append, List.length_singleton]; omega) (fun y hy => hx y (by simp [hy]))
      refine ⟨vs, Ev.succ ?_, fun v => ?_, by simpa using h3⟩
      · simp only [spec_l1Vars.l0]
        refine Ev.pos (by simp only [List.length_append, List.length_cons]; omega) (Ev.pos (by omega) (Ev.pos (by simp only [List.length_append, List.length_cons]; omega) ?_))
        rw [rd_mid, e0, w64 (x := (-1) - x) (by omega) (by omega)]
        refine Ev.pos g (Ev.bnd (a := r) ?_ (by simpa using h1))
        simp only [spec_l1Put.f]
        simpa using p1
      · rw [h2, p2, List.mem_cons]
        constructor
        · rintro ((h | h) | h)
          · exact .inr ⟨by omega, .inl (by omega)⟩
          · exact .inl h
          · exact .inr ⟨h.1, .inr h.2⟩
        · rintro (h | ⟨h0, h | h⟩)
          · exact .inl (.inr h)
          · exact .inl (.inl (by omega))
          · exact .inr ⟨h0, h⟩
    · obtain ⟨vs, h1, h2, h3⟩ := ih (pre ++ [x]) acc (by simpa using hl') (by rw [List.length_append, List.length_singleton]; omega) (fun y hy => hx y (by simp [hy]))
      refine ⟨vs, Ev.succ ?_, fun v => ?_, by simpa using h3⟩
      · simp only [spec_l1Vars.l0]
        refine Ev.pos (by simp only [List.length_append, List.length_cons]; omega) (Ev.pos (by omega) (Ev.pos (by simp only [List.length_append, List.length_cons]; omega) ?_))
        rw [rd_mid, e0]
        exact Ev.neg g (by simpa using h1)
      · rw [h2, List.mem_cons]
        constructor
        · rintro (h | h)
          · exact .inl h
          · exact .inr ⟨h.1, .inr h.2⟩
        · rintro (h | ⟨h0, h | h⟩)
          · exact .inl h
          · omega
          · exact .inr ⟨h0, h⟩
/-- The variables of a term. -/
theorem vars_ev (l : List Int) (hl : l.length ≤ 100000) (hx : ∀ x ∈ l, -12 ≤ x) : ∃ vs, Ev (fun k => spec_l1Vars.f k l) vs ∧ (∀ v, v ∈ vs ↔ (0 ≤ v ∧ -1 - v ∈ l)) ∧ vs.length ≤ l.length := by
  obtain ⟨vs, h1, h2, h3⟩ := vars_l0 l [] [] (by simpa using hl) (by simp) hx
  refine ⟨vs, ?_, fun v => by rw [h2]; simp, by simpa using h3⟩
  simp only [spec_l1Vars.f]
  simpa using h1
theorem has_l0 (x : Int) (post : List Int) : ∀ (pre : List Int), (pre ++ post).length ≤ 1000000 → Ev (fun k => spec_l1Has.l0 k x (pre ++ post) ((pre ++ post).length : Int) (pre.length : Int)) (decide (x ∈ post)) := by
  induction post with
  | nil =>
    intro pre hl
    refine Ev.succ ?_
    simp only [spec_l1Has.l0]
    exact Ev.neg (by simp) (Ev.eq (Ev.ret _) (by simp))
  | cons y post ih =>
    intro pre hl
    have h := ih (pre ++ [y]) (by simpa using hl)
    simp only [List.length_append, List.length_cons] at hl
    refine Ev.succ ?_
    simp only [spec_l1Has.l0]
    refine Ev.pos (by simp only [List.length_append, List.length_cons]; omega) (Ev.pos (by omega) (Ev.pos (by simp only [List.length_append, List.length_cons]; omega) ?_))
    rw [rd_mid, w64 (by omega) (by omega)]
    by_cases g : y = x
    · exact Ev.pos g (Ev.eq (Ev.ret _) (by simp [g]))
    · refine Ev.neg g (Ev.eq (by simpa using h) ?_)
      exact decide_eq_decide.2 ⟨fun q => List.mem_cons_of_mem _ q, fun q => (List.mem_cons.1 q).resolve_left (fun e => g e.symm)⟩
theorem spec_l1Has_ev (l : List Int) (x : Int) (hl : l.length ≤ 1000000) : Ev (fun k => spec_l1Has.f k l x) (decide (x ∈ l)) := by
  simp only [spec_l1Has.f]
  simpa using has_l0 x l [] (by simpa using hl)
theorem index_l0 (x : Int) (post : List Int) : ∀ (pre : List Int), (pre ++ post).length ≤ 1000000 → ∃ r, Ev (fun k => slices_Index_int_int.l0 k (pre ++ post) x ((pre ++ post).length : Int) (pre.length : Int)) r ∧ decide (r ≥ 0) = decide (x ∈ post) := by
  induction post with
  | nil =>
    intro pre hl
    refine ⟨-1, Ev.succ ?_, by simp⟩
    simp only [slices_Index_int_int.l0]
    exact Ev.neg (by simp) (Ev.ret _)
  | cons y post ih =>
    intro pre hl
    obtain ⟨r, h, e⟩ := ih (pre ++ [y]) (by simpa using hl)
    simp only [List.length_append, List.length_cons] at hl
    by_cases g : x = y
    · refine ⟨(pre.length : Int), Ev.succ ?_, by simp [g]⟩
      simp only [slices_Index_int_int.l0]
      refine Ev.pos (by simp only [List.length_append, List.length_cons]; omega) (Ev.pos (by omega) (Ev.pos (by simp only [List.length_append, List.length_cons]; omega) ?_))
      rw [rd_mid]
      exact Ev.pos g (Ev.ret _)
    · refine ⟨r, Ev.succ ?_, by rw [e]; simp [g]⟩
      simp only [slices_Index_int_int.l0]
      refine Ev.pos (by simp only [List.length_append, List.length_cons]; omega) (Ev.pos (by omega) (Ev.pos (by simp only [List.length_append, List.length_cons]; omega) ?_))
      rw [rd_mid, w64 (by omega) (by omega)]
      exact Ev.neg g (by simpa using h)
theorem contains_ev (l : List Int) (x : Int) (hl : l.length ≤ 1000000) : Ev (fun k => slices_Contains_int_int.f k l x) (decide (x ∈ l)) := by
  obtain ⟨r, h, e⟩ := index_l0 x l [] (by simpa using hl)
  simp only [slices_Contains_int_int.f, slices_Index_int_int.f]
  refine Ev.bnd (by simpa using h) (Ev.eq (Ev.ret _) e)
theorem spec_has_ev (part : List Int) (hp : part.length ≤ 1000000) (vs : List Int) (h : ∀ v ∈ vs, 0 ≤ v ∧ v ≤ 1000) : Ev (fun k => spec_l7By.has k part vs) (decide (∀ v ∈ vs, -1 - v ∈ part)) := by
  induction vs with
  | nil => simp only [spec_l7By.has]; exact Ev.eq (Ev.ret _) (by simp)
  | cons v vs ih =>
    have hv := h v (by simp)
    simp only [spec_l7By.has]
    refine Ev.pos (by omega) (Ev.bnd (spec_l1Has_ev part _ hp) ?_)
    by_cases g : -1 - v ∈ part
    · exact Ev.pos (decide_eq_true g) (Ev.eq (ih (fun y hy => h y (by simp [hy]))) (by simp [g]))
    · exact Ev.neg (by simp [g]) (Ev.eq (Ev.ret _) (by simp [g]))
theorem impl_has_ev (part : List Int) (hp : part.length ≤ 1000000) (out : List Int) : Ev (fun k => impl_Sign_rewrite.has k part out) (decide (∀ n ∈ out, n < 0 → n ∈ part)) := by
  induction out with
  | nil => simp only [impl_Sign_rewrite.has]; exact Ev.eq (Ev.ret _) (by simp)
  | cons n out ih =>
    simp only [impl_Sign_rewrite.has]
    by_cases g0 : n < 0
    · refine Ev.pos g0 (Ev.bnd (contains_ev part _ hp) ?_)
      by_cases g : n ∈ part
      · exact Ev.pos (decide_eq_true g) (Ev.eq ih (by simp [g]))
      · exact Ev.neg (by simp [g]) (Ev.eq (Ev.ret _) (by simp [g, g0]))
    · exact Ev.neg g0 (Ev.eq ih (by simp [g0]))
def covers (a b : List Int) : Prop := ∀ j : Nat, j < 12 → b.count (-1 - (j : Int)) ≤ a.count (-1 - (j : Int))
noncomputable instance (a b : List Int) : Decidable (covers a b) := Classical.propDecidable _
theorem weighs_l0 (a b : List Int) (ha : a.length ≤ 1000000) (hb : b.length ≤ 1000000) (post : List Int) : ∀ pre : List Int, (pre ++ post).length ≤ 1000000 → (∀ v ∈ post, 0 ≤ v ∧ v ≤ 1000) →
    Ev (fun k => spec_l3Weighs.l0 k a b (pre ++ post) ((pre ++ post).length : Int) (pre.length : Int)) (decide (∀ v ∈ post, b.count (-1 - v) ≤ a.count (-1 - v))) := by
  induction post with
  | nil =>
    intro pre hl hv
    refine Ev.succ ?_
    simp only [spec_l3Weighs.l0]
    exact Ev.neg (by simp) (Ev.eq (Ev.ret _) (by simp))
  | cons v post ih =>
    intro pre hl hv
    have h := ih (pre ++ [v]) (by simpa using hl) (fun y hy => hv y (by simp [hy]))
    have hv0 := hv v (by simp)
    simp only [List.length_append, List.length_cons] at hl
    refine Ev.succ ?_
    simp only [spec_l3Weighs.l0]
    refine Ev.pos (by simp only [List.length_append, List.length_cons]; omega) (Ev.pos (by omega) (Ev.pos (by simp only [List.length_append, List.length_cons]; omega) ?_))
    rw [rd_mid, w64 (x := (pre.length : Int) + 1) (by omega) (by omega), w64 (x := (-1) - v) (by omega) (by omega)]
    refine Ev.bnd (spec_l1Count_ev a _ ha) (Ev.bnd (spec_l1Count_ev b _ hb) ?_)
    by_cases g : b.count (-1 - v) ≤ a.count (-1 - v)
    · exact Ev.neg (by omega) (Ev.eq (by simpa using h) (by simp [g]))
    · exact Ev.pos (by omega) (Ev.eq (Ev.ret _) (by simp [g]))
theorem weighs_ev (a b : List Int) (ha : a.length ≤ 100000) (hb : b.length ≤ 100000) (hx : ∀ x ∈ b, -12 ≤ x) : Ev (fun k => spec_l3Weighs.f k a b) (decide (covers a b)) := by
  obtain ⟨vs, h1, h2, h3⟩ := vars_ev b hb hx
  simp only [spec_l3Weighs.f]
  have hv : ∀ v ∈ vs, 0 ≤ v ∧ v ≤ 1000 := fun v hv => by
    have := (h2 v).1 hv
    have := hx _ this.2
    omega
  refine Ev.bnd h1 (Ev.eq (by simpa using weighs_l0 a b (by omega) (by omega) vs [] (by simp only [List.nil_append]; omega) hv) ?_)
  rw [decide_eq_decide]
  constructor
  · intro h j hj
    by_cases g : -1 - (j : Int) ∈ b
    · exact h _ ((h2 _).2 ⟨by omega, g⟩)
    · rw [List.count_eq_zero_of_not_mem g]; omega
  · intro h v hv
    have q := (h2 v).1 hv
    have q2 := hx _ q.2
    have := h v.toNat (by omega)
    rwa [show ((v.toNat : Nat) : Int) = v by omega] at this
theorem coversVars_l0 (a b : List Int) (ha : a.length ≤ 1000000) (hb : b.length ≤ 1000000) (m : Nat) : ∀ i : Nat, i + m = 12 → ∃ r : Bool, Ev (fun k => impl_coversVars.l0 k a b (i : Int)) r ∧ (r = true ↔ ∀ j : Nat, j < 12 → i ≤ j → b.count (-1 - (j : Int)) ≤ a.count (-1 - (j : Int))) := by
  induction m with
  | zero =>
    intro i hi
    refine ⟨true, Ev.succ ?_, by simp; intro j h1 h2; omega⟩
    simp only [impl_coversVars.l0]
    exact Ev.neg (by omega) (Ev.ret _)
  | succ m ih =>
    intro i hi
    obtain ⟨r, h, e⟩ := ih (i + 1) (by omega)
    have pref : ∀ {r : Bool}, (Ev (fun k => if ((a.count (-1 - (i : Int)) : Nat) : Int) < ((b.count (-1 - (i : Int)) : Nat) : Int) then some false else impl_coversVars.l0 k a b ((i : Int) + 1)) r) → Ev (fun k => impl_coversVars.l0 k a b (i : Int)) r := by
      intro r h
      refine Ev.succ ?_
      simp only [impl_coversVars.l0]
      rw [w64 (x := (i : Int) + 1) (by omega) (by omega), w64 (x := (-1) - (i : Int)) (by omega) (by omega)]
      exact Ev.pos (by omega) (Ev.bnd (impl_count_ev a _ ha) (Ev.bnd (impl_count_ev b _ hb) h))
    by_cases g : b.count (-1 - (i : Int)) ≤ a.count (-1 - (i : Int))
    · refine ⟨r, pref (Ev.neg (by omega) (by simpa using h)), ?_⟩
      rw [e]
      constructor
      · intro q j h1 h2
        by_cases e : j = i
        · rw [e]; exact g
        · exact q j h1 (by omega)
      · intro q j h1 h2
        exact q j h1 (by omega)
    · exact ⟨false, pref (Ev.pos (by omega) (Ev.ret _)), by simp only [Bool.false_eq_true, false_iff]; exact fun q => g (q i (by omega) (by omega))⟩
theorem coversVars_ev (a b : List Int) (ha : a.length ≤ 1000000) (hb : b.length ≤ 1000000) : Ev (fun k => impl_coversVars.f k a b) (decide (covers a b)) := by
  simp only [impl_coversVars.f]
  obtain ⟨r, h, e⟩ := coversVars_l0 a b ha hb 12 0 rfl
  refine Ev.eq (by simpa using h) ?_
  have : r = true ↔ covers a b := by
    rw [e]
    unfold covers
    exact ⟨fun h j hj => h j hj (Nat.zero_le _), fun h j hj _ => h j hj⟩
  by_cases g : covers a b
  · rw [decide_eq_true g]; exact this.2 g
  · rw [decide_eq_false g]; exact Bool.eq_false_iff.2 (fun q => g (this.1 q))
/-- Which of two rows of one length is the greater: at the first number that differs. -/
def cmp : List Int → List Int → Bool
  | x :: a, y :: b => if x = y then cmp a b else decide (0 ≤ x ∧ 0 ≤ y ∧ y < x)
  | _, _ => false
theorem cmp_l0 (post : List Int) : ∀ (pre pre2 post2 : List Int), post2.length = post.length → pre2.length = pre.length → (pre ++ post).length ≤ 1000000 →
    Ev (fun k => spec_l3Greater.l0 k (pre ++ post) (pre2 ++ post2) ((pre ++ post).length : Int) (pre.length : Int)) (cmp post post2) ∧ Ev (fun k => impl_isGreater.l0 k (pre2 ++ post2) (pre ++ post) ((pre ++ post).length : Int) (pre.length : Int)) (cmp post post2) := by
  induction post with
  | nil =>
    intro pre pre2 post2 h2 hp hl
    have e2 : post2 = [] := List.eq_nil_of_length_eq_zero h2
    subst e2
    constructor
    · refine Ev.succ ?_
      simp only [spec_l3Greater.l0]
      exact Ev.neg (by simp) (Ev.eq (Ev.ret _) rfl)
    · refine Ev.succ ?_
      simp only [impl_isGreater.l0]
      exact Ev.neg (by simp) (Ev.eq (Ev.ret _) rfl)
  | cons x post ih =>
    intro pre pre2 post2 h2 hp hl
    obtain ⟨y, post2, rfl⟩ : ∃ y t, post2 = y :: t := by cases post2 with | nil => simp at h2 | cons y t => exact ⟨y, t, rfl⟩
    obtain ⟨i1, i2⟩ := ih (pre ++ [x]) (pre2 ++ [y]) post2 (by simpa using h2) (by simpa using hp) (by simpa using hl)
    simp only [List.length_append, List.length_cons] at hl
    have e0 : wrap64 ((pre.length : Int) + 1) = (pre.length : Int) + 1 := w64 (by omega) (by omega)
    have ey : rd (pre2 ++ y :: post2) (pre.length : Int) = y := by rw [← hp]; exact rd_mid _ _ _
    have hp1 : (pre ++ [x]) ++ post = pre ++ x :: post := by simp
    have hp2 : (pre2 ++ [y]) ++ post2 = pre2 ++ y :: post2 := by simp
    have hn : ((pre ++ [x]).length : Int) = (pre.length : Int) + 1 := by simp
    rw [hp1, hp2, hn] at i1 i2
    have fin : ∀ g : ¬ x = y, Ev (fun _ => if x ≥ 0 then (if y ≥ 0 then some (decide (x > y)) else some false) else some false) (decide (0 ≤ x ∧ 0 ≤ y ∧ y < x)) := by
      intro g
      by_cases g1 : x ≥ 0
      · by_cases g2 : y ≥ 0
        · refine Ev.pos g1 (Ev.pos g2 (Ev.eq (Ev.ret _) ?_))
          rw [decide_eq_decide]; omega
        · exact Ev.pos g1 (Ev.neg g2 (Ev.eq (Ev.ret _) (decide_eq_false (fun q => g2 q.2.1)).symm))
      · exact Ev.neg g1 (Ev.eq (Ev.ret _) (decide_eq_false (fun q => g1 q.1)).symm)
    constructor
    · refine Ev.succ ?_
      simp only [spec_l3Greater.l0]
      refine Ev.pos (by simp only [List.length_append, List.length_cons]; omega) (Ev.pos (by omega) (Ev.pos (by simp only [List.length_append, List.length_cons]; omega) (Ev.pos (by simp only [List.length_append, List.length_cons] at h2 ⊢; omega) ?_)))
      rw [rd_mid, ey, e0]
      simp only [cmp]
      by_cases g : x = y
      · rw [if_pos g]; exact Ev.pos g i1
      · rw [if_neg g]; exact Ev.neg g (fin g)
    · refine Ev.succ ?_
      simp only [impl_isGreater.l0]
      refine Ev.pos (by simp only [List.length_append, List.length_cons]; omega) (Ev.pos (by omega) (Ev.pos (by simp only [List.length_append, List.length_cons]; omega) (Ev.pos (by simp only [List.length_append, List.length_cons] at h2 ⊢; omega) ?_)))
      rw [rd_mid, ey, e0]
      simp only [cmp]
      by_cases g : x = y
      · rw [if_pos g]; exact Ev.pos g i2
      · rw [if_neg g]; exact Ev.neg g (fin g)
noncomputable def gt (a b : List Int) : Bool := decide (covers a b) && (decide (b.length < a.length) || (decide (a.length = b.length) && cmp a b))
theorem spec_l3Greater_ev (a b : List Int) (ha : a.length ≤ 100000) (hb : b.length ≤ 100000) (hx : ∀ x ∈ b, -12 ≤ x) : Ev (fun k => spec_l3Greater.f k a b) (gt a b) := by
  simp only [spec_l3Greater.f]
  refine Ev.bnd (weighs_ev a b ha hb hx) ?_
  by_cases g : covers a b
  · refine Ev.pos (decide_eq_true g) (Ev.succ ?_)
    simp only [spec_l3Greater.j0, gt]
    rw [decide_eq_true g, Bool.true_and]
    by_cases g1 : a.length < b.length
    · refine Ev.pos (decide_eq_true (by omega)) (Ev.eq (Ev.ret _) ?_)
      rw [decide_eq_false (by omega), decide_eq_false (by omega)]; rfl
    · refine Ev.neg (by rw [decide_eq_false (by omega)]; simp) ?_
      by_cases g2 : b.length < a.length
      · exact Ev.pos (by omega) (Ev.eq (Ev.ret _) (by rw [decide_eq_true g2]; rfl))
      · refine Ev.neg (by omega) (Ev.eq (by simpa using (cmp_l0 a [] [] b (by omega) rfl (by simp only [List.nil_append]; omega)).1) ?_)
        rw [decide_eq_false g2, decide_eq_true (by omega)]; rfl
  · refine Ev.neg (by rw [decide_eq_false g]; simp) (Ev.succ ?_)
    simp only [spec_l3Greater.j0, gt]
    exact Ev.pos trivial (Ev.eq (Ev.ret _) (by rw [decide_eq_false g]; rfl))
theorem impl_isGreater_ev (a b : List Int) (ha : a.length ≤ 100000) (hb : b.length ≤ 100000) : Ev (fun k => impl_isGreater.f k a b) (gt a b) := by
  simp only [impl_isGreater.f]
  by_cases g1 : a.length < b.length
  · refine Ev.pos (by omega) (Ev.succ ?_)
    simp only [impl_isGreater.j0, gt]
    refine Ev.pos trivial (Ev.eq (Ev.ret _) ?_)
    rw [decide_eq_false (p := b.length < a.length) (by omega), decide_eq_false (p := a.length = b.length) (by omega)]
    simp
  · refine Ev.neg (by omega) (Ev.bnd (coversVars_ev a b (by omega) (by omega)) (Ev.succ ?_))
    simp only [impl_isGreater.j0, gt]
    by_cases g : covers a b
    · rw [decide_eq_true g, Bool.true_and]
      refine Ev.neg (by simp) ?_
      by_cases g2 : b.length < a.length
      · exact Ev.pos (by omega) (Ev.eq (Ev.ret _) (by rw [decide_eq_true g2]; rfl))
      · refine Ev.neg (by omega) (Ev.eq (by simpa using (cmp_l0 a [] [] b (by omega) rfl (by simp only [List.nil_append]; omega)).2) ?_)
        rw [decide_eq_false g2, decide_eq_true (by omega)]; rfl
    · rw [decide_eq_false g]
      exact Ev.pos rfl (Ev.eq (Ev.ret _) rfl)

/-! Literals over a signature. -/
def isLit (s : List Int) (x : S65) : Bool := isTerm s x.f1 && isTerm s x.f2
theorem spec_l4Lit_ev (s : List Int) (hs : goodSign s = true) (x : S65) : Ev (fun k => spec_l4Lit.f k s x.f0 x.f1 x.f2) (isLit s x) := by
  simp only [spec_l4Lit.f]
  refine Ev.bnd (spec_l1Term_ev s hs x.f1) ?_
  unfold isLit
  cases isTerm s x.f1 with
  | true => exact Ev.pos rfl (Ev.bnd (spec_l1Term_ev s hs x.f2) (Ev.eq (Ev.ret _) rfl))
  | false => exact Ev.neg (by simp) (Ev.ret _)
theorem impl_isLit_ev (s : List Int) (hs : goodSign s = true) (x : S65) : Ev (fun k => impl_Sign_isLit.f k s x.f0 x.f1 x.f2) (isLit s x) := by
  simp only [impl_Sign_isLit.f]
  refine Ev.bnd (impl_isTerm_ev s hs x.f1) ?_
  unfold isLit
  cases isTerm s x.f1 with
  | true => exact Ev.pos rfl (Ev.bnd (impl_isTerm_ev s hs x.f2) (Ev.eq (Ev.ret _) rfl))
  | false => exact Ev.neg (by simp) (Ev.ret _)
/-- A search through a row whose word takes rounds. -/
theorem anyO_ev {α : Type} (f : Nat → α → Option Bool) (p : α → Bool) (l : List α) (h : ∀ x ∈ l, Ev (fun k => f k x) (!p x)) : Ev (fun k => anyO (fun x => f k x) l) (!l.all p) := by
  induction l with
  | nil => exact Ev.ret _
  | cons x t ih =>
    simp only [anyO]
    refine Ev.bnd (h x (by simp)) ?_
    cases hp : p x with
    | true => exact Ev.neg (by simp) (Ev.eq (ih (fun y hy => h y (by simp [hy]))) (by simp [hp]))
    | false => exact Ev.pos rfl (Ev.eq (Ev.ret _) (by simp [hp]))

/-! One step of rewriting. -/
def isUnitL (s : List Int) (x : S65) : Bool := isLit s x && x.f0
def areUnits (s : List Int) (l : List S65) : Bool := decide (l.length ≤ 10) && l.all (isUnitL s)
theorem spec_l7Units_l0 (s : List Int) (hs : goodSign s = true) (x1 : List S65) (post : List S65) : ∀ pre : List S65, (pre ++ post).length ≤ 1048576 →
    Ev (fun k => spec_l7Units.l0 k x1 (pre ++ post) ((pre ++ post).length : Int) (pre.length : Int) s) (decide (x1.length ≤ 10) && post.all (isUnitL s)) := by
  have hsl := goodSign_len hs
  induction post with
  | nil =>
    intro pre hl
    refine Ev.succ ?_
    simp only [spec_l7Units.l0]
    have h := spec_GoodSign_ev s (by omega)
    rw [hs] at h
    refine Ev.neg (by simp) (Ev.bnd h (Ev.pos rfl (Ev.eq (Ev.ret _) ?_)))
    rw [List.all_nil, Bool.and_true, decide_eq_decide]; omega
  | cons x post ih =>
    intro pre hl
    have h := ih (pre ++ [x]) (by simpa using hl)
    simp only [List.length_append, List.length_cons] at hl
    refine Ev.succ ?_
    simp only [spec_l7Units.l0]
    refine Ev.pos (by simp only [List.length_append, List.length_cons]; omega) (Ev.pos (by omega) (Ev.pos (by simp only [List.length_append, List.length_cons]; omega) ?_))
    rw [rdLB_mid, w64 (x := (pre.length : Int) + 1) (by omega) (by omega)]
    refine Ev.bnd (spec_l4Lit_ev s hs x) ?_
    rw [List.all_cons, isUnitL]
    cases isLit s x with
    | false => exact Ev.neg (by simp) (Ev.eq (Ev.ret _) (by simp))
    | true =>
      refine Ev.pos rfl ?_
      cases hf : x.f0 with
      | false => exact Ev.neg (by simp) (Ev.eq (Ev.ret _) (by simp))
      | true => exact Ev.pos rfl (by simpa using h)
theorem spec_l7Units_ev (s : List Int) (hs : goodSign s = true) (l : List S65) (hl : l.length ≤ 1048576) : Ev (fun k => spec_l7Units.f k s l) (areUnits s l) := by
  simp only [spec_l7Units.f, areUnits]
  simpa using spec_l7Units_l0 s hs l l [] (by simpa using hl)
theorem impl_areUnits_ev (s : List Int) (hs : goodSign s = true) (l : List S65) : Ev (fun k => impl_Sign_areUnits.f k s l) (areUnits s l) := by
  simp only [impl_Sign_areUnits.f, areUnits]
  by_cases g : l.length ≤ 10
  · refine Ev.pos (by omega) (Ev.bnd (a := !l.all (isUnitL s)) ?_ (Ev.eq (Ev.ret _) ?_))
    · simp only [impl_Sign_areUnits_1_any.f]
      refine anyO_ev _ _ _ (fun x _ => ?_)
      simp only [impl_Sign_areUnits_1.f, isUnitL]
      cases hf : x.f0 with
      | false => exact Ev.neg (by simp) (Ev.eq (Ev.ret _) (by simp))
      | true =>
        have h := impl_isLit_ev s hs x
        rw [hf] at h
        exact Ev.pos rfl (Ev.bnd h (Ev.eq (Ev.ret _) (by simp)))
    · rw [decide_eq_true g, Bool.not_not, Bool.true_and]
  · exact Ev.neg (by omega) (Ev.eq (Ev.ret _) (by rw [decide_eq_false g, Bool.false_and]))
theorem isTerm_of {s l : List Int} (h : isTerm s l = true) : l.length ≤ 40 ∧ eat s l 1 = some [] := by
  unfold isTerm at h
  simp only [Bool.and_eq_true, decide_eq_true_eq, beq_iff_eq] at h
  exact ⟨h.1.2, h.2⟩
theorem isTerm_mk {s l : List Int} (h : l.length ≤ 40) (h2 : eat s l 1 = some []) : isTerm s l = true := by
  unfold isTerm
  simp only [Bool.and_eq_true, decide_eq_true_eq, beq_iff_eq]
  refine ⟨⟨?_, h⟩, h2⟩
  cases l with
  | nil => simp [eat] at h2
  | cons x l => simp
/-- A part rewritten by one side of a unit. -/
noncomputable def byT (s part p tt : List Int) : Option (List Int) := match mtch s p part (List.replicate 12 []) with
  | none => none
  | some b => if (∀ n ∈ app b tt, n < 0 → n ∈ part) ∧ gt part (app b tt) = true then some (app b tt) else none
def pick (y : List Int × Bool) : Option (List Int) := if y.2 = true then some y.1 else none
theorem okB_start (s : List Int) (N : Nat) : okB s N (List.replicate 12 []) := by
  refine ⟨by simp, fun x hx => ?_⟩
  have := List.eq_of_mem_replicate hx
  subst this
  simp
theorem app_len (s : List Int) (b : List (List Int)) (N : Nat) (hb : okB s N b) (l : List Int) : (app b l).length ≤ (N + 1) * l.length := by
  induction l with
  | nil => simp [app]
  | cons n t ih =>
    simp only [app, List.length_append, List.length_cons]
    have : (if n < 0 then sub b (-1 - n).toNat else [n]).length ≤ N + 1 := by
      by_cases g : n < 0
      · rw [if_pos g]
        unfold sub
        by_cases g2 : b.getD (-1 - n).toNat [] = []
        · rw [if_pos g2]; simp
        · rw [if_neg g2]; have := (okB_get hb (-1 - n).toNat).1; omega
      · rw [if_neg g]; simp
    rw [Nat.mul_add]; omega
theorem tok_low {s : List Int} {x : Int} (h : tok s x = true) : -12 ≤ x := by
  unfold tok at h
  simp only [decide_eq_true_eq] at h
  exact h.1
theorem by_ev (s : List Int) (hs : goodSign s = true) (part p tt : List Int) (h1 : isTerm s part = true) (h2 : isTerm s p = true) (h3 : isTerm s tt = true) :
    ∃ y z, Ev (fun k => spec_l7By.f k s part p tt) y ∧ Ev (fun k => impl_Sign_rewrite.f k s part p tt) z ∧ pick y = byT s part p tt ∧ pick z = byT s part p tt := by
  obtain ⟨l1, e1⟩ := isTerm_of h1
  obtain ⟨l2, e2⟩ := isTerm_of h2
  obtain ⟨l3, e3⟩ := isTerm_of h3
  have hm := spec_match_ev s hs p [] part (List.replicate 12 []) 1 40 (by omega) e2 e1 (by simpa using l1) (okB_start s 40)
  have hi := impl_match_ev s hs p [] part (List.replicate 12 []) 1 40 (by omega) e2 e1 (by simpa using l1) (okB_start s 40)
  simp only [List.nil_append, List.length_nil] at hm hi
  unfold byT
  cases e : mtch s p part (List.replicate 12 []) with
  | none =>
    rw [e] at hm hi
    refine ⟨([], false), ([], false), ?_, ?_, rfl, rfl⟩
    · simp only [spec_l7By.f]
      exact Ev.pos (by omega) (Ev.bnd hm (Ev.neg (by simp [mout]) (Ev.ret _)))
    · simp only [impl_Sign_rewrite.f]
      exact Ev.pos (by omega) (Ev.bnd hi (Ev.neg (by simp [mout]) (Ev.ret _)))
  | some b =>
    rw [e] at hm hi
    have hb := mtch_ok s p part _ 1 40 b e2 e1 l1 (okB_start s 40) e
    have htt : ∀ x ∈ tt, -12 ≤ x := fun x hx => tok_low (eat_tok s tt 1 e3 x hx)
    have hout := app_eat s b 40 hb tt 1 e3
    have hlo : ∀ x ∈ app b tt, -12 ≤ x := fun x hx => tok_low (eat_tok s _ 1 hout x hx)
    have hln := app_len s b 40 hb tt
    have hln2 : (app b tt).length ≤ 2000 := Nat.le_trans hln (Nat.le_trans (Nat.mul_le_mul_left _ l3) (by omega))
    obtain ⟨vs, v1, v2, v3⟩ := vars_ev (app b tt) (by omega) hlo
    have hv : ∀ v ∈ vs, 0 ≤ v ∧ v ≤ 1000 := fun v hv => by
      have q := (v2 v).1 hv
      have := hlo _ q.2
      omega
    have hq : decide (∀ v ∈ vs, -1 - v ∈ part) = decide (∀ n ∈ app b tt, n < 0 → n ∈ part) := by
      rw [decide_eq_decide]
      constructor
      · intro h n hn h0
        have := h (-1 - n) ((v2 _).2 ⟨by omega, by rwa [show -1 - (-1 - n) = n by omega]⟩)
        rwa [show -1 - (-1 - n) = n by omega] at this
      · intro h v hv
        have q := (v2 v).1 hv
        exact h _ q.2 (by omega)
    obtain ⟨b', b1, b2, b3, b4⟩ := bare_eq 12 0 b (by omega)
    have hb' := b4 40 s hb
    have hap := impl_apply_ev s b' 40 (by omega) hb' tt (by omega) htt
    rw [app_congr b3] at hap
    refine ⟨if (∀ n ∈ app b tt, n < 0 → n ∈ part) then (app b tt, gt part (app b tt)) else ([], false), if (∀ n ∈ app b tt, n < 0 → n ∈ part) ∧ gt part (app b tt) = true then (app b tt, true) else ([], false), ?_, ?_, ?_, ?_⟩
    · simp only [spec_l7By.f]
      have hh := spec_has_ev part (by omega) vs hv
      rw [hq] at hh
      refine Ev.pos (by omega) (Ev.bnd hm (Ev.pos rfl (Ev.bnd (spec_apply_ev s b 40 (by omega) hb tt (by omega) htt) (Ev.bnd v1 (Ev.bnd hh ?_)))))
      by_cases q : ∀ n ∈ app b tt, n < 0 → n ∈ part
      · rw [if_pos q]
        exact Ev.pos (decide_eq_true q) (Ev.bnd (spec_l3Greater_ev part _ (by omega) (by omega) hlo) (Ev.ret _))
      · rw [if_neg q]
        exact Ev.neg (by rw [decide_eq_false q]; simp) (Ev.ret _)
    · simp only [impl_Sign_rewrite.f]
      refine Ev.pos (by omega) (Ev.bnd hi (Ev.pos rfl (Ev.bnd1 b1 (Ev.bnd hap ?_))))
      by_cases hc : (app b tt).length ≤ 40
      · unfold cap
        rw [if_pos hc]
        refine Ev.pos rfl (Ev.bnd (impl_isGreater_ev part (app b tt) (by omega) (by omega)) ?_)
        by_cases hg : gt part (app b tt) = true
        · refine Ev.pos hg (Ev.bnd (impl_has_ev part (by omega) (app b tt)) ?_)
          by_cases q : ∀ n ∈ app b tt, n < 0 → n ∈ part
          · exact Ev.eq (Ev.pos (decide_eq_true q) (Ev.ret _)) (if_pos ⟨q, hg⟩).symm
          · exact Ev.eq (Ev.neg (by rw [decide_eq_false q]; simp) (Ev.ret _)) (if_neg (fun h => q h.1)).symm
        · exact Ev.eq (Ev.neg hg (Ev.ret _)) (if_neg (fun h => hg h.2)).symm
      · unfold cap
        rw [if_neg hc, if_neg (fun h => ?_)]
        · exact Ev.neg (by simp) (Ev.ret _)
        · have hg := h.2
          unfold gt at hg
          rw [decide_eq_false (p := (app b tt).length < part.length) (by omega), decide_eq_false (p := part.length = (app b tt).length) (by omega)] at hg
          simp at hg
    · by_cases q : ∀ n ∈ app b tt, n < 0 → n ∈ part
      · rw [if_pos q]
        unfold pick
        by_cases hg : gt part (app b tt) = true
        · rw [if_pos hg]; exact (if_pos ⟨q, hg⟩).symm
        · rw [if_neg hg]; exact (if_neg (fun h => hg h.2)).symm
      · rw [if_neg q]
        exact (if_neg (fun h => q h.1)).symm
    · by_cases q : (∀ n ∈ app b tt, n < 0 → n ∈ part) ∧ gt part (app b tt) = true
      · rw [if_pos q]; exact (if_pos q).symm
      · rw [if_neg q]; exact (if_neg q).symm
noncomputable def sidesT (s part : List Int) (x : S65) : Option (List Int) := match byT s part x.f1 x.f2 with
  | some y => some y
  | none => byT s part x.f2 x.f1
theorem side_ev (F : Nat → List Int → List Int → Option (List Int × Bool)) (p q : List Int) (y1 y2 : List Int × Bool) (h1 : Ev (fun k => F k p q) y1) (h2 : Ev (fun k => F k q p) y2) :
    Ev (fun k => (F k p q).bind fun y => if y.2 = true then some (some y.1) else (F k q p).bind fun y => if y.2 = true then some (some y.1) else some none) (match pick y1 with | some y => some y | none => pick y2) := by
  refine Ev.bnd h1 ?_
  unfold pick
  by_cases g : y1.2 = true
  · rw [if_pos g]
    exact Ev.pos g (Ev.ret _)
  · rw [if_neg g]
    refine Ev.neg g (Ev.bnd h2 ?_)
    by_cases g2 : y2.2 = true
    · exact Ev.pos g2 (Ev.eq (Ev.ret _) (if_pos g2).symm)
    · exact Ev.neg g2 (Ev.eq (Ev.ret _) (if_neg g2).symm)
theorem sides_ev (s : List Int) (hs : goodSign s = true) (part : List Int) (x : S65) (h1 : isTerm s part = true) (hx : isLit s x = true) :
    Ev (fun k => spec_l7Step.sides k s part x) (sidesT s part x) ∧ Ev (fun k => impl_Sign_step.sides k s part x) (sidesT s part x) := by
  unfold isLit at hx
  rw [Bool.and_eq_true] at hx
  obtain ⟨y1, z1, a1, b1, c1, d1⟩ := by_ev s hs part x.f1 x.f2 h1 hx.1 hx.2
  obtain ⟨y2, z2, a2, b2, c2, d2⟩ := by_ev s hs part x.f2 x.f1 h1 hx.2 hx.1
  constructor
  · have h := side_ev (fun k p q => spec_l7By.f k s part p q) x.f1 x.f2 y1 y2 a1 a2
    rw [c1, c2] at h
    exact h
  · have h := side_ev (fun k p q => impl_Sign_rewrite.f k s part p q) x.f1 x.f2 z1 z2 b1 b2
    rw [d1, d2] at h
    exact h
noncomputable def unitsT (s part : List Int) : List S65 → Nat → Option (List Int × Nat)
  | [], _ => none
  | x :: t, u => match sidesT s part x with
    | some y => some (y, u)
    | none => unitsT s part t (u + 1)
theorem units_ev (s : List Int) (hs : goodSign s = true) (part : List Int) (h1 : isTerm s part = true) (l : List S65) : ∀ u, (∀ x ∈ l, isLit s x = true) →
    Ev (fun k => spec_l7Step.units k s part l u) (unitsT s part l u) ∧ Ev (fun k => impl_Sign_step.units k s part l u) (unitsT s part l u) := by
  induction l with
  | nil => intro u hx; exact ⟨Ev.ret _, Ev.ret _⟩
  | cons x l ih =>
    intro u hx
    obtain ⟨a, b⟩ := sides_ev s hs part x h1 (hx x (by simp))
    obtain ⟨c, d⟩ := ih (u + 1) (fun y hy => hx y (by simp [hy]))
    constructor
    · simp only [spec_l7Step.units, unitsT]
      refine Ev.bnd a ?_
      cases sidesT s part x with
      | some y => exact Ev.ret _
      | none => exact c
    · simp only [impl_Sign_step.units, unitsT]
      refine Ev.bnd b ?_
      cases sidesT s part x with
      | some y => exact Ev.ret _
      | none => exact d
/-! slices.Concat -/
theorem grow_eq (n : Int) (h0 : 0 ≤ n) (h1 : n ≤ 1000000) : slices_Grow_int_int.f n = some [] := by
  unfold slices_Grow_int_int.f
  rw [if_neg (by omega), w64 (by omega) (by omega)]
  by_cases g : n > 0
  · rw [if_pos g, if_pos h0, if_pos (by simp only [List.length_nil]; omega), Option.bind_some, if_pos (by omega)]; rfl
  · rw [if_neg g]
theorem rdL2_mid (pre : List (List Int)) (x : List Int) (post : List (List Int)) : rd_L2 (pre ++ x :: post) (pre.length : Int) = x := by
  unfold rd_L2; simp
theorem concat_l1 (x0 : List (List Int)) (post : List (List Int)) : ∀ (pre : List (List Int)) (acc : List Int), (pre ++ post).length ≤ 100 → (∀ x ∈ post, x.length ≤ 1000) → acc.length ≤ 1000 * pre.length →
    Ev (fun k => slices_Concat_int_int.l1 k acc (pre ++ post) ((pre ++ post).length : Int) (pre.length : Int)) (acc ++ post.flatten) := by
  induction post with
  | nil =>
    intro pre acc hl hx ha
    refine Ev.succ ?_
    simp only [slices_Concat_int_int.l1]
    exact Ev.neg (by simp) (Ev.eq (Ev.ret _) (by simp))
  | cons x post ih =>
    intro pre acc hl hx ha
    have hx0 := hx x (by simp)
    have h := ih (pre ++ [x]) (acc ++ x) (by simpa using hl) (fun y hy => hx y (by simp [hy])) (by rw [List.length_append, List.length_append, List.length_singleton, Nat.mul_add]; omega)
    simp only [List.length_append, List.length_cons] at hl
    refine Ev.succ ?_
    simp only [slices_Concat_int_int.l1]
    refine Ev.pos (by simp only [List.length_append, List.length_cons]; omega) (Ev.pos (by omega) (Ev.pos (by simp only [List.length_append, List.length_cons]; omega) ?_))
    rw [rdL2_mid, w64 (by omega) (by omega)]
    refine Ev.pos (by omega) ?_
    simpa using h
theorem concat_l0 (x0 : List (List Int)) (hx0 : x0.length ≤ 100) (hx1 : ∀ x ∈ x0, x.length ≤ 1000) (post : List (List Int)) : ∀ (pre : List (List Int)) (n : Int), (pre ++ post).length ≤ 100 → (∀ x ∈ post, x.length ≤ 1000) → 0 ≤ n → n ≤ 1000 * pre.length →
    Ev (fun k => slices_Concat_int_int.l0 k x0 n (pre ++ post) ((pre ++ post).length : Int) (pre.length : Int)) x0.flatten := by
  induction post with
  | nil =>
    intro pre n hl hx h0 ha
    refine Ev.succ ?_
    simp only [slices_Concat_int_int.l0]
    have h := concat_l1 x0 x0 [] [] (by simpa using hx0) hx1 (by simp)
    simp only [List.length_append, List.length_nil] at hl
    exact Ev.neg (by simp) (Ev.bnd1 (grow_eq n h0 (by omega)) (by simpa using h))
  | cons x post ih =>
    intro pre n hl hx h0 ha
    have hx2 := hx x (by simp)
    have hl' := hl
    simp only [List.length_append, List.length_cons] at hl
    have h := ih (pre ++ [x]) (n + x.length) (by simpa using hl') (fun y hy => hx y (by simp [hy])) (by omega) (by rw [List.length_append, List.length_singleton]; omega)
    refine Ev.succ ?_
    simp only [slices_Concat_int_int.l0]
    refine Ev.pos (by simp only [List.length_append, List.length_cons]; omega) (Ev.pos (by omega) (Ev.pos (by simp only [List.length_append, List.length_cons]; omega) ?_))
    rw [rdL2_mid, w64 (x := (pre.length : Int) + 1) (by omega) (by omega), w64 (x := n + (x.length : Int)) (by omega) (by omega)]
    exact Ev.neg (by omega) (by simpa using h)
theorem concat_ev (l : List (List Int)) (h : l.length ≤ 100) (h1 : ∀ x ∈ l, x.length ≤ 1000) : Ev (fun k => slices_Concat_int_int.f k l) l.flatten := by
  simp only [slices_Concat_int_int.f]
  simpa using concat_l0 l h h1 l [] 0 (by simpa using h) h1 (by omega) (by simp)
theorem end_drop (pre c r : List Int) : (pre ++ (c ++ r)).drop (((pre ++ (c ++ r)).length : Int) - (r.length : Int)).toNat = r := by
  have e : (((pre ++ (c ++ r)).length : Int) - (r.length : Int)).toNat = (pre ++ c).length := by simp only [List.length_append]; omega
  rw [e, ← List.append_assoc, List.drop_left' rfl]
theorem replace_ev (s : List Int) (hs : goodSign s = true) (pre c r y : List Int) (hr : eat s (c ++ r) 1 = some r) (hl : (pre ++ (c ++ r)).length ≤ 1000) (hy : y.length ≤ 1000) :
    Ev (fun k => spec_l1Replace.f k s (pre ++ (c ++ r)) (pre.length : Int) y) (pre ++ (y ++ r)) ∧ Ev (fun k => impl_Sign_replace.f k s (pre ++ (c ++ r)) (pre.length : Int) y) (pre ++ (y ++ r)) := by
  have hl2 := hl
  simp only [List.length_append] at hl2
  have ht : (pre ++ (c ++ r)).take ((pre.length : Int)).toNat = pre := by rw [Int.toNat_natCast, List.take_left' rfl]
  have h := spec_l1End_ev s hs pre (c ++ r) (by omega)
  rw [hr] at h
  simp only at h
  constructor
  · simp only [spec_l1Replace.f]
    rw [ht]
    refine Ev.pos (by omega) (Ev.pos (by simp only [List.length_append]; omega) (Ev.bnd1 (own_eq pre (by omega)) (Ev.pos (by omega) (Ev.bnd1 rfl (Ev.bnd h (Ev.pos (by simp only [List.length_append]; omega) (Ev.pos (by simp only [List.length_append]; omega) ?_)))))))
    rw [end_drop]
    exact Ev.pos (by simp only [List.length_append]; omega) (Ev.eq (Ev.ret _) (by simp))
  · simp only [impl_Sign_replace.f]
    rw [ht]
    refine Ev.pos (by omega) (Ev.pos (by simp only [List.length_append]; omega) (Ev.bnd (impl_end_ev s hs pre (c ++ r) r (by omega) hr) (Ev.pos (by simp only [List.length_append]; omega) (Ev.pos (by simp only [List.length_append]; omega) ?_))))
    rw [end_drop]
    refine Ev.bnd (concat_ev [pre, y, r] (by simp) (fun x hx => ?_)) (Ev.eq (Ev.ret _) (by simp))
    simp only [List.mem_cons, List.not_mem_nil, or_false] at hx
    rcases hx with rfl | rfl | rfl <;> omega
def cutAt (s t : List Int) (a : Nat) : List Int := match eat s (t.drop a) 1 with
  | some r => (t.drop a).take ((t.drop a).length - r.length)
  | none => []
noncomputable def atT (s t : List Int) (l2 : List S65) : Nat → List Int × Int × Int × Bool
  | 0 => ([], 0, 0, false)
  | a + 1 => match unitsT s (cutAt s t a) l2 0 with
    | some y => (t.take a ++ (y.1 ++ t.drop (a + (cutAt s t a).length)), (a : Int), (y.2 : Int), true)
    | none => atT s t l2 a
/-- A term's part at a place. -/
theorem cutAt_of {s t : List Int} (ht : isTerm s t = true) {a : Nat} (ha : a < t.length) : ∃ pre r, pre.length = a ∧ t = pre ++ (cutAt s t a ++ r) ∧ t.take a = pre ∧ t.drop (a + (cutAt s t a).length) = r ∧ isTerm s (cutAt s t a) = true ∧ eat s (cutAt s t a ++ r) 1 = some r := by
  obtain ⟨hl, he⟩ := isTerm_of ht
  obtain ⟨m, hm⟩ := eat_at s t 1 a he ha
  obtain ⟨c, r, e, e1, e2, e3, e4, e5⟩ := eat_first hm
  have hc : cutAt s t a = c := by unfold cutAt; rw [e2]; exact e5
  have hcl : c.length ≤ t.length := by have := congrArg List.length e; rw [List.length_drop, List.length_append] at this; omega
  refine ⟨t.take a, r, by rw [List.length_take]; omega, ?_, rfl, ?_, ?_, ?_⟩
  · rw [hc, ← e, List.take_append_drop]
  · rw [hc, ← List.drop_drop, e, List.drop_left' rfl]
  · rw [hc]; exact isTerm_mk (by omega) e1
  · rw [hc, ← e]; exact e2
theorem byT_len {s part p tt y : List Int} (h : byT s part p tt = some y) : y.length ≤ part.length ∧ gt part y = true := by
  unfold byT at h
  split at h
  · simp at h
  · split at h
    · rename_i g
      simp only [Option.some.injEq] at h
      subst h
      refine ⟨?_, g.2⟩
      have hg := g.2
      unfold gt at hg
      rw [Bool.and_eq_true, Bool.or_eq_true, Bool.and_eq_true, decide_eq_true_eq, decide_eq_true_eq, decide_eq_true_eq] at hg
      omega
    · simp at h
theorem sidesT_len {s part y : List Int} {x : S65} (h : sidesT s part x = some y) : y.length ≤ part.length ∧ gt part y = true := by
  unfold sidesT at h
  split at h
  · rename_i e
    simp only [Option.some.injEq] at h
    exact byT_len (h ▸ e)
  · exact byT_len h
theorem unitsT_len {s part : List Int} (l : List S65) : ∀ (u : Nat) {y : List Int × Nat}, unitsT s part l u = some y → y.1.length ≤ part.length ∧ gt part y.1 = true := by
  induction l with
  | nil => intro u y h; simp [unitsT] at h
  | cons x l ih =>
    intro u y h
    simp only [unitsT] at h
    split at h
    · rename_i e
      simp only [Option.some.injEq] at h
      subst h
      exact sidesT_len e
    · exact ih _ h
theorem at_ev (s : List Int) (hs : goodSign s = true) (t : List Int) (ht : isTerm s t = true) (l2 : List S65) (hx : ∀ x ∈ l2, isLit s x = true) (a : Nat) : a ≤ t.length →
    Ev (fun k => spec_l7Step.at k s t l2 a) (atT s t l2 a) ∧ Ev (fun k => impl_Sign_step.at k s t l2 a) (atT s t l2 a) := by
  induction a with
  | zero => intro ha; exact ⟨Ev.ret _, Ev.ret _⟩
  | succ a ih =>
    intro ha
    obtain ⟨i1, i2⟩ := ih (by omega)
    obtain ⟨hl, he⟩ := isTerm_of ht
    obtain ⟨pre, r, q1, q2, q3, q4, q5, q6⟩ := cutAt_of ht (show a < t.length by omega)
    obtain ⟨u1, u2⟩ := units_ev s hs (cutAt s t a) q5 l2 0 hx
    have hpl : (pre ++ (cutAt s t a ++ r)).length ≤ 40 := by rw [← q2]; exact hl
    have p1 := spec_l1Part_ev s hs pre (cutAt s t a) r q6 (by omega)
    have p2 := impl_part_ev s hs pre (cutAt s t a) r q6 (by omega)
    rw [← q2, q1] at p1 p2
    have hcl : (cutAt s t a).length ≤ 40 := (isTerm_of q5).1
    constructor
    · simp only [spec_l7Step.at, atT]
      refine Ev.bnd p1 (Ev.bnd u1 ?_)
      cases e : unitsT s (cutAt s t a) l2 0 with
      | none => exact i1
      | some y =>
        have hy := (unitsT_len l2 0 e).1
        have rr := (replace_ev s hs pre (cutAt s t a) r y.1 q6 (by omega) (by omega)).1
        rw [← q2, q1] at rr
        rw [q3, q4]
        exact Ev.bnd rr (Ev.ret _)
    · simp only [impl_Sign_step.at, atT]
      refine Ev.bnd p2 (Ev.bnd u2 ?_)
      cases e : unitsT s (cutAt s t a) l2 0 with
      | none => exact i2
      | some y =>
        have hy := (unitsT_len l2 0 e).1
        have rr := (replace_ev s hs pre (cutAt s t a) r y.1 q6 (by omega) (by omega)).2
        rw [← q2, q1] at rr
        rw [q3, q4]
        exact Ev.bnd rr (Ev.ret _)
theorem areUnits_of {s : List Int} {l : List S65} (h : areUnits s l = true) : l.length ≤ 10 ∧ ∀ x ∈ l, isLit s x = true := by
  unfold areUnits at h
  rw [Bool.and_eq_true, decide_eq_true_eq, List.all_eq_true] at h
  refine ⟨h.1, fun x hx => ?_⟩
  have := h.2 x hx
  unfold isUnitL at this
  rw [Bool.and_eq_true] at this
  exact this.1
noncomputable def stepT (s t : List Int) (l2 : List S65) : List Int × Int × Int × Bool := atT s t l2 t.length
theorem step_ev (s : List Int) (hs : goodSign s = true) (t : List Int) (ht : isTerm s t = true) (l2 : List S65) (hu : areUnits s l2 = true) :
    Ev (fun k => spec_l7Step.f k s t l2) (stepT s t l2) ∧ Ev (fun k => impl_Sign_step.f k s t l2) (stepT s t l2) := by
  obtain ⟨u1, u2⟩ := areUnits_of hu
  obtain ⟨hl, he⟩ := isTerm_of ht
  obtain ⟨a, b⟩ := at_ev s hs t ht l2 u2 t.length (Nat.le_refl _)
  constructor
  · simp only [spec_l7Step.f]
    exact Ev.pos (by omega) a
  · simp only [impl_Sign_step.f]
    exact Ev.pos (by omega) b
theorem atT_len (s t : List Int) (ht : isTerm s t = true) (l2 : List S65) (a : Nat) : a ≤ t.length → (atT s t l2 a).1.length ≤ 40 := by
  induction a with
  | zero => intro _; simp [atT]
  | succ a ih =>
    intro ha
    simp only [atT]
    obtain ⟨pre, r, q1, q2, q3, q4, q5, q6⟩ := cutAt_of ht (show a < t.length by omega)
    cases e : unitsT s (cutAt s t a) l2 0 with
    | none => exact ih (by omega)
    | some y =>
      have hy := (unitsT_len l2 0 e).1
      have := (isTerm_of ht).1
      have e2 := congrArg List.length q2
      simp only [List.length_append] at e2
      simp only
      rw [q3, q4]
      simp only [List.length_append]
      omega
theorem goodTerm_of {s l : List Int} (h : goodTerm s l = true) : goodSign s = true ∧ isTerm s l = true := by
  unfold goodTerm at h
  rwa [Bool.and_eq_true] at h

theorem IsNormal_ex (s : List Int) (hs : s.length ≤ 1048576) (t : List Int) (ht : t.length ≤ 1048576) (l : List S65) (hl : l.length ≤ 1048576) :
    ∃ r : Bool × Bool, Ev (fun k => spec_IsNormal.f k s t l) r ∧ Ev (fun k => impl_IsNormal.f k s t l) r := by
  have g1 := spec_GoodTerm_ev s t (by omega)
  have g2 := impl_GoodTerm_ev s t
  by_cases g : goodTerm s t = true
  · obtain ⟨gs, gt⟩ := goodTerm_of g
    have u1 := spec_l7Units_ev s gs l hl
    have u2 := impl_areUnits_ev s gs l
    rw [g] at g1 g2
    by_cases u : areUnits s l = true
    · rw [u] at u1 u2
      obtain ⟨a, b⟩ := step_ev s gs t gt l u
      refine ⟨(!(stepT s t l).2.2.2, true), ?_, ?_⟩
      · simp only [spec_IsNormal.f]
        exact Ev.bnd g1 (Ev.pos rfl (Ev.bnd u1 (Ev.pos rfl (Ev.bnd a (Ev.ret _)))))
      · simp only [impl_IsNormal.f]
        exact Ev.bnd g2 (Ev.pos rfl (Ev.bnd u2 (Ev.pos rfl (Ev.bnd b (Ev.ret _)))))
    · refine ⟨(false, false), ?_, ?_⟩
      · simp only [spec_IsNormal.f]
        exact Ev.bnd g1 (Ev.pos rfl (Ev.bnd u1 (Ev.neg u (Ev.ret _))))
      · simp only [impl_IsNormal.f]
        exact Ev.bnd g2 (Ev.pos rfl (Ev.bnd u2 (Ev.neg u (Ev.ret _))))
  · refine ⟨(false, false), ?_, ?_⟩
    · simp only [spec_IsNormal.f]
      exact Ev.bnd g1 (Ev.neg g (Ev.ret _))
    · simp only [impl_IsNormal.f]
      exact Ev.bnd g2 (Ev.neg g (Ev.ret _))
theorem FnExactIsNormal : laws_FnExactIsNormal.Pure := by
  intro l0 l1 l2 h0 h1 h2
  have hm : (maxLen : Nat) ≤ 9223372036854775807 := by unfold maxLen; omega
  have hs0 : l0.length ≤ 9223372036854775807 := by have := h0.1; omega
  have hs2 : l2.length ≤ 9223372036854775807 := by have := h2.1; omega
  have hok : ∀ x ∈ l2, okLitA x := fun x hx => by
    obtain ⟨_, f1, f2⟩ := h2.2 x hx
    exact ⟨by have := f1.1; omega, by have := f2.1; omega⟩
  clear h0 h1 h2 hm
  refine Ev.all ?_
  simp only [laws_FnExactIsNormal.f]
  by_cases gp : (1048576 : Int) < (l1.length : Int)
  · exact Ev.pos (by omega) (Ev.ret _)
  refine Ev.neg (by omega) (Ev.bnd1 (szSign_eq l0 1048576 (by omega) (by omega) hs0) ?_)
  by_cases g0 : (l0.length : Int) ≤ 1048576
  rotate_left
  · rw [if_neg g0]
    exact Ev.pos (by omega) (Ev.ret _)
  rw [if_pos g0]
  have hb0 : l0.length ≤ 1048576 := by omega
  obtain ⟨z, hz, hzr, hzk⟩ := szLitS_ev l2 (1048576 - (l0.length : Int)) (by omega) (by omega) hs2 hok
  refine Ev.neg (by omega) (Ev.bnd hz ?_)
  by_cases gz : z < 0
  · exact Ev.pos gz (Ev.ret _)
  obtain ⟨hb2, hkA⟩ := hzk (by omega)
  have hl2 : (l2.map cvLit).length ≤ 1048576 := by rw [List.length_map]; exact hb2
  have hk2 := cvLit_sm hkA
  obtain ⟨r, es, ei⟩ := IsNormal_ex l0 hb0 l1 (by omega) (l2.map cvLit) hl2
  have t0 := toSign_ev l0 hb0
  have t1 := toIntS l1 (by omega)
  have t2 := toLitS_ev l2 hb2 hkA
  refine Ev.neg gz (Ev.bnd t0 (Ev.bnd t1 (Ev.bnd t2 (Ev.bnd es (Ev.bnd t0 (Ev.bnd t1 (Ev.bnd t2 (Ev.bnd ei ?_))))))))
  refine Ev.neg (by simp) (Ev.succ ?_)
  simp only [laws_FnExactIsNormal.j0]
  refine Ev.neg (by simp) (Ev.bnd t0 (Ev.bnd (eqSign_self l0 hb0) (Ev.pos rfl (Ev.bnd t1 (Ev.bnd (eqIntS_self l1 (by omega)) (Ev.pos rfl (Ev.bnd t2 (Ev.bnd (eqLitS_self _ hl2 hk2) (Ev.pos rfl (Ev.ret _))))))))))

end Go.Proofs.Ytlgnanbnicmdaab.Pure
