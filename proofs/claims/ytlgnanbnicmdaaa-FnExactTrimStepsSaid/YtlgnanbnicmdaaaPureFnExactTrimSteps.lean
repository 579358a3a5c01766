/- The program's TrimSteps returns what the reference's returns, for all arguments.
Conditions: none beyond what the row itself says. -/
import Derived.Test.YtlgnanbnicmdaaaQFnExactTrimStepsx16
namespace Go.Proofs.Ytlgnanbnicmdaaa.Pure
open Go.RowKit Go.Proofs.Ytlgnanbnicmdaaa.QFnExactTrimSteps Go.Proofs.YtlgnanbnicmdaaaW.PrintWords Go.Proofs.YtlgnanbnicmdaaaW.PrintLast Go.Proofs.YtlgnanbnicmdaaaW.PrintMore
set_option linter.unusedVariables false
set_option linter.unusedSimpArgs false

theorem w64 {x : Int} (h0 : -9223372036854775808 ≤ x) (h1 : x ≤ 9223372036854775807) : wrap64 x = x := by
  unfold wrap64; omega
theorem wf64 {a : Int} (h : (Lit.int .i64 a).wf = true) : -9223372036854775808 ≤ a ∧ a ≤ 9223372036854775807 := by
  simp only [Lit.wf, IntKind.min, IntKind.max, IntKind.signed, IntKind.bits, Bool.and_eq_true, decide_eq_true_eq, if_true] at h
  omega

theorem Ev.succ {α : Type} {g : Nat → Option α} {r : α} (h : Ev (fun k => g (k + 1)) r) : Ev g r := Ev.step (fun _ => rfl) h
theorem Ev.pos {α : Type} {c : Prop} [Decidable c] {a b : Nat → Option α} {r : α} (h : c) (e : Ev (fun k => a k) r) : Ev (fun k => if c then a k else b k) r := Ev.congr (fun _ => if_pos h) e
theorem Ev.neg {α : Type} {c : Prop} [Decidable c] {a b : Nat → Option α} {r : α} (h : ¬ c) (e : Ev (fun k => b k) r) : Ev (fun k => if c then a k else b k) r := Ev.congr (fun _ => if_neg h) e
theorem Ev.bnd {α β : Type} {g : Nat → Option α} {f : Nat → α → Option β} {a : α} {r : β} (h : Ev (fun k => g k) a) (k : Ev (fun n => f n a) r) : Ev (fun n => (g n).bind (fun x => f n x)) r := Ev.bind h k
theorem Ev.bnd1 {α β : Type} {g : Option α} {f : Nat → α → Option β} {a : α} {r : β} (h : g = some a) (k : Ev (fun n => f n a) r) : Ev (fun n => g.bind (fun x => f n x)) r := by
  rw [h]; exact k
theorem Ev.ret {α : Type} (r : α) : Ev (fun _ => some r) r := Ev.now r
theorem Ev.eq {α : Type} {g : Nat → Option α} {r r' : α} (h : Ev g r) (e : r = r') : Ev g r' := e ▸ h
theorem Ev.all {α : Type} {g : Nat → Option α} {r : α} (h : Ev (fun k => g k) r) : ∃ k, g k = some r := h.rounds
theorem rd_mid (pre : List Int) (x : Int) (post : List Int) : rd (pre ++ x :: post) (pre.length : Int) = x := by
  unfold rd; simp
theorem rd_nat (xs : List Int) (i : Nat) (h : i < xs.length) : rd xs (i : Int) = xs[i] := by
  unfold rd; simp [List.getD_eq_getElem?_getD, List.getElem?_eq_getElem h]

theorem toIntS_l0 (post : List Int) : ∀ (pre rest : List Int), rest.length = post.length → (pre ++ post).length ≤ 140737488351232 → Ev (fun k => laws_toIntS.l0 k (pre ++ post) (pre ++ rest) (pre.length : Int)) (pre ++ post) := by
  induction post with
  | nil =>
    intro pre rest hr hl
    obtain rfl : rest = [] := List.eq_nil_of_length_eq_zero hr
    refine Ev.succ ?_
    simp only [laws_toIntS.l0]
    exact Ev.neg (by simp) (Ev.ret _)
  | cons x post ih =>
    intro pre rest hr hl
    obtain ⟨y, rest, rfl⟩ : ∃ y t, rest = y :: t := by cases rest with | nil => simp at hr | cons y t => exact ⟨y, t, rfl⟩
    have h := ih (pre ++ [x]) rest (by simpa using hr) (by simpa using hl)
    simp only [List.length_append, List.length_cons, List.length_nil] at hl hr h
    refine Ev.succ ?_
    simp only [laws_toIntS.l0, List.length_append, List.length_cons]
    refine Ev.pos (by omega) (Ev.pos (by omega) (Ev.pos (by omega) ?_))
    rw [rd_mid, w64 (by omega) (by omega)]
    have e : (pre ++ y :: rest).set ((pre.length : Int)).toNat x = pre ++ [x] ++ rest := by simp
    rw [e]
    simpa using h
theorem toIntS (l : List Int) (h : l.length * 8 ≤ 140737488351232) : Ev (fun k => laws_toIntS.f k l) l := by
  simp only [laws_toIntS.f]
  refine Ev.pos (by omega) (Ev.pos (by omega) ?_)
  have := toIntS_l0 l [] (List.replicate l.length 0) (by simp) (by simp; omega)
  simpa using this

theorem eqIntS_l0 (pa : List Int) : ∀ (pa' pb pb' : List Int), pa'.length = pb'.length → pa.length = pb.length → (pa' ++ pa).length ≤ 140737488351232 → Ev (fun k => laws_eqIntS.l0 k (pa' ++ pa) (pb' ++ pb) (pa'.length : Int)) (decide (pa = pb)) := by
  induction pa with
  | nil =>
    intro pa' pb pb' h1 h2 hl
    obtain rfl : pb = [] := List.eq_nil_of_length_eq_zero h2.symm
    refine Ev.succ ?_
    simp only [laws_eqIntS.l0]
    exact Ev.neg (by simp) (Ev.eq (Ev.ret _) (by simp))
  | cons x pa ih =>
    intro pa' pb pb' h1 h2 hl
    obtain ⟨y, pb, rfl⟩ : ∃ y t, pb = y :: t := by cases pb with | nil => simp at h2 | cons y t => exact ⟨y, t, rfl⟩
    have h := ih (pa' ++ [x]) pb (pb' ++ [y]) (by simpa using h1) (by simpa using h2) (by simpa using hl)
    simp only [List.length_append, List.length_cons, List.length_nil] at hl h2 h
    refine Ev.succ ?_
    simp only [laws_eqIntS.l0, List.length_append, List.length_cons]
    refine Ev.pos (by omega) (Ev.pos (by omega) (Ev.pos (by omega) ?_))
    rw [rd_mid, show (pa'.length : Int) = (pb'.length : Int) by omega, rd_mid]
    by_cases e : x = y
    · subst e
      refine Ev.pos rfl ?_
      rw [w64 (by omega) (by omega)]
      refine Ev.eq (Ev.congr (fun k => ?_) h) (by simp)
      simp [h1]
    · exact Ev.neg e (Ev.eq (Ev.ret _) (by simp [e]))
theorem eqIntS (a b : List Int) (h : a.length ≤ 140737488351232) : Ev (fun k => laws_eqIntS.f k a b) (decide (a = b)) := by
  simp only [laws_eqIntS.f]
  by_cases e : a.length = b.length
  · exact Ev.pos (by omega) (by simpa using eqIntS_l0 a [] b [] rfl e (by simpa using h))
  · exact Ev.neg (by omega) (Ev.eq (Ev.ret _) (by simp only [false_eq_decide_iff]; intro h; exact e (by rw [h])))
theorem eqIntS_self (a : List Int) (h : a.length ≤ 140737488351232) : Ev (fun k => laws_eqIntS.f k a a) true := Ev.eq (eqIntS a a h) (by simp)

theorem spec_in_eq (a lo hi : Int) : spec_l1In.f a lo hi = some (decide (lo ≤ a ∧ a ≤ hi)) := by
  unfold spec_l1In.f
  by_cases h1 : a ≥ lo
  · rw [if_pos h1]
    by_cases h2 : a ≤ hi
    · rw [decide_eq_true h2, decide_eq_true ⟨h1, h2⟩]
    · rw [decide_eq_false h2, decide_eq_false (fun h => h2 h.2)]
  · rw [if_neg h1, decide_eq_false (fun h => h1 h.1)]
def inAll (lo hi : Int) (l : List Int) : Bool := l.all fun x => decide (lo ≤ x ∧ x ≤ hi)
theorem spec_l1All_l0 (lo hi : Int) (post : List Int) : ∀ pre : List Int, (pre ++ post).length ≤ 140737488351232 → Ev (fun k => spec_l1All.l0 k lo hi (pre ++ post) ((pre ++ post).length : Int) (pre.length : Int)) (inAll lo hi post) := by
  induction post with
  | nil =>
    intro pre hl
    refine Ev.succ ?_
    simp only [spec_l1All.l0]
    exact Ev.neg (by simp) (Ev.ret _)
  | cons x post ih =>
    intro pre hl
    have h := ih (pre ++ [x]) (by simpa using hl)
    simp only [List.length_append, List.length_cons] at hl
    refine Ev.succ ?_
    simp only [spec_l1All.l0]
    refine Ev.pos (by simp only [List.length_append, List.length_cons]; omega) (Ev.pos (by omega) (Ev.pos (by simp only [List.length_append, List.length_cons]; omega) ?_))
    rw [rd_mid]
    refine Ev.bnd1 (spec_in_eq _ _ _) ?_
    by_cases hx : lo ≤ x ∧ x ≤ hi
    · rw [decide_eq_true hx]
      refine Ev.pos rfl ?_
      rw [w64 (by omega) (by omega)]
      refine Ev.eq (by simpa using h) ?_
      simp [inAll, hx]
    · rw [decide_eq_false hx]
      exact Ev.neg (by simp) (Ev.eq (Ev.ret _) (by simp only [inAll, List.all_cons, decide_eq_false hx, Bool.false_and]))
theorem spec_l1All_ev (lo hi : Int) (l : List Int) (hl : l.length ≤ 140737488351232) : Ev (fun k => spec_l1All.f k l lo hi) (inAll lo hi l) := by
  simp only [spec_l1All.f]
  simpa using spec_l1All_l0 lo hi l [] (by simpa using hl)
theorem inAll_mem {lo hi : Int} {l : List Int} (h : inAll lo hi l = true) : ∀ x ∈ l, lo ≤ x ∧ x ≤ hi := by
  intro x hx
  unfold inAll at h
  simpa using List.all_eq_true.1 h x hx

theorem anyO_not {α : Type} (f : α → Option Bool) (p : α → Bool) (l : List α) (h : ∀ x ∈ l, f x = some (!p x)) : anyO f l = some (!l.all p) := by
  induction l with
  | nil => rfl
  | cons x t ih =>
    simp only [anyO]
    rw [h x (by simp), Option.bind_some]
    cases hp : p x with
    | true => simp [hp, ih (fun y hy => h y (by simp [hy]))]
    | false => simp [hp]

def goodSign (s : List Int) : Bool := decide (1 ≤ s.length ∧ s.length ≤ 10) && (inAll 0 3 s && (rd s 0 == 0))
theorem goodSign_len {s : List Int} (h : goodSign s = true) : 1 ≤ s.length ∧ s.length ≤ 10 := by
  unfold goodSign at h
  simp only [Bool.and_eq_true, decide_eq_true_eq] at h
  exact h.1
theorem goodSign_mem {s : List Int} (h : goodSign s = true) : ∀ x ∈ s, 0 ≤ x ∧ x ≤ 3 := by
  unfold goodSign at h
  simp only [Bool.and_eq_true] at h
  exact inAll_mem h.2.1
theorem goodSign_rd {s : List Int} (h : goodSign s = true) (x : Int) (h0 : 0 ≤ x) (h1 : x < s.length) : 0 ≤ rd s x ∧ rd s x ≤ 3 := by
  obtain ⟨n, rfl⟩ : ∃ n : Nat, x = n := ⟨x.toNat, by omega⟩
  have hn : n < s.length := by omega
  rw [rd_nat s n hn]
  exact goodSign_mem h _ (List.getElem_mem hn)
theorem spec_GoodSign_ev (s : List Int) (hl : s.length ≤ 140737488351232) : Ev (fun k => spec_GoodSign.f k s) (goodSign s) := by
  simp only [spec_GoodSign.f]
  refine Ev.bnd1 (spec_in_eq _ _ _) ?_
  by_cases g : 1 ≤ s.length ∧ s.length ≤ 10
  · have g' : (1 : Int) ≤ (s.length : Int) ∧ (s.length : Int) ≤ 10 := by omega
    refine Ev.pos (decide_eq_true g') (Ev.bnd (spec_l1All_ev 0 3 s hl) ?_)
    unfold goodSign
    rw [decide_eq_true g, Bool.true_and]
    cases ha : inAll 0 3 s with
    | true => exact Ev.pos rfl (Ev.pos (by omega) (Ev.eq (Ev.ret _) rfl))
    | false => exact Ev.neg (by simp) (Ev.eq (Ev.ret _) rfl)
  · have g' : ¬ ((1 : Int) ≤ (s.length : Int) ∧ (s.length : Int) ≤ 10) := by omega
    refine Ev.neg (by rw [decide_eq_false g']; simp) (Ev.eq (Ev.ret _) ?_)
    unfold goodSign
    rw [decide_eq_false g, Bool.false_and]
theorem impl_GoodSign_any (s : List Int) : impl_GoodSign_1_any.f s = some (!inAll 0 3 s) := by
  unfold impl_GoodSign_1_any.f inAll
  refine anyO_not _ _ _ (fun x _ => ?_)
  unfold impl_GoodSign_1.f
  by_cases h1 : x < 0
  · rw [if_pos h1, decide_eq_false (by omega)]; rfl
  · rw [if_neg h1]
    by_cases h2 : x ≤ 3
    · rw [decide_eq_true (show 0 ≤ x ∧ x ≤ 3 by omega), decide_eq_false (by omega)]; rfl
    · rw [decide_eq_false (show ¬ (0 ≤ x ∧ x ≤ 3) by omega), decide_eq_true (by omega)]; rfl
theorem impl_GoodSign_eq (s : List Int) : impl_GoodSign.f s = some (goodSign s) := by
  unfold impl_GoodSign.f goodSign
  by_cases g : 1 ≤ s.length ∧ s.length ≤ 10
  · rw [if_neg (by omega), if_neg (by omega), if_pos (by omega), decide_eq_true g, Bool.true_and]
    by_cases e : rd s 0 = 0
    · rw [if_pos e, impl_GoodSign_any, e]; simp
    · rw [if_neg e]; simp [e]
  · rw [decide_eq_false g, Bool.false_and]
    by_cases h1 : (s.length : Int) < 1
    · rw [if_pos h1]
    · rw [if_neg h1, if_pos (by omega)]

/-! Terms in prefix form. -/
/-- How many arguments a token takes. -/
def ar (s : List Int) (x : Int) : Nat := if x < 0 then 0 else (rd s x).toNat
/-- Whether a number may stand in a term. -/
def tok (s : List Int) (x : Int) : Bool := decide (-12 ≤ x ∧ x < s.length)
/-- What is left of a row when so many terms are read off it. -/
def eat (s : List Int) : List Int → Nat → Option (List Int)
  | l, 0 => some l
  | [], _ + 1 => none
  | x :: l, n + 1 => if tok s x = true then eat s l (n + ar s x) else none
def isTerm (s : List Int) (l : List Int) : Bool := decide (1 ≤ l.length ∧ l.length ≤ 40) && (eat s l 1 == some [])
def goodTerm (s : List Int) (l : List Int) : Bool := goodSign s && isTerm s l
theorem ar_le {s : List Int} (h : goodSign s = true) {x : Int} (ht : tok s x = true) : ar s x ≤ 3 := by
  unfold tok at ht
  simp only [decide_eq_true_eq] at ht
  unfold ar
  by_cases g : x < 0
  · rw [if_pos g]; omega
  · rw [if_neg g]
    have := goodSign_rd h x (by omega) (by omega)
    omega
theorem ar_rd {s : List Int} (h : goodSign s = true) {x : Int} (h0 : 0 ≤ x) (ht : tok s x = true) : rd s x = (ar s x : Int) := by
  unfold tok at ht
  simp only [decide_eq_true_eq] at ht
  unfold ar
  rw [if_neg (by omega)]
  have := goodSign_rd h x (by omega) (by omega)
  omega
theorem eat_suf (s : List Int) (l : List Int) : ∀ (n : Nat) (r : List Int), eat s l n = some r → ∃ c, l = c ++ r := by
  induction l with
  | nil =>
    intro n r h
    cases n with
    | zero => simp only [eat, Option.some.injEq] at h; exact ⟨[], by simp [h]⟩
    | succ n => simp [eat] at h
  | cons x l ih =>
    intro n r h
    cases n with
    | zero => simp only [eat, Option.some.injEq] at h; exact ⟨[], by simp [h]⟩
    | succ n =>
      simp only [eat] at h
      split at h
      · obtain ⟨c, e⟩ := ih _ _ h
        exact ⟨x :: c, by rw [e]; rfl⟩
      · simp at h
theorem eat_zero (s : List Int) (l : List Int) : eat s l 0 = some l := by cases l <;> rfl
theorem eat_split (s : List Int) (l : List Int) : ∀ (n m : Nat) (r : List Int), eat s l (n + m) = some r → ∃ mid, eat s l n = some mid ∧ eat s mid m = some r := by
  induction l with
  | nil =>
    intro n m r h
    cases n with
    | zero => exact ⟨[], eat_zero _ _, by simpa using h⟩
    | succ n => rw [show n + 1 + m = (n + m) + 1 by omega] at h; simp [eat] at h
  | cons x l ih =>
    intro n m r h
    cases n with
    | zero => exact ⟨x :: l, eat_zero _ _, by simpa using h⟩
    | succ n =>
      rw [show n + 1 + m = (n + m) + 1 by omega] at h
      simp only [eat] at h ⊢
      split at h
      · rename_i ht
        rw [if_pos ht]
        exact ih _ _ _ (by rw [← h]; congr 1; omega)
      · simp at h
theorem spec_l1End_l0 (s : List Int) (hs : goodSign s = true) (l : List Int) : ∀ (pre : List Int) (n : Nat), (pre ++ l).length ≤ 1000000000 → n ≤ 3 * pre.length + 3 →
    Ev (fun k => spec_l1End.l0 k (pre ++ l) (pre.length : Int) (n : Int) s) (match eat s l n with | some r => ((pre ++ l).length : Int) - r.length | none => -1) := by
  have hsl := goodSign_len hs
  induction l with
  | nil =>
    intro pre n hl hn
    refine Ev.succ ?_
    simp only [spec_l1End.l0]
    cases n with
    | zero => exact Ev.neg (by simp) (Ev.eq (Ev.ret _) (by simp [eat]))
    | succ n =>
      refine Ev.pos (by omega) (Ev.pos (by simp) (Ev.succ ?_))
      simp only [spec_l1End.j1]
      exact Ev.pos trivial (Ev.eq (Ev.ret _) (by simp [eat]))
  | cons x l ih =>
    intro pre n hl hn
    have hl' := hl
    simp only [List.length_append, List.length_cons] at hl
    refine Ev.succ ?_
    simp only [spec_l1End.l0]
    cases n with
    | zero => exact Ev.neg (by simp) (Ev.eq (Ev.ret _) (by simp only [eat, List.length_append, List.length_cons]; omega))
    | succ n =>
      refine Ev.pos (by omega) (Ev.neg (by simp only [List.length_append, List.length_cons]; omega) (Ev.pos (by omega) (Ev.pos (by simp only [List.length_append, List.length_cons]; omega) ?_)))
      rw [rd_mid, w64 (x := (s.length : Int) - 1) (by omega) (by omega)]
      refine Ev.bnd1 (spec_in_eq _ _ _) (Ev.succ ?_)
      simp only [spec_l1End.j1]
      by_cases g : -12 ≤ x ∧ x ≤ (s.length : Int) - 1
      · have ht : tok s x = true := by unfold tok; exact decide_eq_true (by omega)
        have har := ar_le hs ht
        have h := ih (pre ++ [x]) (n + ar s x) (by simpa using hl') (by simp only [List.length_append, List.length_cons, List.length_nil]; omega)
        refine Ev.neg (by rw [decide_eq_true g]; simp) (Ev.pos (by omega) (Ev.pos (by simp only [List.length_append, List.length_cons]; omega) ?_))
        have e : eat s (x :: l) (n + 1) = eat s l (n + ar s x) := by simp only [eat]; rw [if_pos ht]
        rw [e]
        have e0 : wrap64 ((pre.length : Int) + 1) = (pre.length : Int) + 1 := w64 (by omega) (by omega)
        have e1 : wrap64 (((n + 1 : Nat) : Int) - 1) = (n : Int) := by rw [w64 (by omega) (by omega)]; omega
        rw [rd_mid, e0, e1]
        have h' : Ev (fun k => spec_l1End.l0 k (pre ++ x :: l) ((pre.length : Int) + 1) ((n : Int) + (ar s x : Int)) s) (match eat s l (n + ar s x) with | some r => ((pre ++ x :: l).length : Int) - r.length | none => -1) := by simpa using h
        by_cases g0 : x ≥ 0
        · refine Ev.pos g0 (Ev.pos g0 (Ev.pos (by omega) ?_))
          rw [ar_rd hs g0 ht, w64 (by omega) (by omega)]
          exact h'
        · refine Ev.neg g0 ?_
          have e2 : ar s x = 0 := by unfold ar; rw [if_pos (by omega)]
          rw [e2] at h' ⊢
          simpa using h'
      · have ht : ¬ tok s x = true := by unfold tok; rw [decide_eq_true_eq]; omega
        refine Ev.pos (by rw [decide_eq_false g]; rfl) (Ev.eq (Ev.ret _) ?_)
        simp only [eat]
        rw [if_neg ht]
theorem spec_l1End_ev (s : List Int) (hs : goodSign s = true) (pre l : List Int) (hl : (pre ++ l).length ≤ 1000000000) :
    Ev (fun k => spec_l1End.f k s (pre ++ l) (pre.length : Int)) (match eat s l 1 with | some r => ((pre ++ l).length : Int) - r.length | none => -1) := by
  simp only [spec_l1End.f]
  exact spec_l1End_l0 s hs l pre 1 hl (by omega)
theorem spec_l1Term_ev (s : List Int) (hs : goodSign s = true) (l : List Int) : Ev (fun k => spec_l1Term.f k s l) (isTerm s l) := by
  simp only [spec_l1Term.f]
  refine Ev.bnd1 (spec_in_eq _ _ _) ?_
  unfold isTerm
  by_cases g : 1 ≤ l.length ∧ l.length ≤ 40
  · have g' : (1 : Int) ≤ (l.length : Int) ∧ (l.length : Int) ≤ 40 := by omega
    have h := spec_l1End_ev s hs [] l (by simp; omega)
    refine Ev.pos (decide_eq_true g') (Ev.bnd (by simpa using h) (Ev.eq (Ev.ret _) ?_))
    rw [decide_eq_true g, Bool.true_and]
    cases e : eat s l 1 with
    | none => simp
    | some r =>
      cases r with
      | nil => simp
      | cons y r => simp; omega
  · have g' : ¬ ((1 : Int) ≤ (l.length : Int) ∧ (l.length : Int) ≤ 40) := by omega
    refine Ev.neg (by rw [decide_eq_false g']; simp) (Ev.eq (Ev.ret _) ?_)
    rw [decide_eq_false g, Bool.false_and]
theorem impl_args_eq (s : List Int) (hs : goodSign s = true) (x : Int) (ht : tok s x = true) : impl_Sign_args.f s x = some (ar s x : Int) := by
  unfold impl_Sign_args.f
  by_cases g : x < 0
  · rw [if_pos g]; unfold ar; rw [if_pos g]; rfl
  · have ht' := ht
    unfold tok at ht'
    simp only [decide_eq_true_eq] at ht'
    rw [if_neg g, if_pos (by omega), if_pos (by omega), ar_rd hs (by omega) ht]
theorem impl_isTerm_l0 (s : List Int) (hs : goodSign s = true) (l : List Int) : ∀ (pre : List Int) (n : Nat), (pre ++ l).length ≤ 1000000 → n ≤ 3 * pre.length + 3 →
    Ev (fun k => impl_Sign_isTerm.l0 k (n : Int) (pre ++ l) ((pre ++ l).length : Int) (pre.length : Int) s) (eat s l n == some []) := by
  have hsl := goodSign_len hs
  induction l with
  | nil =>
    intro pre n hl hn
    refine Ev.succ ?_
    simp only [impl_Sign_isTerm.l0]
    refine Ev.neg (by simp) (Ev.eq (Ev.ret _) ?_)
    cases n with
    | zero => rfl
    | succ n => first | (simp [eat]; done) | (simp [eat]; omega)
  | cons x l ih =>
    intro pre n hl hn
    have hl' := hl
    simp only [List.length_append, List.length_cons] at hl
    refine Ev.succ ?_
    simp only [impl_Sign_isTerm.l0]
    refine Ev.pos (by simp only [List.length_append, List.length_cons]; omega) (Ev.pos (by omega) (Ev.pos (by simp only [List.length_append, List.length_cons]; omega) ?_))
    cases n with
    | zero => exact Ev.pos rfl (Ev.eq (Ev.ret _) (by simp [eat]))
    | succ n =>
      refine Ev.neg (by omega) ?_
      rw [rd_mid]
      by_cases g1 : x < -12
      · refine Ev.pos g1 (Ev.eq (Ev.ret _) ?_)
        have ht : ¬ tok s x = true := by unfold tok; rw [decide_eq_true_eq]; omega
        simp only [eat]
        rw [if_neg ht]; rfl
      · refine Ev.neg g1 ?_
        by_cases g2 : x ≥ (s.length : Int)
        · refine Ev.pos g2 (Ev.eq (Ev.ret _) ?_)
          have ht : ¬ tok s x = true := by unfold tok; rw [decide_eq_true_eq]; omega
          simp only [eat]
          rw [if_neg ht]; rfl
        · refine Ev.neg g2 ?_
          have ht : tok s x = true := by unfold tok; exact decide_eq_true (by omega)
          have har := ar_le hs ht
          have h := ih (pre ++ [x]) (n + ar s x) (by simpa using hl') (by simp only [List.length_append, List.length_cons, List.length_nil]; omega)
          refine Ev.bnd1 (impl_args_eq s hs x ht) ?_
          have e0 : wrap64 ((pre.length : Int) + 1) = (pre.length : Int) + 1 := w64 (by omega) (by omega)
          have e1 : wrap64 ((ar s x : Int) - 1) = (ar s x : Int) - 1 := w64 (by omega) (by omega)
          have e2 : wrap64 (((n + 1 : Nat) : Int) + ((ar s x : Int) - 1)) = (n : Int) + (ar s x : Int) := by rw [w64 (by omega) (by omega)]; omega
          rw [e0, e1, e2]
          refine Ev.eq (by simpa using h) ?_
          simp only [eat]
          rw [if_pos ht]
theorem impl_isTerm_ev (s : List Int) (hs : goodSign s = true) (l : List Int) : Ev (fun k => impl_Sign_isTerm.f k s l) (isTerm s l) := by
  simp only [impl_Sign_isTerm.f]
  unfold isTerm
  by_cases g : l.length > 40
  · refine Ev.pos (by omega) (Ev.eq (Ev.ret _) ?_)
    rw [decide_eq_false (by omega), Bool.false_and]
  · refine Ev.neg (by omega) ?_
    have h := impl_isTerm_l0 s hs l [] 1 (by simp; omega) (by omega)
    refine Ev.eq (by simpa using h) ?_
    cases l with
    | nil => simp [eat]
    | cons x l => rw [decide_eq_true (show 1 ≤ (x :: l).length ∧ (x :: l).length ≤ 40 by simp only [List.length_cons] at g ⊢; omega), Bool.true_and]

theorem szIntS_eq (l : List Int) (a : Int) (h0 : 0 ≤ a) (h1 : a ≤ 1048576) (hl : l.length ≤ 9223372036854775807) : laws_szIntS.f l a = some (if (l.length : Int) ≤ a then a - l.length else -1) := by
  unfold laws_szIntS.f
  rw [w64 (x := a - (l.length : Int)) (by omega) (by omega)]
  by_cases g : a - (l.length : Int) < 0
  · rw [if_pos g, if_neg (by omega)]
  · rw [if_neg g, if_pos (by omega)]
theorem szSign_eq (l : List Int) (a : Int) (h0 : 0 ≤ a) (h1 : a ≤ 1048576) (hl : l.length ≤ 9223372036854775807) : laws_szSign.f l a = some (if (l.length : Int) ≤ a then a - l.length else -1) := by
  unfold laws_szSign.f
  rw [szIntS_eq l a h0 h1 hl, Option.bind_some]
  by_cases g : (l.length : Int) ≤ a
  · rw [if_pos g, if_neg (by omega)]
  · rw [if_neg g]; rfl
theorem toSign_ev (l : List Int) (h : l.length ≤ 1048576) : Ev (fun k => laws_toSign.f k l) l := by
  simp only [laws_toSign.f]
  exact Ev.bnd (toIntS l (by omega)) (Ev.ret _)
theorem eqSign_self (l : List Int) (h : l.length ≤ 1048576) : Ev (fun k => laws_eqSign.f k l l) true := by
  simp only [laws_eqSign.f]
  exact Ev.bnd (eqIntS_self l (by omega)) (Ev.pos rfl (Ev.ret _))

/-! Literals as the laws hand them over. -/
def okLitA (x : S70) : Prop := x.f1.length ≤ 9223372036854775807 ∧ x.f2.length ≤ 9223372036854775807
def smLitA (x : S70) : Prop := x.f1.length ≤ 1048576 ∧ x.f2.length ≤ 1048576
def cvLit (x : S70) : S72 := ⟨x.f0, x.f1, x.f2⟩
def smLit (x : S72) : Prop := x.f1.length ≤ 1048576 ∧ x.f2.length ≤ 1048576
theorem rdLA_mid (pre : List S70) (x : S70) (post : List S70) : rd_T70 (pre ++ x :: post) (pre.length : Int) = x := by
  unfold rd_T70; simp
theorem rdLB_mid (pre : List S72) (x : S72) (post : List S72) : rd_T72 (pre ++ x :: post) (pre.length : Int) = x := by
  unfold rd_T72; simp
theorem szLit_eq (b : Bool) (f1 f2 : List Int) (a : Int) (h0 : 0 ≤ a) (h1 : a ≤ 1048576) (hf1 : f1.length ≤ 9223372036854775807) (hf2 : f2.length ≤ 9223372036854775807) : ∃ r, laws_szLit.f b f1 f2 a = some r ∧ r ≤ a ∧ (0 ≤ r → f1.length ≤ 1048576 ∧ f2.length ≤ 1048576) := by
  unfold laws_szLit.f
  rw [szIntS_eq f1 a h0 h1 hf1, Option.bind_some]
  by_cases g : (f1.length : Int) ≤ a
  · rw [if_pos g, if_neg (by omega), szIntS_eq f2 _ (by omega) (by omega) hf2, Option.bind_some]
    by_cases g2 : (f2.length : Int) ≤ a - f1.length
    · rw [if_pos g2, if_neg (by omega)]; exact ⟨_, rfl, by omega, fun _ => by omega⟩
    · rw [if_neg g2]; exact ⟨-1, rfl, by omega, by omega⟩
  · rw [if_neg g]; exact ⟨-1, rfl, by omega, by omega⟩
theorem szLitS_l0 (post : List S70) : ∀ (pre : List S70) (a : Int), 0 ≤ a → a ≤ 1048576 → (∀ x ∈ post, okLitA x) → (pre ++ post).length ≤ 1048576 →
    ∃ r, Ev (fun k => laws_szLitS.l0 k (pre ++ post) a (pre.length : Int)) r ∧ r ≤ a ∧ (0 ≤ r → ∀ x ∈ post, smLitA x) := by
  induction post with
  | nil =>
    intro pre a h0 h1 hk hl
    refine ⟨a, Ev.succ ?_, by omega, by simp⟩
    simp only [laws_szLitS.l0]
    exact Ev.neg (by simp) (Ev.ret _)
  | cons x post ih =>
    intro pre a h0 h1 hk hl
    have hl' := hl
    simp only [List.length_append, List.length_cons] at hl
    have hx := hk x (by simp)
    obtain ⟨r, e, hr, hs⟩ := szLit_eq x.f0 x.f1 x.f2 a h0 h1 hx.1 hx.2
    by_cases g : r < 0
    · refine ⟨-1, Ev.succ ?_, by omega, by omega⟩
      simp only [laws_szLitS.l0]
      refine Ev.pos (by simp only [List.length_append, List.length_cons]; omega) (Ev.pos (by omega) ?_)
      rw [rdLA_mid]
      exact Ev.bnd1 e (Ev.pos g (Ev.ret _))
    · obtain ⟨r2, e2, hr2, hs2⟩ := ih (pre ++ [x]) r (by omega) (by omega) (fun y hy => hk y (by simp [hy])) (by simpa using hl')
      refine ⟨r2, Ev.succ ?_, by omega, fun h y hy => ?_⟩
      · simp only [laws_szLitS.l0]
        refine Ev.pos (by simp only [List.length_append, List.length_cons]; omega) (Ev.pos (by omega) ?_)
        rw [rdLA_mid, w64 (x := (pre.length : Int) + 1) (by omega) (by omega)]
        exact Ev.bnd1 e (Ev.neg g (by simpa using e2))
      · rcases List.mem_cons.1 hy with rfl | hy
        · exact hs (by omega)
        · exact hs2 h y hy
theorem szLitS_ev (l : List S70) (a : Int) (h0 : 0 ≤ a) (h1 : a ≤ 1048576) (hl : l.length ≤ 9223372036854775807) (hk : ∀ x ∈ l, okLitA x) :
    ∃ r, Ev (fun k => laws_szLitS.f k l a) r ∧ r ≤ a ∧ (0 ≤ r → l.length ≤ 1048576 ∧ ∀ x ∈ l, smLitA x) := by
  simp only [laws_szLitS.f]
  rw [w64 (x := a - (l.length : Int)) (by omega) (by omega)]
  by_cases g : a - (l.length : Int) < 0
  · exact ⟨-1, Ev.pos g (Ev.ret _), by omega, by omega⟩
  · obtain ⟨r, e, hr, hs⟩ := szLitS_l0 l [] (a - l.length) (by omega) (by omega) hk (by simp; omega)
    exact ⟨r, Ev.neg g (by simpa using e), by omega, fun h => ⟨by omega, hs h⟩⟩
theorem toLit_ev (b : Bool) (f1 f2 : List Int) (h1 : f1.length ≤ 1048576) (h2 : f2.length ≤ 1048576) : Ev (fun k => laws_toLit.f k b f1 f2) (b, f1, f2) := by
  simp only [laws_toLit.f]
  exact Ev.bnd (toIntS f1 (by omega)) (Ev.bnd (toIntS f2 (by omega)) (Ev.ret _))
theorem toLitS_l0 (post : List S70) : ∀ (pre : List S70) (pre' rest : List S72), pre'.length = pre.length → rest.length = post.length → (pre ++ post).length ≤ 1048576 → (∀ x ∈ post, smLitA x) →
    Ev (fun k => laws_toLitS.l0 k (pre ++ post) (pre' ++ rest) (pre.length : Int)) (pre' ++ post.map cvLit) := by
  induction post with
  | nil =>
    intro pre pre' rest hp hr hl hk
    obtain rfl : rest = [] := List.eq_nil_of_length_eq_zero hr
    refine Ev.succ ?_
    simp only [laws_toLitS.l0]
    exact Ev.neg (by simp) (Ev.ret _)
  | cons x post ih =>
    intro pre pre' rest hp hr hl hk
    obtain ⟨y, rest, rfl⟩ : ∃ y t, rest = y :: t := by cases rest with | nil => simp at hr | cons y t => exact ⟨y, t, rfl⟩
    have h := ih (pre ++ [x]) (pre' ++ [cvLit x]) rest (by simpa using hp) (by simpa using hr) (by simpa using hl) (fun z hz => hk z (by simp [hz]))
    simp only [List.length_append, List.length_cons, List.length_nil] at hl hr h
    have hx := hk x (by simp)
    refine Ev.succ ?_
    simp only [laws_toLitS.l0, List.length_append, List.length_cons]
    refine Ev.pos (by omega) (Ev.pos (by omega) ?_)
    rw [rdLA_mid, w64 (by omega) (by omega)]
    refine Ev.bnd (toLit_ev _ _ _ hx.1 hx.2) (Ev.pos (by omega) ?_)
    have e : (pre' ++ y :: rest).set ((pre.length : Int)).toNat ⟨x.f0, x.f1, x.f2⟩ = pre' ++ [cvLit x] ++ rest := by simp [← hp, cvLit]
    rw [e]
    simpa using h
theorem toLitS_ev (l : List S70) (h : l.length ≤ 1048576) (hk : ∀ x ∈ l, smLitA x) : Ev (fun k => laws_toLitS.f k l) (l.map cvLit) := by
  simp only [laws_toLitS.f]
  refine Ev.pos (by omega) (Ev.pos (by omega) ?_)
  have := toLitS_l0 l [] [] (List.replicate l.length z72) rfl (by simp) (by simp; omega) hk
  simpa using this
theorem cvLit_sm {l : List S70} (hk : ∀ x ∈ l, smLitA x) : ∀ x ∈ l.map cvLit, smLit x := by
  intro x hx
  obtain ⟨y, hy, rfl⟩ := List.mem_map.1 hx
  exact hk y hy
theorem eqLit_self (b : Bool) (f1 f2 : List Int) (h1 : f1.length ≤ 1048576) (h2 : f2.length ≤ 1048576) : Ev (fun k => laws_eqLit.f k b f1 f2 b f1 f2) true := by
  simp only [laws_eqLit.f]
  exact Ev.neg (by simp) (Ev.bnd (eqIntS_self f1 (by omega)) (Ev.pos rfl (Ev.bnd (eqIntS_self f2 (by omega)) (Ev.pos rfl (Ev.ret _)))))
theorem eqLitS_l0 (post : List S72) : ∀ pre : List S72, (pre ++ post).length ≤ 1048576 → (∀ x ∈ post, smLit x) → Ev (fun k => laws_eqLitS.l0 k (pre ++ post) (pre ++ post) (pre.length : Int)) true := by
  induction post with
  | nil =>
    intro pre hl hk
    refine Ev.succ ?_
    simp only [laws_eqLitS.l0]
    exact Ev.neg (by simp) (Ev.ret _)
  | cons x post ih =>
    intro pre hl hk
    have h := ih (pre ++ [x]) (by simpa using hl) (fun y hy => hk y (by simp [hy]))
    have hx := hk x (by simp)
    simp only [List.length_append, List.length_cons] at hl
    refine Ev.succ ?_
    simp only [laws_eqLitS.l0]
    refine Ev.pos (by simp only [List.length_append, List.length_cons]; omega) (Ev.pos (by omega) (Ev.pos (by simp only [List.length_append, List.length_cons]; omega) ?_))
    rw [rdLB_mid, w64 (by omega) (by omega)]
    exact Ev.bnd (eqLit_self _ _ _ hx.1 hx.2) (Ev.pos rfl (by simpa using h))
theorem eqLitS_self (l : List S72) (hl : l.length ≤ 1048576) (hk : ∀ x ∈ l, smLit x) : Ev (fun k => laws_eqLitS.f k l l) true := by
  simp only [laws_eqLitS.f]
  exact Ev.pos trivial (by simpa using eqLitS_l0 l [] (by simpa using hl) hk)

/-! Steps of a proof as the laws hand them over. -/
def okStepA (x : S78) : Prop := x.f1.length ≤ 9223372036854775807 ∧ x.f2.length ≤ 9223372036854775807 ∧ x.f3.length ≤ 9223372036854775807 ∧ ∀ y ∈ x.f3, okLitA y
def smStepA (x : S78) : Prop := x.f1.length ≤ 1048576 ∧ x.f2.length ≤ 1048576 ∧ x.f3.length ≤ 1048576 ∧ ∀ y ∈ x.f3, smLitA y
def cvStep (x : S78) : S83 := ⟨x.f0, x.f1, x.f2, x.f3.map cvLit⟩
def smStep (x : S83) : Prop := x.f1.length ≤ 1048576 ∧ x.f2.length ≤ 1048576 ∧ x.f3.length ≤ 1048576 ∧ ∀ y ∈ x.f3, smLit y
theorem rdSA_mid (pre : List S78) (x : S78) (post : List S78) : rd_T78 (pre ++ x :: post) (pre.length : Int) = x := by
  unfold rd_T78; simp
theorem rdSB_mid (pre : List S83) (x : S83) (post : List S83) : rd_T83 (pre ++ x :: post) (pre.length : Int) = x := by
  unfold rd_T83; simp
theorem szStep_ev (x : S78) (a : Int) (h0 : 0 ≤ a) (h1 : a ≤ 1048576) (hx : okStepA x) : ∃ r, Ev (fun k => laws_szStep.f k x.f0 x.f1 x.f2 x.f3 a) r ∧ r ≤ a ∧ (0 ≤ r → smStepA x) := by
  obtain ⟨hf1, hf2, hf3, hk⟩ := hx
  by_cases g : (x.f1.length : Int) ≤ a
  · by_cases g2 : (x.f2.length : Int) ≤ a - x.f1.length
    · obtain ⟨r, e, hr, hs⟩ := szLitS_ev x.f3 (a - x.f1.length - x.f2.length) (by omega) (by omega) hf3 hk
      by_cases g3 : r < 0
      · refine ⟨-1, ?_, by omega, by omega⟩
        simp only [laws_szStep.f]
        refine Ev.bnd1 (szIntS_eq x.f1 a h0 h1 hf1) ?_
        rw [if_pos g]
        refine Ev.neg (by omega) (Ev.bnd1 (szIntS_eq x.f2 _ (by omega) (by omega) hf2) ?_)
        rw [if_pos g2]
        exact Ev.neg (by omega) (Ev.bnd e (Ev.pos g3 (Ev.ret _)))
      · refine ⟨r, ?_, by omega, fun h => ⟨by omega, by omega, (hs h).1, (hs h).2⟩⟩
        simp only [laws_szStep.f]
        refine Ev.bnd1 (szIntS_eq x.f1 a h0 h1 hf1) ?_
        rw [if_pos g]
        refine Ev.neg (by omega) (Ev.bnd1 (szIntS_eq x.f2 _ (by omega) (by omega) hf2) ?_)
        rw [if_pos g2]
        exact Ev.neg (by omega) (Ev.bnd e (Ev.neg g3 (Ev.ret _)))
    · refine ⟨-1, ?_, by omega, by omega⟩
      simp only [laws_szStep.f]
      refine Ev.bnd1 (szIntS_eq x.f1 a h0 h1 hf1) ?_
      rw [if_pos g]
      refine Ev.neg (by omega) (Ev.bnd1 (szIntS_eq x.f2 _ (by omega) (by omega) hf2) ?_)
      rw [if_neg g2]
      exact Ev.pos (by omega) (Ev.ret _)
  · refine ⟨-1, ?_, by omega, by omega⟩
    simp only [laws_szStep.f]
    refine Ev.bnd1 (szIntS_eq x.f1 a h0 h1 hf1) ?_
    rw [if_neg g]
    exact Ev.pos (by omega) (Ev.ret _)
theorem szStepS_l0 (post : List S78) : ∀ (pre : List S78) (a : Int), 0 ≤ a → a ≤ 1048576 → (∀ x ∈ post, okStepA x) → (pre ++ post).length ≤ 1048576 →
    ∃ r, Ev (fun k => laws_szStepS.l0 k (pre ++ post) a (pre.length : Int)) r ∧ r ≤ a ∧ (0 ≤ r → ∀ x ∈ post, smStepA x) := by
  induction post with
  | nil =>
    intro pre a h0 h1 hk hl
    refine ⟨a, Ev.succ ?_, by omega, by simp⟩
    simp only [laws_szStepS.l0]
    exact Ev.neg (by simp) (Ev.ret _)
  | cons x post ih =>
    intro pre a h0 h1 hk hl
    have hl' := hl
    simp only [List.length_append, List.length_cons] at hl
    have hx := hk x (by simp)
    obtain ⟨r, e, hr, hs⟩ := szStep_ev x a h0 h1 hx
    by_cases g : r < 0
    · refine ⟨-1, Ev.succ ?_, by omega, by omega⟩
      simp only [laws_szStepS.l0]
      refine Ev.pos (by simp only [List.length_append, List.length_cons]; omega) (Ev.pos (by omega) ?_)
      rw [rdSA_mid]
      exact Ev.bnd e (Ev.pos g (Ev.ret _))
    · obtain ⟨r2, e2, hr2, hs2⟩ := ih (pre ++ [x]) r (by omega) (by omega) (fun y hy => hk y (by simp [hy])) (by simpa using hl')
      refine ⟨r2, Ev.succ ?_, by omega, fun h y hy => ?_⟩
      · simp only [laws_szStepS.l0]
        refine Ev.pos (by simp only [List.length_append, List.length_cons]; omega) (Ev.pos (by omega) ?_)
        rw [rdSA_mid, w64 (x := (pre.length : Int) + 1) (by omega) (by omega)]
        exact Ev.bnd e (Ev.neg g (by simpa using e2))
      · rcases List.mem_cons.1 hy with rfl | hy
        · exact hs (by omega)
        · exact hs2 h y hy
theorem szStepS_ev (l : List S78) (a : Int) (h0 : 0 ≤ a) (h1 : a ≤ 1048576) (hl : l.length ≤ 9223372036854775807) (hk : ∀ x ∈ l, okStepA x) :
    ∃ r, Ev (fun k => laws_szStepS.f k l a) r ∧ r ≤ a ∧ (0 ≤ r → l.length ≤ 1048576 ∧ ∀ x ∈ l, smStepA x) := by
  simp only [laws_szStepS.f]
  rw [w64 (x := a - (l.length : Int)) (by omega) (by omega)]
  by_cases g : a - (l.length : Int) < 0
  · exact ⟨-1, Ev.pos g (Ev.ret _), by omega, by omega⟩
  · obtain ⟨r, e, hr, hs⟩ := szStepS_l0 l [] (a - l.length) (by omega) (by omega) hk (by simp; omega)
    exact ⟨r, Ev.neg g (by simpa using e), by omega, fun h => ⟨by omega, hs h⟩⟩
theorem toStep_ev (x : S78) (hx : smStepA x) : Ev (fun k => laws_toStep.f k x.f0 x.f1 x.f2 x.f3) (x.f0, x.f1, x.f2, x.f3.map cvLit) := by
  obtain ⟨h1, h2, h3, hk⟩ := hx
  simp only [laws_toStep.f]
  exact Ev.bnd (toIntS x.f1 (by omega)) (Ev.bnd (toIntS x.f2 (by omega)) (Ev.bnd (toLitS_ev x.f3 h3 hk) (Ev.ret _)))
theorem toStepS_l0 (post : List S78) : ∀ (pre : List S78) (pre' rest : List S83), pre'.length = pre.length → rest.length = post.length → (pre ++ post).length ≤ 1048576 → (∀ x ∈ post, smStepA x) →
    Ev (fun k => laws_toStepS.l0 k (pre ++ post) (pre' ++ rest) (pre.length : Int)) (pre' ++ post.map cvStep) := by
  induction post with
  | nil =>
    intro pre pre' rest hp hr hl hk
    obtain rfl : rest = [] := List.eq_nil_of_length_eq_zero hr
    refine Ev.succ ?_
    simp only [laws_toStepS.l0]
    exact Ev.neg (by simp) (Ev.ret _)
  | cons x post ih =>
    intro pre pre' rest hp hr hl hk
    obtain ⟨y, rest, rfl⟩ : ∃ y t, rest = y :: t := by cases rest with | nil => simp at hr | cons y t => exact ⟨y, t, rfl⟩
    have h := ih (pre ++ [x]) (pre' ++ [cvStep x]) rest (by simpa using hp) (by simpa using hr) (by simpa using hl) (fun z hz => hk z (by simp [hz]))
    simp only [List.length_append, List.length_cons, List.length_nil] at hl hr h
    have hx := hk x (by simp)
    refine Ev.succ ?_
    simp only [laws_toStepS.l0, List.length_append, List.length_cons]
    refine Ev.pos (by omega) (Ev.pos (by omega) ?_)
    rw [rdSA_mid, w64 (by omega) (by omega)]
    refine Ev.bnd (toStep_ev _ hx) (Ev.pos (by omega) ?_)
    have e : (pre' ++ y :: rest).set ((pre.length : Int)).toNat ⟨x.f0, x.f1, x.f2, x.f3.map cvLit⟩ = pre' ++ [cvStep x] ++ rest := by simp [← hp, cvStep]
    rw [e]
    simpa using h
theorem toStepS_ev (l : List S78) (h : l.length ≤ 1048576) (hk : ∀ x ∈ l, smStepA x) : Ev (fun k => laws_toStepS.f k l) (l.map cvStep) := by
  simp only [laws_toStepS.f]
  refine Ev.pos (by omega) (Ev.pos (by omega) ?_)
  have := toStepS_l0 l [] [] (List.replicate l.length z83) rfl (by simp) (by simp; omega) hk
  simpa using this
theorem cvStep_sm {l : List S78} (hk : ∀ x ∈ l, smStepA x) : ∀ x ∈ l.map cvStep, smStep x := by
  intro x hx
  obtain ⟨y, hy, rfl⟩ := List.mem_map.1 hx
  obtain ⟨h1, h2, h3, h4⟩ := hk y hy
  exact ⟨h1, h2, by simpa [cvStep] using h3, cvLit_sm h4⟩
theorem eqStep_self (x : S83) (hx : smStep x) : Ev (fun k => laws_eqStep.f k x.f0 x.f1 x.f2 x.f3 x.f0 x.f1 x.f2 x.f3) true := by
  obtain ⟨h1, h2, h3, hk⟩ := hx
  simp only [laws_eqStep.f]
  exact Ev.pos trivial (Ev.bnd (eqIntS_self x.f1 (by omega)) (Ev.pos rfl (Ev.bnd (eqIntS_self x.f2 (by omega)) (Ev.pos rfl (Ev.bnd (eqLitS_self x.f3 h3 hk) (Ev.pos rfl (Ev.ret _)))))))
theorem eqStepS_l0 (post : List S83) : ∀ pre : List S83, (pre ++ post).length ≤ 1048576 → (∀ x ∈ post, smStep x) → Ev (fun k => laws_eqStepS.l0 k (pre ++ post) (pre ++ post) (pre.length : Int)) true := by
  induction post with
  | nil =>
    intro pre hl hk
    refine Ev.succ ?_
    simp only [laws_eqStepS.l0]
    exact Ev.neg (by simp) (Ev.ret _)
  | cons x post ih =>
    intro pre hl hk
    have h := ih (pre ++ [x]) (by simpa using hl) (fun y hy => hk y (by simp [hy]))
    have hx := hk x (by simp)
    simp only [List.length_append, List.length_cons] at hl
    refine Ev.succ ?_
    simp only [laws_eqStepS.l0]
    refine Ev.pos (by simp only [List.length_append, List.length_cons]; omega) (Ev.pos (by omega) (Ev.pos (by simp only [List.length_append, List.length_cons]; omega) ?_))
    rw [rdSB_mid, w64 (by omega) (by omega)]
    exact Ev.bnd (eqStep_self _ hx) (Ev.pos rfl (by simpa using h))
theorem eqStepS_self (l : List S83) (hl : l.length ≤ 1048576) (hk : ∀ x ∈ l, smStep x) : Ev (fun k => laws_eqStepS.f k l l) true := by
  simp only [laws_eqStepS.f]
  exact Ev.pos trivial (by simpa using eqStepS_l0 l [] (by simpa using hl) hk)

/-! Literals and clauses over a signature. -/
def isLit (s : List Int) (x : S72) : Bool := isTerm s x.f1 && isTerm s x.f2
def isClause (s : List Int) (l : List S72) : Bool := decide (l.length ≤ 8) && l.all (isLit s)
theorem spec_l1End_tot (s : List Int) (hsl : s.length ≤ 1048576) (l : List Int) : ∀ (pre : List Int) (n : Int), (pre ++ l).length ≤ 1000000000 → ∃ r, Ev (fun k => spec_l1End.l0 k (pre ++ l) (pre.length : Int) n s) r := by
  induction l with
  | nil =>
    intro pre n hl
    by_cases g : n > 0
    · refine ⟨-1, Ev.succ ?_⟩
      simp only [spec_l1End.l0]
      refine Ev.pos g (Ev.pos (by simp) (Ev.succ ?_))
      simp only [spec_l1End.j1]
      exact Ev.pos trivial (Ev.ret _)
    · refine ⟨(pre.length : Int), Ev.succ ?_⟩
      simp only [spec_l1End.l0]
      exact Ev.neg g (Ev.ret _)
  | cons x l ih =>
    intro pre n hl
    have hl' := hl
    simp only [List.length_append, List.length_cons] at hl
    by_cases g : n > 0
    · by_cases g1 : -12 ≤ x ∧ x ≤ (s.length : Int) - 1
      · by_cases g2 : x ≥ 0
        · obtain ⟨r, hr⟩ := ih (pre ++ [x]) (wrap64 (wrap64 (n - 1) + rd s x)) (by simpa using hl')
          refine ⟨r, Ev.succ ?_⟩
          simp only [spec_l1End.l0]
          refine Ev.pos g (Ev.neg (by simp only [List.length_append, List.length_cons]; omega) (Ev.pos (by omega) (Ev.pos (by simp only [List.length_append, List.length_cons]; omega) ?_)))
          rw [rd_mid, w64 (x := (s.length : Int) - 1) (by omega) (by omega)]
          refine Ev.bnd1 (spec_in_eq _ _ _) (Ev.succ ?_)
          simp only [spec_l1End.j1]
          refine Ev.neg (by rw [decide_eq_true g1]; simp) (Ev.pos (by omega) (Ev.pos (by simp only [List.length_append, List.length_cons]; omega) ?_))
          rw [rd_mid, w64 (x := (pre.length : Int) + 1) (by omega) (by omega)]
          exact Ev.pos g2 (Ev.pos g2 (Ev.pos (by omega) (by simpa using hr)))
        · obtain ⟨r, hr⟩ := ih (pre ++ [x]) (wrap64 (n - 1)) (by simpa using hl')
          refine ⟨r, Ev.succ ?_⟩
          simp only [spec_l1End.l0]
          refine Ev.pos g (Ev.neg (by simp only [List.length_append, List.length_cons]; omega) (Ev.pos (by omega) (Ev.pos (by simp only [List.length_append, List.length_cons]; omega) ?_)))
          rw [rd_mid, w64 (x := (s.length : Int) - 1) (by omega) (by omega)]
          refine Ev.bnd1 (spec_in_eq _ _ _) (Ev.succ ?_)
          simp only [spec_l1End.j1]
          refine Ev.neg (by rw [decide_eq_true g1]; simp) (Ev.pos (by omega) (Ev.pos (by simp only [List.length_append, List.length_cons]; omega) ?_))
          rw [rd_mid, w64 (x := (pre.length : Int) + 1) (by omega) (by omega)]
          exact Ev.neg g2 (by simpa using hr)
      · refine ⟨-1, Ev.succ ?_⟩
        simp only [spec_l1End.l0]
        refine Ev.pos g (Ev.neg (by simp only [List.length_append, List.length_cons]; omega) (Ev.pos (by omega) (Ev.pos (by simp only [List.length_append, List.length_cons]; omega) ?_)))
        rw [rd_mid, w64 (x := (s.length : Int) - 1) (by omega) (by omega)]
        refine Ev.bnd1 (spec_in_eq _ _ _) (Ev.succ ?_)
        simp only [spec_l1End.j1]
        exact Ev.pos (by rw [decide_eq_false g1]; rfl) (Ev.ret _)
    · refine ⟨(pre.length : Int), Ev.succ ?_⟩
      simp only [spec_l1End.l0]
      exact Ev.neg g (Ev.ret _)
/-- The reference's word about a term over any row of numbers: it is the word about terms where the row is a signature. -/
theorem spec_l1Term_tot (s : List Int) (hsl : s.length ≤ 1048576) (l : List Int) : ∃ b, Ev (fun k => spec_l1Term.f k s l) b ∧ (goodSign s = true → b = isTerm s l) := by
  by_cases hs : goodSign s = true
  · exact ⟨_, spec_l1Term_ev s hs l, fun _ => rfl⟩
  · simp only [spec_l1Term.f]
    by_cases g : (1 : Int) ≤ (l.length : Int) ∧ (l.length : Int) ≤ 40
    · obtain ⟨r, h⟩ := spec_l1End_tot s hsl l [] 1 (by simp only [List.nil_append]; omega)
      refine ⟨_, Ev.bnd1 (spec_in_eq _ _ _) (Ev.pos (decide_eq_true g) (Ev.bnd (a := r) ?_ (Ev.ret _))), fun h => absurd h hs⟩
      simp only [spec_l1End.f]
      simpa using h
    · exact ⟨_, Ev.bnd1 (spec_in_eq _ _ _) (Ev.neg (by rw [decide_eq_false g]; simp) (Ev.ret _)), fun h => absurd h hs⟩
theorem spec_l4Lit_tot (s : List Int) (hsl : s.length ≤ 1048576) (x : S72) : ∃ b, Ev (fun k => spec_l4Lit.f k s x.f0 x.f1 x.f2) b ∧ (goodSign s = true → b = isLit s x) := by
  obtain ⟨b1, h1, e1⟩ := spec_l1Term_tot s hsl x.f1
  obtain ⟨b2, h2, e2⟩ := spec_l1Term_tot s hsl x.f2
  simp only [spec_l4Lit.f]
  cases b1 with
  | true => exact ⟨b2, Ev.bnd h1 (Ev.pos rfl (Ev.bnd h2 (Ev.ret _))), fun h => by unfold isLit; rw [← e1 h, ← e2 h]; rfl⟩
  | false => exact ⟨false, Ev.bnd h1 (Ev.neg (by simp) (Ev.ret _)), fun h => by unfold isLit; rw [← e1 h]; rfl⟩
theorem spec_l4Clause_l0 (s : List Int) (hsl : s.length ≤ 1048576) (x1 : List S72) (post : List S72) : ∀ pre : List S72, (pre ++ post).length ≤ 1048576 →
    ∃ b, Ev (fun k => spec_l4Clause.l0 k x1 (pre ++ post) ((pre ++ post).length : Int) (pre.length : Int) s) b ∧ (goodSign s = true → b = (post.all (isLit s) && decide (x1.length ≤ 8))) := by
  induction post with
  | nil =>
    intro pre hl
    refine ⟨decide ((x1.length : Int) ≤ 8), Ev.succ ?_, fun _ => ?_⟩
    · simp only [spec_l4Clause.l0]
      exact Ev.neg (by simp) (Ev.ret _)
    · rw [List.all_nil, Bool.true_and]; congr 1; simp only [eq_iff_iff]; omega
  | cons x post ih =>
    intro pre hl
    have hl' := hl
    simp only [List.length_append, List.length_cons] at hl
    obtain ⟨b1, h1, e1⟩ := spec_l4Lit_tot s hsl x
    have pref : ∀ {g : Nat → Option Bool} {r : Bool}, Ev (fun k => (spec_l4Lit.f k s x.f0 x.f1 x.f2).bind fun t => if t = true then g k else some false) r → Ev (fun k => if (pre.length : Int) < ((pre ++ x :: post).length : Int) then (if 0 ≤ (pre.length : Int) then (if (pre.length : Int) < ((pre ++ x :: post).length : Int) then ((spec_l4Lit.f k s ((rd_T72 (pre ++ x :: post) (pre.length : Int)).f0) ((rd_T72 (pre ++ x :: post) (pre.length : Int)).f1) ((rd_T72 (pre ++ x :: post) (pre.length : Int)).f2)).bind fun t => if t = true then g k else some false) else none) else none) else some (decide ((x1.length : Int) ≤ 8))) r := by
      intro g r h
      refine Ev.pos (by simp only [List.length_append, List.length_cons]; omega) (Ev.pos (by omega) (Ev.pos (by simp only [List.length_append, List.length_cons]; omega) ?_))
      rw [rdLB_mid]
      exact h
    cases b1 with
    | true =>
      obtain ⟨b2, h2, e2⟩ := ih (pre ++ [x]) (by simpa using hl')
      refine ⟨b2, Ev.succ ?_, fun h => by rw [e2 h, List.all_cons, ← e1 h, Bool.true_and]⟩
      simp only [spec_l4Clause.l0]
      rw [w64 (x := (pre.length : Int) + 1) (by omega) (by omega)]
      exact pref (Ev.bnd h1 (Ev.pos rfl (by simpa using h2)))
    | false =>
      refine ⟨false, Ev.succ ?_, fun h => by rw [List.all_cons, ← e1 h, Bool.false_and, Bool.false_and]⟩
      simp only [spec_l4Clause.l0]
      exact pref (Ev.bnd h1 (Ev.neg (by simp) (Ev.ret _)))
theorem spec_l4Clause_tot (s : List Int) (hsl : s.length ≤ 1048576) (l : List S72) (hl : l.length ≤ 1048576) : ∃ b, Ev (fun k => spec_l4Clause.f k s l) b ∧ (goodSign s = true → b = isClause s l) := by
  obtain ⟨b, h, e⟩ := spec_l4Clause_l0 s hsl l l [] (by simpa using hl)
  simp only [spec_l4Clause.f]
  exact ⟨b, by simpa using h, fun hs => by rw [e hs, isClause, Bool.and_comm]⟩
theorem impl_isLit_ev (s : List Int) (hs : goodSign s = true) (x : S72) : Ev (fun k => impl_Sign_isLit.f k s x.f0 x.f1 x.f2) (isLit s x) := by
  simp only [impl_Sign_isLit.f]
  refine Ev.bnd (impl_isTerm_ev s hs x.f1) ?_
  unfold isLit
  cases isTerm s x.f1 with
  | true => exact Ev.pos rfl (Ev.bnd (impl_isTerm_ev s hs x.f2) (Ev.eq (Ev.ret _) rfl))
  | false => exact Ev.neg (by simp) (Ev.ret _)
/-- A search through a row whose word takes rounds. -/
theorem anyO_ev {α : Type} (f : Nat → α → Option Bool) (p : α → Bool) (l : List α) (h : ∀ x ∈ l, Ev (fun k => f k x) (!p x)) : Ev (fun k => anyO (fun x => f k x) l) (!l.all p) := by
  induction l with
  | nil => exact Ev.ret _
  | cons x t ih =>
    simp only [anyO]
    refine Ev.bnd (h x (by simp)) ?_
    cases hp : p x with
    | true => exact Ev.neg (by simp) (Ev.eq (ih (fun y hy => h y (by simp [hy]))) (by simp [hp]))
    | false => exact Ev.pos rfl (Ev.eq (Ev.ret _) (by simp [hp]))
theorem impl_isClause_ev (s : List Int) (hs : goodSign s = true) (l : List S72) : Ev (fun k => impl_Sign_isClause.f k s l) (isClause s l) := by
  simp only [impl_Sign_isClause.f, isClause]
  by_cases g : l.length ≤ 8
  · refine Ev.pos (by omega) (Ev.bnd (a := !l.all (isLit s)) ?_ (Ev.eq (Ev.ret _) ?_))
    · simp only [impl_Sign_isClause_1_any.f]
      refine anyO_ev _ _ _ (fun x _ => ?_)
      simp only [impl_Sign_isClause_1.f]
      exact Ev.bnd (impl_isLit_ev s hs x) (Ev.ret _)
    · rw [decide_eq_true g, Bool.not_not, Bool.true_and]
  · exact Ev.neg (by omega) (Ev.eq (Ev.ret _) (by rw [decide_eq_false g, Bool.false_and]))

/-! A row of steps: each made of earlier ones. -/
def areSteps (s : List Int) (l : List S83) : Bool := decide (l.length ≤ 200) && l.all fun x => isClause s x.f3
/-- Whether each step names earlier ones alone, the first of them being number `i`. -/
def linkedFrom : Int → List S83 → Bool
  | _, [] => true
  | i, x :: t => inAll 0 (i - 1) x.f1 && linkedFrom (i + 1) t
def areLinked (s : List Int) (l : List S83) : Bool := goodSign s && (areSteps s l && linkedFrom 0 l)
theorem spec_l8Steps_l0 (s : List Int) (hsl : s.length ≤ 1048576) (x1 : List S83) (post : List S83) : ∀ pre : List S83, (pre ++ post).length ≤ 1048576 → (∀ x ∈ post, smStep x) →
    Ev (fun k => spec_l8Steps.l0 k x1 (pre ++ post) ((pre ++ post).length : Int) (pre.length : Int) s) (goodSign s && (decide (x1.length ≤ 200) && post.all fun x => isClause s x.f3)) := by
  induction post with
  | nil =>
    intro pre hl hk
    refine Ev.succ ?_
    simp only [spec_l8Steps.l0]
    refine Ev.neg (by simp) (Ev.bnd (spec_GoodSign_ev s (by omega)) ?_)
    cases goodSign s with
    | true => exact Ev.pos rfl (Ev.eq (Ev.ret _) (by rw [Bool.true_and, List.all_nil, Bool.and_true]; congr 1; simp only [eq_iff_iff]; omega))
    | false => exact Ev.neg (by simp) (Ev.eq (Ev.ret _) (by simp))
  | cons x post ih =>
    intro pre hl hk
    have h := ih (pre ++ [x]) (by simpa using hl) (fun y hy => hk y (by simp [hy]))
    simp only [List.length_append, List.length_cons] at hl
    obtain ⟨b1, h1, e1⟩ := spec_l4Clause_tot s hsl x.f3 (hk x (by simp)).2.2.1
    refine Ev.succ ?_
    simp only [spec_l8Steps.l0]
    refine Ev.pos (by simp only [List.length_append, List.length_cons]; omega) (Ev.pos (by omega) (Ev.pos (by simp only [List.length_append, List.length_cons]; omega) ?_))
    rw [rdSB_mid, w64 (by omega) (by omega)]
    refine Ev.bnd h1 ?_
    cases b1 with
    | true =>
      refine Ev.pos rfl (Ev.eq (Ev.congr (fun k => ?_) h) ?_)
      · simp
      · cases hs : goodSign s with
        | true => rw [List.all_cons, ← e1 hs]; simp only [Bool.true_and]
        | false => rfl
    | false =>
      refine Ev.neg (by simp) (Ev.eq (Ev.ret _) ?_)
      cases hs : goodSign s with
      | true => rw [List.all_cons, ← e1 hs, Bool.false_and, Bool.and_false, Bool.and_false]
      | false => rfl
theorem spec_l8Steps_ev (s : List Int) (hsl : s.length ≤ 1048576) (l : List S83) (hl : l.length ≤ 1048576) (hk : ∀ x ∈ l, smStep x) : Ev (fun k => spec_l8Steps.f k s l) (goodSign s && areSteps s l) := by
  simp only [spec_l8Steps.f]
  simpa [areSteps] using spec_l8Steps_l0 s hsl l l [] (by simpa using hl) hk
theorem spec_l9Steps_l0 (s : List Int) (hsl : s.length ≤ 1048576) (x1 : List S83) (hx1 : x1.length ≤ 1048576) (hx1k : ∀ x ∈ x1, smStep x) (post : List S83) : ∀ pre : List S83, pre ++ post = x1 →
    Ev (fun k => spec_l9Steps.l0 k x1 (pre ++ post) ((pre ++ post).length : Int) (pre.length : Int) s) ((goodSign s && areSteps s x1) && linkedFrom (pre.length : Int) post) := by
  induction post with
  | nil =>
    intro pre he
    refine Ev.succ ?_
    simp only [spec_l9Steps.l0]
    exact Ev.neg (by simp) (Ev.bnd (spec_l8Steps_ev s hsl x1 hx1 hx1k) (Ev.eq (Ev.ret _) (by simp [linkedFrom])))
  | cons x post ih =>
    intro pre he
    have h := ih (pre ++ [x]) (by simpa using he)
    have hl : pre.length + (post.length + 1) = x1.length := by rw [← he]; simp
    have hxm : smStep x := hx1k x (by rw [← he]; simp)
    refine Ev.succ ?_
    simp only [spec_l9Steps.l0]
    refine Ev.pos (by simp only [List.length_append, List.length_cons]; omega) (Ev.pos (by omega) (Ev.pos (by simp only [List.length_append, List.length_cons]; omega) ?_))
    rw [rdSB_mid, w64 (x := (pre.length : Int) + 1) (by omega) (by omega), w64 (x := (pre.length : Int) - 1) (by omega) (by omega)]
    by_cases g : (pre.length : Int) ≥ 200
    · refine Ev.pos g (Ev.eq (Ev.ret _) ?_)
      have : areSteps s x1 = false := by unfold areSteps; rw [decide_eq_false (by omega), Bool.false_and]
      rw [this, Bool.and_false, Bool.false_and]
    · refine Ev.neg g (Ev.bnd (spec_l1All_ev 0 ((pre.length : Int) - 1) x.f1 (by have := hxm.1; omega)) ?_)
      simp only [linkedFrom]
      cases inAll 0 ((pre.length : Int) - 1) x.f1 with
      | true => exact Ev.pos rfl (Ev.eq (Ev.congr (fun k => by simp) h) (by simp))
      | false => exact Ev.neg (by simp) (Ev.eq (Ev.ret _) (by simp))
theorem spec_l9Steps_ev (s : List Int) (hsl : s.length ≤ 1048576) (l : List S83) (hl : l.length ≤ 1048576) (hk : ∀ x ∈ l, smStep x) : Ev (fun k => spec_l9Steps.f k s l) (areLinked s l) := by
  simp only [spec_l9Steps.f]
  have h := spec_l9Steps_l0 s hsl l hl hk l [] rfl
  exact Ev.eq (by simpa using h) (by unfold areLinked; rw [Bool.and_assoc]; try simp)
theorem impl_areSteps_ev (s : List Int) (hs : goodSign s = true) (l : List S83) : Ev (fun k => impl_Sign_areSteps.f k s l) (areSteps s l) := by
  simp only [impl_Sign_areSteps.f, areSteps]
  by_cases g : l.length ≤ 200
  · refine Ev.pos (by omega) (Ev.bnd (a := !l.all fun x => isClause s x.f3) ?_ (Ev.eq (Ev.ret _) ?_))
    · simp only [impl_Sign_areSteps_1_any.f]
      refine anyO_ev _ _ _ (fun x _ => ?_)
      simp only [impl_Sign_areSteps_1.f]
      exact Ev.bnd (impl_isClause_ev s hs x.f3) (Ev.ret _)
    · rw [decide_eq_true g, Bool.not_not, Bool.true_and]
  · exact Ev.neg (by omega) (Ev.eq (Ev.ret _) (by rw [decide_eq_false g, Bool.false_and]))
theorem impl_areOf_eq (l : List S83) (f : List Int) : impl_areOf.f l f = some (inAll 0 ((l.length : Int) - 1) f) := by
  unfold impl_areOf.f
  have h : impl_areOf_1_any.f f l = some (!inAll 0 ((l.length : Int) - 1) f) := by
    unfold impl_areOf_1_any.f inAll
    refine anyO_not _ _ _ (fun x _ => ?_)
    unfold impl_areOf_1.f
    by_cases h1 : x < 0
    · rw [if_pos h1, decide_eq_false (by omega)]; rfl
    · rw [if_neg h1]
      by_cases h2 : x ≤ (l.length : Int) - 1
      · rw [decide_eq_true (show 0 ≤ x ∧ x ≤ (l.length : Int) - 1 by omega), decide_eq_false (by omega)]; rfl
      · rw [decide_eq_false (show ¬ (0 ≤ x ∧ x ≤ (l.length : Int) - 1) by omega), decide_eq_true (by omega)]; rfl
  rw [h, Option.bind_some, Bool.not_not]
theorem impl_areLinked_l0 (x1 : List S83) (hx : x1.length ≤ 1048576) (post : List S83) : ∀ pre : List S83, pre ++ post = x1 →
    Ev (fun k => impl_areLinked.l0 k x1 (pre ++ post) ((pre ++ post).length : Int) (pre.length : Int)) (linkedFrom (pre.length : Int) post) := by
  induction post with
  | nil =>
    intro pre he
    refine Ev.succ ?_
    simp only [impl_areLinked.l0]
    exact Ev.neg (by simp) (Ev.ret _)
  | cons x post ih =>
    intro pre he
    have h := ih (pre ++ [x]) (by simpa using he)
    have hl : pre.length + (post.length + 1) = x1.length := by rw [← he]; simp
    have hc := impl_areOf_eq (x1.take ((pre.length : Int)).toNat) x.f1
    have ht : (x1.take ((pre.length : Int)).toNat).length = pre.length := by rw [List.length_take]; omega
    rw [ht] at hc
    refine Ev.succ ?_
    simp only [impl_areLinked.l0]
    refine Ev.pos (by simp only [List.length_append, List.length_cons]; omega) (Ev.pos (by omega) (Ev.pos (by simp only [List.length_append, List.length_cons]; omega) (Ev.pos (by omega) ?_)))
    rw [rdSB_mid, w64 (by omega) (by omega)]
    refine Ev.bnd1 hc ?_
    simp only [linkedFrom]
    cases inAll 0 ((pre.length : Int) - 1) x.f1 with
    | true => exact Ev.pos rfl (Ev.eq (by simpa using h) (by simp))
    | false => exact Ev.neg (by simp) (Ev.eq (Ev.ret _) (by simp))
theorem impl_areLinked_ev (s : List Int) (l : List S83) (hl : l.length ≤ 1048576) : Ev (fun k => impl_areLinked.f k s l) (areLinked s l) := by
  simp only [impl_areLinked.f, areLinked]
  refine Ev.bnd1 (impl_GoodSign_eq s) ?_
  cases hs : goodSign s with
  | false =>
    refine Ev.neg (by simp) (Ev.succ ?_)
    simp only [impl_areLinked.j0]
    exact Ev.pos trivial (Ev.eq (Ev.ret _) (by simp))
  | true =>
    refine Ev.pos rfl (Ev.bnd (impl_areSteps_ev s hs l) ?_)
    cases areSteps s l with
    | false =>
      refine Ev.succ ?_
      simp only [impl_areLinked.j0]
      exact Ev.pos rfl (Ev.eq (Ev.ret _) (by simp))
    | true =>
      refine Ev.succ ?_
      simp only [impl_areLinked.j0]
      have h := impl_areLinked_l0 l hl l [] rfl
      exact Ev.neg (by simp) (Ev.eq (by simpa using h) (by simp))

/-! Several things at once, with enough rounds. -/
def Evp (P : Nat → Prop) : Prop := ∃ K, ∀ k, K ≤ k → P k
theorem Evp.and {P Q : Nat → Prop} (hp : Evp P) (hq : Evp Q) : Evp (fun k => P k ∧ Q k) := by
  obtain ⟨K1, h1⟩ := hp
  obtain ⟨K2, h2⟩ := hq
  exact ⟨K1 + K2, fun k hk => ⟨h1 k (by omega), h2 k (by omega)⟩⟩
theorem Evp.some {P : Nat → Prop} (h : Evp P) : ∃ k, P k := by
  obtain ⟨K, h⟩ := h
  exact ⟨K, h K (Nat.le_refl _)⟩
theorem Evp.of {α : Type} {g : Nat → Option α} {r : α} (h : Ev g r) : Evp (fun k => g k = .some r) := h
theorem Evp.const {p : Prop} (h : p) : Evp (fun _ => p) := ⟨0, fun _ _ => h⟩

def ups : Int → Nat → List Int
  | _, 0 => []
  | m, n + 1 => m :: ups (m + 1) n
theorem ups_len (n : Nat) : ∀ m, (ups m n).length = n := by
  induction n with
  | zero => intro m; rfl
  | succ n ih => intro m; simp [ups, ih]
theorem markIntS_l0 (post : List Int) : ∀ (pre : List Int) (m : Int), 0 ≤ m → m + post.length ≤ 4611686018427387904 → (pre ++ post).length ≤ 140737488351232 → Ev (fun k => laws_markIntS.l0 k (pre ++ post) m (pre.length : Int)) (m + post.length, pre ++ ups m post.length) := by
  induction post with
  | nil =>
    intro pre m h0 h1 hl
    refine Ev.succ ?_
    simp only [laws_markIntS.l0]
    exact Ev.neg (by simp) (Ev.eq (Ev.ret _) (by simp [ups]))
  | cons x post ih =>
    intro pre m h0 h1 hl
    simp only [List.length_append, List.length_cons] at hl h1
    have h := ih (pre ++ [m]) (m + 1) (by omega) (by omega) (by simp only [List.length_append, List.length_cons, List.length_nil]; omega)
    refine Ev.succ ?_
    simp only [laws_markIntS.l0]
    refine Ev.pos (by simp only [List.length_append, List.length_cons]; omega) (Ev.pos (by omega) ?_)
    rw [w64 (x := m + 1) (by omega) (by omega), w64 (by omega) (by omega)]
    have e : (pre ++ x :: post).set ((pre.length : Int)).toNat m = pre ++ [m] ++ post := by simp
    rw [e]
    refine Ev.eq (by simpa using h) ?_
    simp only [ups, List.length_cons, Prod.mk.injEq]
    exact ⟨by omega, trivial⟩
theorem markIntS (l : List Int) (m : Int) (h0 : 0 ≤ m) (h1 : m + l.length ≤ 4611686018427387904) (hl : l.length ≤ 140737488351232) : Ev (fun k => laws_markIntS.f k l m) (m + l.length, ups m l.length) := by
  simp only [laws_markIntS.f]
  simpa using markIntS_l0 l [] m h0 h1 (by simpa using hl)
theorem heldIntS_l0 (n : Nat) : ∀ (pre : List Int) (m : Int), 0 ≤ m → m + n ≤ 4611686018427387904 → pre.length + n ≤ 140737488351232 → Ev (fun k => laws_heldIntS.l0 k (pre ++ ups m n) m (pre.length : Int)) (m + n) := by
  induction n with
  | zero =>
    intro pre m h0 h1 hl
    refine Ev.succ ?_
    simp only [laws_heldIntS.l0]
    exact Ev.neg (by simp [ups]) (Ev.eq (Ev.ret _) (by simp))
  | succ n ih =>
    intro pre m h0 h1 hl
    have h := ih (pre ++ [m]) (m + 1) (by omega) (by omega) (by simp only [List.length_append, List.length_cons, List.length_nil]; omega)
    refine Ev.succ ?_
    simp only [laws_heldIntS.l0]
    refine Ev.pos (by simp only [List.length_append, ups_len]; omega) (Ev.pos (by omega) (Ev.pos (by simp only [ups]; exact rd_mid _ _ _) ?_))
    rw [w64 (x := m + 1) (by omega) (by omega), w64 (by omega) (by omega)]
    refine Ev.eq (by simpa [ups] using h) (by omega)
theorem heldIntS (n : Nat) (m : Int) (h0 : 0 ≤ m) (h1 : m + n ≤ 4611686018427387904) (hl : n ≤ 140737488351232) : Ev (fun k => laws_heldIntS.f k (ups m n) m) (m + n) := by
  simp only [laws_heldIntS.f]
  simpa using heldIntS_l0 n [] m h0 h1 (by simpa using hl)

theorem sum_le_mul {α : Type} (f : α → Nat) (c : Nat) (l : List α) (h : ∀ x ∈ l, f x ≤ c) : (l.map f).sum ≤ l.length * c := by
  induction l with
  | nil => simp
  | cons x t ih =>
    have h1 := ih (fun y hy => h y (by simp [hy]))
    have h2 := h x (by simp)
    rw [List.map_cons, List.sum_cons, List.length_cons, Nat.add_mul, Nat.one_mul]
    omega
theorem ltot_le (l : List S72) (hl : l.length ≤ 1048576) (hk : ∀ x ∈ l, smLit x) : ltot l ≤ 2199024304128 := by
  have h := sum_le_mul lsz 2097153 l (fun x hx => by have := hk x hx; unfold smLit at this; unfold lsz; omega)
  have h2 : l.length * 2097153 ≤ 1048576 * 2097153 := Nat.mul_le_mul_right _ hl
  unfold ltot
  omega
theorem okMarkL_of (l : List S72) (hk : ∀ x ∈ l, smLit x) : ∀ x ∈ l, okMarkL x := fun x hx => by have := hk x hx; unfold smLit at this; unfold okMarkL; omega
theorem markSign_ev (l : List Int) (m : Int) (h0 : 0 ≤ m) (h1 : m + l.length ≤ 4611686018427387904) (hl : l.length ≤ 140737488351232) : Ev (fun k => laws_markSign.f k l m) (m + l.length, ups m l.length) := by
  simp only [laws_markSign.f]
  exact Ev.bnd (markIntS l m h0 h1 hl) (Ev.ret _)

theorem stot_le (l : List S83) (hl : l.length ≤ 1048576) (hk : ∀ x ∈ l, smStep x) : stot l ≤ 2305846307749625856 := by
  have h := sum_le_mul ssz 2199026401281 l (fun x hx => by
    obtain ⟨h1, h2, h3, h4⟩ := hk x hx
    have := ltot_le x.f3 h3 h4
    unfold ssz
    omega)
  have h2 : l.length * 2199026401281 ≤ 1048576 * 2199026401281 := Nat.mul_le_mul_right _ hl
  unfold stot
  omega
theorem okMark_of (l : List S83) (hk : ∀ x ∈ l, smStep x) : ∀ x ∈ l, okMark x := fun x hx => by
  obtain ⟨h1, h2, h3, h4⟩ := hk x hx
  exact ⟨by omega, by omega, by omega, okMarkL_of x.f3 h4⟩

/-- The place of the first step with no literals, or -1. -/
def firstEmpty : Int → List S83 → Int
  | _, [] => -1
  | i, x :: t => if x.f3.length = 0 then i else firstEmpty (i + 1) t
theorem spec_l9Empty_l0 (post : List S83) : ∀ pre : List S83, (pre ++ post).length ≤ 1048576 → Ev (fun k => spec_l9Empty.l0 k (pre ++ post) ((pre ++ post).length : Int) (pre.length : Int)) (firstEmpty (pre.length : Int) post) := by
  induction post with
  | nil =>
    intro pre hl
    refine Ev.succ ?_
    simp only [spec_l9Empty.l0]
    exact Ev.neg (by simp) (Ev.ret _)
  | cons x post ih =>
    intro pre hl
    have h := ih (pre ++ [x]) (by simpa using hl)
    simp only [List.length_append, List.length_cons] at hl
    refine Ev.succ ?_
    simp only [spec_l9Empty.l0]
    refine Ev.pos (by simp only [List.length_append, List.length_cons]; omega) (Ev.pos (by omega) (Ev.pos (by simp only [List.length_append, List.length_cons]; omega) ?_))
    rw [rdSB_mid, w64 (by omega) (by omega)]
    simp only [firstEmpty]
    by_cases g : x.f3.length = 0
    · rw [if_pos g]; exact Ev.pos (by omega) (Ev.ret _)
    · rw [if_neg g]; exact Ev.neg (by omega) (by simpa using h)
theorem spec_l9Empty_ev (l : List S83) (hl : l.length ≤ 1048576) : Ev (fun k => spec_l9Empty.f k l) (firstEmpty 0 l) := by
  simp only [spec_l9Empty.f]
  simpa using spec_l9Empty_l0 l [] (by simpa using hl)
theorem impl_firstEmpty_eq (l : List S83) : impl_firstEmpty.f l = some (firstEmpty 0 l) := by
  unfold impl_firstEmpty.f impl_firstEmpty_1_idx.f
  have h : ∀ (t : List S83) (i : Int), idxO (fun x => impl_firstEmpty_1.f x.f0 x.f1 x.f2 x.f3) i t = some (firstEmpty i t) := by
    intro t
    induction t with
    | nil => intro i; rfl
    | cons x t ih =>
      intro i
      simp only [idxO, impl_firstEmpty_1.f, Option.bind_some, firstEmpty]
      by_cases g : x.f3.length = 0
      · rw [if_pos g, if_pos (by simp [g])]
      · rw [if_neg g, if_neg (by simp only [beq_iff_eq]; omega)]
        exact ih (i + 1)
  rw [h, Option.bind_some]
def firstEmptyOf (s : List Int) (l : List S83) : Int × Bool := if areLinked s l = true then (if firstEmpty 0 l < 0 then (0, false) else (firstEmpty 0 l, true)) else (0, false)
theorem impl_FirstEmpty_ev (s : List Int) (l : List S83) (hl : l.length ≤ 1048576) : Ev (fun k => impl_FirstEmpty.f k s l) (firstEmptyOf s l) := by
  unfold firstEmptyOf
  by_cases g : areLinked s l = true
  · by_cases g2 : firstEmpty 0 l < 0
    · rw [if_pos g, if_pos g2]
      simp only [impl_FirstEmpty.f]
      exact Ev.bnd (impl_areLinked_ev s l hl) (Ev.pos g (Ev.bnd1 (impl_firstEmpty_eq l) (Ev.pos g2 (Ev.ret _))))
    · rw [if_pos g, if_neg g2]
      simp only [impl_FirstEmpty.f]
      exact Ev.bnd (impl_areLinked_ev s l hl) (Ev.pos g (Ev.bnd1 (impl_firstEmpty_eq l) (Ev.neg g2 (Ev.ret _))))
  · rw [if_neg g]
    simp only [impl_FirstEmpty.f]
    exact Ev.bnd (impl_areLinked_ev s l hl) (Ev.neg g (Ev.ret _))

/-! What a step needs. -/
def setAll : List Bool → List Int → List Bool
  | b, [] => b
  | b, p :: t => setAll (b.set p.toNat true) t
def upd (v : Bool) (b : List Bool) (ps : List Int) : List Bool := if v = true then setAll b ps else b
def nd (l : List S83) : Nat → List Bool → List Bool
  | 0, b => b
  | i + 1, b => nd l i (upd (rdOf false b (i : Int)) b (rd_T83 l (i : Int)).f1)
def trues : Int → List Bool → List Int
  | _, [] => []
  | i, b :: t => if b = true then i :: trues (i + 1) t else trues (i + 1) t
theorem setAll_len (ps : List Int) : ∀ b : List Bool, (setAll b ps).length = b.length := by
  induction ps with
  | nil => intro b; rfl
  | cons p t ih => intro b; rw [setAll, ih, List.length_set]
theorem upd_len (v : Bool) (b : List Bool) (ps : List Int) : (upd v b ps).length = b.length := by
  unfold upd
  split
  · exact setAll_len _ _
  · rfl
theorem trues_len (b : List Bool) : ∀ i, (trues i b).length ≤ b.length := by
  induction b with
  | nil => intro i; exact Nat.le_refl _
  | cons x t ih =>
    intro i
    have := ih (i + 1)
    unfold trues
    split
    · simp only [List.length_cons]; omega
    · simp only [List.length_cons]; omega
theorem trues_more (b : List Bool) (n : Nat) : ∀ i, trues i (b ++ List.replicate n false) = trues i b := by
  induction b with
  | nil =>
    intro i
    rw [List.nil_append]
    induction n generalizing i with
    | zero => rfl
    | succ n ih => rw [List.replicate_succ]; simp only [trues, Bool.false_eq_true, if_false]; rw [ih]; rfl
  | cons x t ih => intro i; rw [List.cons_append, trues, trues, ih]
theorem setAll_app (c : List Bool) (ps : List Int) : ∀ b : List Bool, (∀ p ∈ ps, 0 ≤ p ∧ p < (b.length : Int)) → setAll (b ++ c) ps = setAll b ps ++ c := by
  induction ps with
  | nil => intro b _; rfl
  | cons p t ih =>
    intro b h
    have hp := h p (by simp)
    rw [setAll, setAll, List.set_append_left (h := by omega), ih _ (fun q hq => by rw [List.length_set]; exact h q (by simp [hq]))]
theorem set_same (b : List Bool) (p : Int) (v : Bool) (h0 : 0 ≤ p) (h1 : p < b.length) (h : rdOf false b p = v) : b.set p.toNat v = b := by
  apply List.ext_getElem
  · rw [List.length_set]
  · intro n h2 h3
    rw [List.getElem_set]
    split
    · rename_i e
      subst e
      rw [← h]
      unfold rdOf
      rw [List.getD_eq_getElem?_getD, List.getElem?_eq_getElem h3]
      rfl
    · rfl
theorem rd_set_ne (b : List Bool) (p : Int) (i : Nat) (v : Bool) (h : p.toNat ≠ i) : rdOf false (b.set p.toNat v) (i : Int) = rdOf false b (i : Int) := by
  unfold rdOf
  rw [Int.toNat_natCast, List.getD_eq_getElem?_getD, List.getD_eq_getElem?_getD, List.getElem?_set_ne h]
/-- Parents are earlier steps. -/
def linked (l : List S83) : Prop := ∀ j : Nat, j < l.length → ∀ p ∈ (rd_T83 l (j : Int)).f1, 0 ≤ p ∧ p < (j : Int)
theorem linked_of (l : List S83) : ∀ i : Int, linkedFrom i l = true → ∀ j : Nat, j < l.length → ∀ p ∈ (rd_T83 l (j : Int)).f1, 0 ≤ p ∧ p < i + (j : Int) := by
  induction l with
  | nil => intro i _ j hj; simp at hj
  | cons x t ih =>
    intro i h j hj p hp
    simp only [linkedFrom, Bool.and_eq_true] at h
    cases j with
    | zero =>
      have := inAll_mem h.1 p hp
      exact ⟨this.1, by omega⟩
    | succ j =>
      have := ih (i + 1) h.2 j (by simpa using hj) p (by unfold rd_T83 at hp ⊢; rw [Int.toNat_natCast] at hp ⊢; simpa using hp)
      exact ⟨this.1, by omega⟩
theorem spec_need_l1 (l : List S83) (i : Nat) (post : List Int) : ∀ (pre : List Int) (b : List Bool) (r : List Int), (pre ++ post).length ≤ 1048576 → i < b.length → i ≤ 1048576 → (∀ p ∈ post, 0 ≤ p ∧ p < (i : Int)) →
    Ev (fun k => spec_l9Needed.l0 k l (upd (rdOf false b (i : Int)) b post) ((i : Int) - 1)) r → Ev (fun k => spec_l9Needed.l1 k l b (i : Int) (pre ++ post) ((pre ++ post).length : Int) (pre.length : Int)) r := by
  induction post with
  | nil =>
    intro pre b r hl hi hi2 hp h
    refine Ev.succ ?_
    simp only [spec_l9Needed.l1]
    rw [w64 (x := (i : Int) - 1) (by omega) (by omega)]
    refine Ev.neg (by simp) ?_
    have e : upd (rdOf false b (i : Int)) b [] = b := by unfold upd; split <;> rfl
    rw [e] at h
    exact h
  | cons p post ih =>
    intro pre b r hl hi hi2 hp h
    have h0 := hp p (by simp)
    have hl' := hl
    simp only [List.length_append, List.length_cons] at hl
    have hpp : (pre ++ p :: post) = (pre ++ [p]) ++ post := by simp
    have go : ∀ b' : List Bool, i < b'.length → Ev (fun k => spec_l9Needed.l0 k l (upd (rdOf false b' (i : Int)) b' post) ((i : Int) - 1)) r → Ev (fun k => spec_l9Needed.l1 k l b' (i : Int) (pre ++ p :: post) ((pre ++ p :: post).length : Int) ((pre.length : Int) + 1)) r := fun b' hb' hh => by
      have := ih (pre ++ [p]) b' r (by rw [← hpp]; exact hl') hb' hi2 (fun q hq => hp q (by simp [hq])) hh
      rw [← hpp, show (pre ++ [p]).length = pre.length + 1 by simp, Int.natCast_add] at this
      exact this
    refine Ev.succ ?_
    simp only [spec_l9Needed.l1]
    rw [w64 (x := (pre.length : Int) + 1) (by omega) (by omega), rd_mid]
    refine Ev.pos (by simp only [List.length_append, List.length_cons]; omega) (Ev.pos (by omega) (Ev.pos (by simp only [List.length_append, List.length_cons]; omega) (Ev.pos h0.1 (Ev.pos (by omega) ?_))))
    have hne : p.toNat ≠ i := by omega
    have key : ∀ v : Bool, (rdOf false b (i : Int) = true → v = true) → (rdOf false b (i : Int) = false → b.set p.toNat v = b) → Ev (fun k => spec_l9Needed.l1 k l (b.set p.toNat v) (i : Int) (pre ++ p :: post) ((pre ++ p :: post).length : Int) ((pre.length : Int) + 1)) r := fun v hv hs => by
      refine go _ (by rw [List.length_set]; exact hi) ?_
      rw [rd_set_ne _ _ _ _ hne]
      unfold upd at h ⊢
      cases hq : rdOf false b (i : Int) with
      | true => rw [hq, if_pos rfl, setAll] at h; rw [if_pos rfl, hv hq]; exact h
      | false => rw [hq, if_neg (by simp)] at h; rw [if_neg (by simp), hs hq]; exact h
    by_cases g : rdOf false b p = true
    · exact Ev.pos g (key true (fun _ => rfl) (fun _ => set_same b p true h0.1 (by omega) g))
    · refine Ev.neg g (Ev.pos (by omega) (Ev.pos (by omega) (key _ (fun e => e) (fun e => ?_))))
      rw [e]
      exact set_same b p false h0.1 (by omega) (by simpa using g)
theorem impl_need_l1 (l : List S83) (i : Nat) (post : List Int) : ∀ (pre : List Int) (b : List Bool) (r : List Int), (pre ++ post).length ≤ 1048576 → i < b.length → i ≤ 1048576 → (∀ p ∈ post, 0 ≤ p ∧ p < (i : Int)) →
    Ev (fun k => impl_needed.l0 k l (setAll b post) ((i : Int) - 1)) r → Ev (fun k => impl_needed.l1 k l b (i : Int) (pre ++ post) ((pre ++ post).length : Int) (pre.length : Int)) r := by
  induction post with
  | nil =>
    intro pre b r hl hi hi2 hp h
    refine Ev.succ ?_
    simp only [impl_needed.l1]
    rw [w64 (x := (i : Int) - 1) (by omega) (by omega)]
    exact Ev.neg (by simp) h
  | cons p post ih =>
    intro pre b r hl hi hi2 hp h
    have h0 := hp p (by simp)
    have hl' := hl
    simp only [List.length_append, List.length_cons] at hl
    have hpp : (pre ++ p :: post) = (pre ++ [p]) ++ post := by simp
    have := ih (pre ++ [p]) (b.set p.toNat true) r (by rw [← hpp]; exact hl') (by rw [List.length_set]; exact hi) hi2 (fun q hq => hp q (by simp [hq])) h
    rw [← hpp, show (pre ++ [p]).length = pre.length + 1 by simp, Int.natCast_add] at this
    refine Ev.succ ?_
    simp only [impl_needed.l1]
    rw [w64 (x := (pre.length : Int) + 1) (by omega) (by omega), rd_mid]
    exact Ev.pos (by simp only [List.length_append, List.length_cons]; omega) (Ev.pos (by omega) (Ev.pos (by simp only [List.length_append, List.length_cons]; omega) (Ev.pos h0.1 (Ev.pos (by omega) this))))
theorem rdOf_mid (pre : List Bool) (x : Bool) (post : List Bool) : rdOf false (pre ++ x :: post) (pre.length : Int) = x := by
  unfold rdOf; simp
theorem spec_need_l2 (post : List Bool) : ∀ (pre : List Bool) (acc : List Int), acc.length ≤ pre.length → (pre ++ post).length ≤ 1048577 → Ev (fun k => spec_l9Needed.l2 k acc (pre ++ post) ((pre ++ post).length : Int) (pre.length : Int)) (acc ++ trues (pre.length : Int) post) := by
  induction post with
  | nil =>
    intro pre acc ha hl
    refine Ev.succ ?_
    simp only [spec_l9Needed.l2]
    exact Ev.neg (by simp) (Ev.eq (Ev.ret _) (by simp [trues]))
  | cons x post ih =>
    intro pre acc ha hl
    have hl' := hl
    simp only [List.length_append, List.length_cons] at hl
    have hpp : (pre ++ x :: post) = (pre ++ [x]) ++ post := by simp
    have h : ∀ a : List Int, a.length ≤ pre.length + 1 → Ev (fun k => spec_l9Needed.l2 k a (pre ++ x :: post) ((pre ++ x :: post).length : Int) ((pre.length : Int) + 1)) (a ++ trues ((pre.length : Int) + 1) post) := fun a hq => by
      have := ih (pre ++ [x]) a (by simpa using hq) (by rw [← hpp]; exact hl')
      rw [← hpp, show (pre ++ [x]).length = pre.length + 1 by simp, Int.natCast_add] at this
      exact this
    refine Ev.succ ?_
    simp only [spec_l9Needed.l2]
    rw [w64 (x := (pre.length : Int) + 1) (by omega) (by omega), rdOf_mid]
    refine Ev.pos (by simp only [List.length_append, List.length_cons]; omega) (Ev.pos (by omega) (Ev.pos (by simp only [List.length_append, List.length_cons]; omega) ?_))
    simp only [trues]
    by_cases g : x = true
    · rw [if_pos g]
      refine Ev.pos g (Ev.pos (by omega) (Ev.eq (h _ (by rw [List.length_append, List.length_singleton]; omega)) (by simp)))
    · rw [if_neg g]
      exact Ev.neg g (h _ (by omega))
theorem impl_need_l2 (post : List Bool) : ∀ (pre : List Bool) (acc : List Int), acc.length ≤ pre.length → (pre ++ post).length ≤ 1048577 → Ev (fun k => impl_needed.l2 k acc (pre ++ post) ((pre ++ post).length : Int) (pre.length : Int)) (acc ++ trues (pre.length : Int) post) := by
  induction post with
  | nil =>
    intro pre acc ha hl
    refine Ev.succ ?_
    simp only [impl_needed.l2]
    exact Ev.neg (by simp) (Ev.eq (Ev.ret _) (by simp [trues]))
  | cons x post ih =>
    intro pre acc ha hl
    have hl' := hl
    simp only [List.length_append, List.length_cons] at hl
    have hpp : (pre ++ x :: post) = (pre ++ [x]) ++ post := by simp
    have h : ∀ a : List Int, a.length ≤ pre.length + 1 → Ev (fun k => impl_needed.l2 k a (pre ++ x :: post) ((pre ++ x :: post).length : Int) ((pre.length : Int) + 1)) (a ++ trues ((pre.length : Int) + 1) post) := fun a hq => by
      have := ih (pre ++ [x]) a (by simpa using hq) (by rw [← hpp]; exact hl')
      rw [← hpp, show (pre ++ [x]).length = pre.length + 1 by simp, Int.natCast_add] at this
      exact this
    refine Ev.succ ?_
    simp only [impl_needed.l2]
    rw [w64 (x := (pre.length : Int) + 1) (by omega) (by omega), rdOf_mid]
    refine Ev.pos (by simp only [List.length_append, List.length_cons]; omega) (Ev.pos (by omega) (Ev.pos (by simp only [List.length_append, List.length_cons]; omega) ?_))
    simp only [trues]
    by_cases g : x = true
    · rw [if_pos g]
      refine Ev.pos g (Ev.pos (by omega) (Ev.eq (h _ (by rw [List.length_append, List.length_singleton]; omega)) (by simp)))
    · rw [if_neg g]
      exact Ev.neg g (h _ (by omega))
theorem rdSB_sm (l : List S83) (hk : ∀ x ∈ l, smStep x) (i : Nat) (h : i < l.length) : smStep (rd_T83 l (i : Int)) := by
  unfold rd_T83
  rw [Int.toNat_natCast, List.getD_eq_getElem?_getD, List.getElem?_eq_getElem h]
  exact hk _ (List.getElem_mem h)
theorem spec_need_l0 (l : List S83) (hl : l.length ≤ 1048576) (hk : ∀ x ∈ l, smStep x) (hlk : linked l) (i : Nat) : ∀ b : List Bool, i ≤ b.length → b.length ≤ l.length → Ev (fun k => spec_l9Needed.l0 k l b ((i : Int) - 1)) (trues 0 (nd l i b)) := by
  induction i with
  | zero =>
    intro b hb hbl
    refine Ev.succ ?_
    simp only [spec_l9Needed.l0, nd]
    have := spec_need_l2 b [] [] (by simp) (by simpa using (by omega : b.length ≤ 1048577))
    exact Ev.neg (by omega) (by simpa using this)
  | succ i ih =>
    intro b hb hbl
    have hs := rdSB_sm l hk i (by omega)
    refine Ev.succ ?_
    simp only [spec_l9Needed.l0, nd]
    rw [show ((i + 1 : Nat) : Int) - 1 = (i : Int) by omega]
    refine Ev.pos (by omega) (Ev.pos (by omega) (Ev.pos (by omega) ?_))
    have h := spec_need_l1 l i (rd_T83 l (i : Int)).f1 [] b _ (by simpa using hs.1) (by omega) (by omega) (hlk i (by omega)) (ih _ (by rw [upd_len]; omega) (by rw [upd_len]; exact hbl))
    simpa using h
theorem impl_need_l0 (l : List S83) (hl : l.length ≤ 1048576) (hk : ∀ x ∈ l, smStep x) (hlk : linked l) (i : Nat) : ∀ b : List Bool, i ≤ b.length → b.length ≤ l.length → Ev (fun k => impl_needed.l0 k l b ((i : Int) - 1)) (trues 0 (nd l i b)) := by
  induction i with
  | zero =>
    intro b hb hbl
    refine Ev.succ ?_
    simp only [impl_needed.l0, nd]
    have := impl_need_l2 b [] [] (by simp) (by simpa using (by omega : b.length ≤ 1048577))
    exact Ev.neg (by omega) (by simpa using this)
  | succ i ih =>
    intro b hb hbl
    have hs := rdSB_sm l hk i (by omega)
    refine Ev.succ ?_
    simp only [impl_needed.l0, nd]
    rw [show ((i + 1 : Nat) : Int) - 1 = (i : Int) by omega]
    refine Ev.pos (by omega) (Ev.pos (by omega) (Ev.pos (by omega) ?_))
    have h0 := ih (upd (rdOf false b (i : Int)) b (rd_T83 l (i : Int)).f1) (by rw [upd_len]; omega) (by rw [upd_len]; exact hbl)
    by_cases g : rdOf false b (i : Int) = true
    · refine Ev.pos g (Ev.pos (by omega) ?_)
      have e : upd (rdOf false b (i : Int)) b (rd_T83 l (i : Int)).f1 = setAll b (rd_T83 l (i : Int)).f1 := by unfold upd; rw [if_pos g]
      rw [e] at h0 ⊢
      have h := impl_need_l1 l i (rd_T83 l (i : Int)).f1 [] b _ (by simpa using hs.1) (by omega) (by omega) (hlk i (by omega)) h0
      simpa using h
    · refine Ev.neg g ?_
      have e : upd (rdOf false b (i : Int)) b (rd_T83 l (i : Int)).f1 = b := by unfold upd; rw [if_neg g]
      rw [e] at h0 ⊢
      rw [w64 (x := (i : Int) - 1) (by omega) (by omega)]
      exact h0
theorem nd_app (l : List S83) (hlk : linked l) (c : List Bool) (i : Nat) : ∀ b : List Bool, i ≤ b.length → i ≤ l.length → nd l i (b ++ c) = nd l i b ++ c := by
  induction i with
  | zero => intro b _ _; rfl
  | succ i ih =>
    intro b hb hil
    have e : rdOf false (b ++ c) (i : Int) = rdOf false b (i : Int) := by
      unfold rdOf
      rw [Int.toNat_natCast, List.getD_eq_getElem?_getD, List.getD_eq_getElem?_getD, List.getElem?_append_left (by omega)]
    rw [nd, nd, e]
    have e2 : upd (rdOf false b (i : Int)) (b ++ c) (rd_T83 l (i : Int)).f1 = upd (rdOf false b (i : Int)) b (rd_T83 l (i : Int)).f1 ++ c := by
      unfold upd
      split
      · exact setAll_app c _ b (fun p hp => by have := hlk i (by omega) p hp; omega)
      · rfl
    rw [e2, ih _ (by rw [upd_len]; omega) (by omega)]
theorem nd_len (l : List S83) (i : Nat) : ∀ b : List Bool, (nd l i b).length = b.length := by
  induction i with
  | zero => intro b; rfl
  | succ i ih => intro b; rw [nd, ih, upd_len]
/-- What step a needs. -/
def neededOf (l : List S83) (a : Nat) : List Int := trues 0 (nd l (a + 1) ((List.replicate (a + 1) false).set a true))
theorem neededOf_len (l : List S83) (a : Nat) : (neededOf l a).length ≤ a + 1 := by
  have := trues_len (nd l (a + 1) ((List.replicate (a + 1) false).set a true)) 0
  rw [nd_len, List.length_set, List.length_replicate] at this
  exact this
theorem spec_needed_ev (l : List S83) (hl : l.length ≤ 1048576) (hk : ∀ x ∈ l, smStep x) (hlk : linked l) (a : Nat) (ha : a < l.length) : Ev (fun k => spec_l9Needed.f k l (a : Int)) (neededOf l a) := by
  simp only [spec_l9Needed.f]
  rw [w64 (x := (a : Int) + 1) (by omega) (by omega), show ((a : Int) + 1).toNat = a + 1 by omega, Int.toNat_natCast]
  refine Ev.pos (by omega) (Ev.pos (by omega) (Ev.bnd1 rfl (Ev.pos (by omega) (Ev.pos (by rw [List.length_replicate]; omega) ?_))))
  have h := spec_need_l0 l hl hk hlk (a + 1) ((List.replicate (a + 1) false).set a true) (by rw [List.length_set, List.length_replicate]; omega) (by rw [List.length_set, List.length_replicate]; omega)
  rw [show ((a + 1 : Nat) : Int) - 1 = (a : Int) by omega] at h
  exact h
theorem impl_needed_ev (l : List S83) (hl : l.length ≤ 1048576) (hk : ∀ x ∈ l, smStep x) (hlk : linked l) (a : Nat) (ha : a < l.length) : Ev (fun k => impl_needed.f k l (a : Int)) (neededOf l a) := by
  simp only [impl_needed.f]
  rw [Int.toNat_natCast, Int.toNat_natCast]
  refine Ev.pos (by omega) (Ev.pos (by omega) (Ev.bnd1 rfl (Ev.pos (by omega) (Ev.pos (by rw [List.length_replicate]; omega) ?_))))
  have h := impl_need_l0 l hl hk hlk (a + 1) ((List.replicate l.length false).set a true) (by rw [List.length_set, List.length_replicate]; omega) (by rw [List.length_set, List.length_replicate]; omega)
  rw [show ((a + 1 : Nat) : Int) - 1 = (a : Int) by omega] at h
  refine Ev.eq h ?_
  unfold neededOf
  have e : (List.replicate l.length false).set a true = ((List.replicate (a + 1) false).set a true) ++ List.replicate (l.length - (a + 1)) false := by
    rw [← List.set_append_left (h := by rw [List.length_replicate]; omega), List.replicate_append_replicate, show a + 1 + (l.length - (a + 1)) = l.length by omega]
  rw [e, nd_app l hlk _ _ _ (by rw [List.length_set, List.length_replicate]; omega) (by omega), trues_more]

/-! Result literals, marked and held. -/
def upsL : Int → List S72 → List S72
  | _, [] => []
  | a, x :: t => ⟨a % 3 == 0, ups (a + 1) x.f1.length, ups (a + 1 + x.f1.length) x.f2.length⟩ :: upsL (a + lsz x) t
theorem upsL_len (l : List S72) : ∀ a, (upsL a l).length = l.length := by
  induction l with
  | nil => intro a; rfl
  | cons x t ih => intro a; simp [upsL, ih]
theorem ltot_cons (x : S72) (t : List S72) : ltot (x :: t) = lsz x + ltot t := by simp [ltot]
theorem mkLS_ev (l : List S72) : ∀ a : Int, 0 ≤ a → a + ltot l ≤ 4611686018427387904 → (∀ x ∈ l, smLit x) → Ev (fun k => mkLS k l a) (a + ltot l, upsL a l) := by
  induction l with
  | nil => intro a h0 h1 hk; exact Ev.eq (Ev.ret _) (by simp [ltot, upsL])
  | cons x t ih =>
    intro a h0 h1 hk
    rw [ltot_cons] at h1 ⊢
    have hx := hk x (by simp)
    unfold smLit at hx
    have hs : lsz x = 1 + x.f1.length + x.f2.length := rfl
    have h := ih (a + lsz x) (by omega) (by omega) (fun y hy => hk y (by simp [hy]))
    simp only [mkLS]
    refine Ev.pos ⟨h0, by omega⟩ (Ev.bnd (markIntS x.f1 (a + 1) (by omega) (by omega) (by omega)) (Ev.bnd (markIntS x.f2 (a + 1 + x.f1.length) (by omega) (by omega) (by omega)) ?_))
    have e : a + 1 + (x.f1.length : Int) + (x.f2.length : Int) = a + (lsz x : Int) := by omega
    simp only [e]
    refine Ev.bnd h (Ev.eq (Ev.ret _) ?_)
    simp only [upsL, Prod.mk.injEq]
    exact ⟨by omega, trivial⟩
theorem heldLitS_l0 (l : List S72) : ∀ (pre : List S72) (a : Int), 0 ≤ a → a + ltot l ≤ 4611686018427387904 → (∀ x ∈ l, smLit x) → pre.length + l.length ≤ 1048576 →
    Ev (fun k => laws_heldLitS.l0 k (pre ++ upsL a l) a (pre.length : Int)) (a + ltot l) := by
  induction l with
  | nil =>
    intro pre a h0 h1 hk hl
    refine Ev.succ ?_
    simp only [laws_heldLitS.l0]
    exact Ev.neg (by simp [upsL]) (Ev.eq (Ev.ret _) (by simp [ltot]))
  | cons x t ih =>
    intro pre a h0 h1 hk hl
    rw [ltot_cons] at h1 ⊢
    have hx := hk x (by simp)
    unfold smLit at hx
    have hs : lsz x = 1 + x.f1.length + x.f2.length := rfl
    rw [List.length_cons] at hl
    have h := ih (pre ++ [(⟨a % 3 == 0, ups (a + 1) x.f1.length, ups (a + 1 + x.f1.length) x.f2.length⟩ : S72)]) (a + lsz x) (by omega) (by omega) (fun y hy => hk y (by simp [hy])) (by rw [List.length_append, List.length_singleton]; omega)
    refine Ev.succ ?_
    simp only [laws_heldLitS.l0, upsL]
    refine Ev.pos (by simp only [List.length_append, List.length_cons, upsL_len]; omega) (Ev.pos (by omega) ?_)
    simp only [rdLB_mid]
    rw [w64 (x := a + 1) (by omega) (by omega), w64 (x := (pre.length : Int) + 1) (by omega) (by omega)]
    refine Ev.neg (by rw [Int.tmod_eq_emod_of_nonneg h0]; simp) (Ev.bnd (heldIntS x.f1.length (a + 1) (by omega) (by omega) (by omega)) (Ev.neg (by omega) (Ev.bnd (heldIntS x.f2.length (a + 1 + x.f1.length) (by omega) (by omega) (by omega)) (Ev.neg (by omega) ?_))))
    have e : a + 1 + (x.f1.length : Int) + (x.f2.length : Int) = a + (lsz x : Int) := by omega
    rw [e]
    exact Ev.eq (by simpa using h) (by omega)
theorem heldLitS_ev (l : List S72) (a : Int) (h0 : 0 ≤ a) (h1 : a + ltot l ≤ 4611686018427387904) (hl : l.length ≤ 1048576) (hk : ∀ x ∈ l, smLit x) : Ev (fun k => laws_heldLitS.f k (upsL a l) a) (a + ltot l) := by
  simp only [laws_heldLitS.f]
  simpa using heldLitS_l0 l [] a h0 h1 hk (by simpa using hl)

/-! Result steps, marked and held. -/
def upsT : Int → List S83 → List S83
  | _, [] => []
  | a, x :: t => ⟨a, ups (a + 1) x.f1.length, ups (a + 1 + x.f1.length) x.f2.length, upsL (a + 1 + x.f1.length + x.f2.length) x.f3⟩ :: upsT (a + ssz x) t
theorem upsT_len (l : List S83) : ∀ a, (upsT a l).length = l.length := by
  induction l with
  | nil => intro a; rfl
  | cons x t ih => intro a; simp [upsT, ih]
theorem stot_cons (x : S83) (t : List S83) : stot (x :: t) = ssz x + stot t := by simp [stot]
theorem mkStS_ev (l : List S83) : ∀ a : Int, 0 ≤ a → a + stot l ≤ 4611686018427387904 → (∀ x ∈ l, smStep x) → Ev (fun k => mkStS k l a) (a + stot l, upsT a l) := by
  induction l with
  | nil => intro a h0 h1 hk; exact Ev.eq (Ev.ret _) (by simp [stot, upsT])
  | cons x t ih =>
    intro a h0 h1 hk
    rw [stot_cons] at h1 ⊢
    obtain ⟨g1, g2, g3, g4⟩ := hk x (by simp)
    have hs : ssz x = 1 + x.f1.length + x.f2.length + ltot x.f3 := rfl
    have h := ih (a + ssz x) (by omega) (by omega) (fun y hy => hk y (by simp [hy]))
    simp only [mkStS]
    refine Ev.pos ⟨h0, by omega⟩ (Ev.bnd (markIntS x.f1 (a + 1) (by omega) (by omega) (by omega)) (Ev.bnd (markIntS x.f2 (a + 1 + x.f1.length) (by omega) (by omega) (by omega)) (Ev.bnd (mkLS_ev x.f3 (a + 1 + x.f1.length + x.f2.length) (by omega) (by omega) g4) ?_)))
    have e : a + 1 + (x.f1.length : Int) + (x.f2.length : Int) + (ltot x.f3 : Int) = a + (ssz x : Int) := by omega
    simp only [e]
    refine Ev.bnd h (Ev.eq (Ev.ret _) ?_)
    simp only [upsT, Prod.mk.injEq]
    exact ⟨by omega, trivial⟩
theorem heldStepS_l0 (l : List S83) : ∀ (pre : List S83) (a : Int), 0 ≤ a → a + stot l ≤ 4611686018427387904 → (∀ x ∈ l, smStep x) → pre.length + l.length ≤ 1048576 →
    Ev (fun k => laws_heldStepS.l0 k (pre ++ upsT a l) a (pre.length : Int)) (a + stot l) := by
  induction l with
  | nil =>
    intro pre a h0 h1 hk hl
    refine Ev.succ ?_
    simp only [laws_heldStepS.l0]
    exact Ev.neg (by simp [upsT]) (Ev.eq (Ev.ret _) (by simp [stot]))
  | cons x t ih =>
    intro pre a h0 h1 hk hl
    rw [stot_cons] at h1 ⊢
    obtain ⟨g1, g2, g3, g4⟩ := hk x (by simp)
    have hs : ssz x = 1 + x.f1.length + x.f2.length + ltot x.f3 := rfl
    rw [List.length_cons] at hl
    have h := ih (pre ++ [(⟨a, ups (a + 1) x.f1.length, ups (a + 1 + x.f1.length) x.f2.length, upsL (a + 1 + x.f1.length + x.f2.length) x.f3⟩ : S83)]) (a + ssz x) (by omega) (by omega) (fun y hy => hk y (by simp [hy])) (by rw [List.length_append, List.length_singleton]; omega)
    refine Ev.succ ?_
    simp only [laws_heldStepS.l0, upsT]
    refine Ev.pos (by simp only [List.length_append, List.length_cons, upsT_len]; omega) (Ev.pos (by omega) ?_)
    simp only [rdSB_mid]
    rw [w64 (x := a + 1) (by omega) (by omega), w64 (x := (pre.length : Int) + 1) (by omega) (by omega)]
    refine Ev.pos (by trivial) (Ev.bnd (heldIntS x.f1.length (a + 1) (by omega) (by omega) (by omega)) (Ev.neg (by omega) (Ev.bnd (heldIntS x.f2.length (a + 1 + x.f1.length) (by omega) (by omega) (by omega)) (Ev.neg (by omega) (Ev.bnd (heldLitS_ev x.f3 (a + 1 + x.f1.length + x.f2.length) (by omega) (by omega) g3 g4) (Ev.neg (by omega) ?_))))))
    have e : a + 1 + (x.f1.length : Int) + (x.f2.length : Int) + (ltot x.f3 : Int) = a + (ssz x : Int) := by omega
    rw [e]
    exact Ev.eq (by simpa using h) (by omega)
theorem heldStepS_ev (l : List S83) (a : Int) (h0 : 0 ≤ a) (h1 : a + stot l ≤ 4611686018427387904) (hl : l.length ≤ 1048576) (hk : ∀ x ∈ l, smStep x) : Ev (fun k => laws_heldStepS.f k (upsT a l) a) (a + stot l) := by
  simp only [laws_heldStepS.f]
  simpa using heldStepS_l0 l [] a h0 h1 hk (by simpa using hl)

/-! The trimmed proof. -/
theorem rdOf_set_eq (b : List Bool) (p : Int) (h0 : 0 ≤ p) (h1 : p < b.length) : rdOf false (b.set p.toNat true) p = true := by
  unfold rdOf
  rw [List.getD_eq_getElem?_getD, List.getElem?_set_self (by omega)]
  rfl
theorem rdOf_set_mono (b : List Bool) (p : Int) (i : Nat) (h : rdOf false b (i : Int) = true) : rdOf false (b.set p.toNat true) (i : Int) = true := by
  by_cases e : p.toNat = i
  · subst e
    unfold rdOf at h ⊢
    rw [Int.toNat_natCast, List.getD_eq_getElem?_getD] at h ⊢
    by_cases g : p.toNat < b.length
    · rw [List.getElem?_set_self g]; rfl
    · rw [List.getElem?_eq_none (by omega)] at h; simp at h
  · rw [rd_set_ne _ _ _ _ e]; exact h
theorem setAll_mono (ps : List Int) : ∀ (b : List Bool) (i : Nat), rdOf false b (i : Int) = true → rdOf false (setAll b ps) (i : Int) = true := by
  induction ps with
  | nil => intro b i h; exact h
  | cons p t ih => intro b i h; exact ih _ i (rdOf_set_mono b p i h)
theorem setAll_mem (ps : List Int) : ∀ (b : List Bool), (∀ p ∈ ps, 0 ≤ p ∧ p < (b.length : Int)) → ∀ p ∈ ps, rdOf false (setAll b ps) p = true := by
  induction ps with
  | nil => intro b _ p hp; simp at hp
  | cons q t ih =>
    intro b hb p hp
    rcases List.mem_cons.1 hp with rfl | hp
    · have h := hb p (by simp)
      have := setAll_mono t (b.set p.toNat true) p.toNat (by rw [show ((p.toNat : Nat) : Int) = p by omega]; exact rdOf_set_eq b p h.1 h.2)
      rw [show ((p.toNat : Nat) : Int) = p by omega] at this
      exact this
    · exact ih _ (fun r hr => by rw [List.length_set]; exact hb r (by simp [hr])) p hp
theorem setAll_keep (ps : List Int) (i : Nat) : ∀ b : List Bool, (∀ p ∈ ps, 0 ≤ p ∧ p < (i : Int)) → rdOf false (setAll b ps) (i : Int) = rdOf false b (i : Int) := by
  induction ps with
  | nil => intro b _; rfl
  | cons q t ih =>
    intro b hb
    have h := hb q (by simp)
    rw [setAll, ih _ (fun r hr => hb r (by simp [hr])), rd_set_ne _ _ _ _ (by omega)]
theorem upd_mono (v : Bool) (b : List Bool) (ps : List Int) (i : Nat) (h : rdOf false b (i : Int) = true) : rdOf false (upd v b ps) (i : Int) = true := by
  unfold upd
  split
  · exact setAll_mono _ _ _ h
  · exact h
theorem upd_keep (v : Bool) (b : List Bool) (ps : List Int) (i : Nat) (h : ∀ p ∈ ps, 0 ≤ p ∧ p < (i : Int)) : rdOf false (upd v b ps) (i : Int) = rdOf false b (i : Int) := by
  unfold upd
  split
  · exact setAll_keep _ _ _ h
  · rfl
theorem nd_mono (l : List S83) (i : Nat) : ∀ (b : List Bool) (j : Nat), rdOf false b (j : Int) = true → rdOf false (nd l i b) (j : Int) = true := by
  induction i with
  | zero => intro b j h; exact h
  | succ i ih => intro b j h; exact ih _ j (upd_mono _ _ _ _ h)
theorem nd_keep (l : List S83) (hlk : linked l) (i : Nat) : ∀ (b : List Bool) (j : Nat), i ≤ j → i ≤ l.length → rdOf false (nd l i b) (j : Int) = rdOf false b (j : Int) := by
  induction i with
  | zero => intro b j _ _; rfl
  | succ i ih =>
    intro b j hj hil
    rw [nd, ih _ j (by omega) (by omega), upd_keep _ _ _ _ (fun p hp => by have := hlk i (by omega) p hp; omega)]
theorem nd_closed (l : List S83) (hlk : linked l) (i : Nat) : ∀ (b : List Bool), i ≤ l.length → i ≤ b.length → ∀ j : Nat, j < i → rdOf false (nd l i b) (j : Int) = true → ∀ p ∈ (rd_T83 l (j : Int)).f1, rdOf false (nd l i b) p = true := by
  induction i with
  | zero => intro b _ _ j hj; omega
  | succ i ih =>
    intro b hil hib j hj h p hp
    rw [nd] at h ⊢
    by_cases e : j = i
    · subst e
      have hk := hlk j (by omega)
      rw [nd_keep l hlk j _ j (Nat.le_refl _) (by omega), upd_keep _ _ _ _ hk] at h
      have hpk := hk p hp
      have := nd_mono l j (upd (rdOf false b (j : Int)) b (rd_T83 l (j : Int)).f1) p.toNat (by
        rw [show ((p.toNat : Nat) : Int) = p by omega]
        unfold upd
        rw [if_pos h]
        exact setAll_mem _ _ (fun q hq => by have := hk q hq; omega) p hp)
      rw [show ((p.toNat : Nat) : Int) = p by omega] at this
      exact this
    · exact ih _ (by omega) (by rw [upd_len]; omega) j (by omega) h p hp
theorem trues_mem (b : List Bool) : ∀ (i p : Int), p ∈ trues i b ↔ i ≤ p ∧ p < i + b.length ∧ rdOf false b (p - i) = true := by
  induction b with
  | nil => intro i p; simp [trues]; omega
  | cons x t ih =>
    intro i p
    have key : ∀ q : Int, 0 < q → rdOf false (x :: t) q = rdOf false t (q - 1) := fun q hq => by
      unfold rdOf
      rw [show q.toNat = (q - 1).toNat + 1 by omega, List.getD_eq_getElem?_getD, List.getD_eq_getElem?_getD, List.getElem?_cons_succ]
    have h0 : rdOf false (x :: t) (i - i) = x := by unfold rdOf; simp
    have hm : p ∈ trues (i + 1) t ↔ i < p ∧ p < i + ((x :: t).length : Int) ∧ rdOf false (x :: t) (p - i) = true := by
      rw [ih (i + 1) p, List.length_cons]
      constructor
      · rintro ⟨h1, h2, h3⟩
        refine ⟨by omega, by omega, ?_⟩
        rw [key (p - i) (by omega), show p - i - 1 = p - (i + 1) by omega]; exact h3
      · rintro ⟨h1, h2, h3⟩
        refine ⟨by omega, by omega, ?_⟩
        rw [key (p - i) (by omega), show p - i - 1 = p - (i + 1) by omega] at h3; exact h3
    rw [trues]
    by_cases g : x = true
    · rw [if_pos g, List.mem_cons, hm]
      constructor
      · rintro (rfl | ⟨h1, h2, h3⟩)
        · exact ⟨Int.le_refl _, by rw [List.length_cons]; omega, by rw [h0]; exact g⟩
        · exact ⟨by omega, h2, h3⟩
      · rintro ⟨h1, h2, h3⟩
        by_cases e : p = i
        · exact .inl e
        · exact .inr ⟨by omega, h2, h3⟩
    · rw [if_neg g, hm]
      constructor
      · rintro ⟨h1, h2, h3⟩
        exact ⟨by omega, h2, h3⟩
      · rintro ⟨h1, h2, h3⟩
        refine ⟨?_, h2, h3⟩
        by_cases e : p = i
        · subst e
          rw [h0] at h3
          exact absurd h3 g
        · omega
theorem trues_sorted (b : List Bool) : ∀ i : Int, (trues i b).Pairwise (· < ·) := by
  induction b with
  | nil => intro i; simp [trues]
  | cons x t ih =>
    intro i
    rw [trues]
    split
    · refine List.pairwise_cons.2 ⟨fun p hp => ?_, ih _⟩
      have := ((trues_mem t (i + 1) p).1 hp).1
      omega
    · exact ih _
theorem neededOf_sorted (l : List S83) (a : Nat) : (neededOf l a).Pairwise (· < ·) := trues_sorted _ _
theorem neededOf_le (l : List S83) (a : Nat) : ∀ p ∈ neededOf l a, 0 ≤ p ∧ p ≤ (a : Int) := fun p hp => by
  have h := (trues_mem _ 0 p).1 hp
  rw [nd_len, List.length_set, List.length_replicate] at h
  omega
theorem neededOf_closed (l : List S83) (hlk : linked l) (a : Nat) (ha : a < l.length) : ∀ q ∈ neededOf l a, ∀ p ∈ (rd_T83 l q).f1, p ∈ neededOf l a ∧ p < q := fun q hq p hp => by
  have hb := neededOf_le l a q hq
  have h := (trues_mem _ 0 q).1 hq
  obtain ⟨n, rfl⟩ : ∃ n : Nat, q = (n : Int) := ⟨q.toNat, by omega⟩
  have hk := hlk n (by omega) p hp
  rw [Int.sub_zero] at h
  refine ⟨(trues_mem _ 0 p).2 ⟨hk.1, ?_, ?_⟩, hk.2⟩
  · rw [nd_len, List.length_set, List.length_replicate]; omega
  · rw [Int.sub_zero]
    exact nd_closed l hlk (a + 1) _ (by omega) (by rw [List.length_set, List.length_replicate]; omega) n (by omega) h.2.2 p hp
/-- A step of the trimmed proof. -/
def trimOf (need : List Int) (x : S83) : S83 := ⟨x.f0, x.f1.map (fun p => ((need.idxOf p : Nat) : Int)), x.f2, x.f3⟩
theorem idx_l0 (p : Int) (post : List Int) : ∀ pre : List Int, p ∉ pre → p ∈ post → (pre ++ post).length ≤ 1048576 → Ev (fun k => slices_Index_int_int.l0 k (pre ++ post) p ((pre ++ post).length : Int) (pre.length : Int)) ((((pre ++ post).idxOf p : Nat)) : Int) := by
  induction post with
  | nil => intro pre _ h; simp at h
  | cons x post ih =>
    intro pre hn hm hl
    have hl' := hl
    simp only [List.length_append, List.length_cons] at hl
    refine Ev.succ ?_
    simp only [slices_Index_int_int.l0]
    rw [w64 (x := (pre.length : Int) + 1) (by omega) (by omega), rd_mid]
    refine Ev.pos (by simp only [List.length_append, List.length_cons]; omega) (Ev.pos (by omega) (Ev.pos (by simp only [List.length_append, List.length_cons]; omega) ?_))
    by_cases e : p = x
    · refine Ev.pos e (Ev.eq (Ev.ret _) ?_)
      subst e
      rw [List.idxOf_append, if_neg hn, List.idxOf_cons_self]
      simp
    · have := ih (pre ++ [x]) (by simp [hn, e]) (by simpa [e] using hm) (by simpa using hl')
      exact Ev.neg e (by simpa using this)
theorem idx_ev (need : List Int) (p : Int) (hp : p ∈ need) (hl : need.length ≤ 1048576) : Ev (fun k => slices_Index_int_int.f k need p) ((need.idxOf p : Nat) : Int) := by
  simp only [slices_Index_int_int.f]
  simpa using idx_l0 p need [] (by simp) hp (by simpa using hl)
theorem par_ev (need : List Int) (hl : need.length ≤ 1048576) (ps : List Int) (hp : ∀ p ∈ ps, p ∈ need) : Ev (fun k => impl_TrimSteps.par k need ps) (ps.map (fun p => ((need.idxOf p : Nat) : Int))) := by
  induction ps with
  | nil => exact Ev.ret _
  | cons p t ih =>
    simp only [impl_TrimSteps.par]
    exact Ev.bnd (idx_ev need p (hp p (by simp)) hl) (Ev.bnd (ih (fun q hq => hp q (by simp [hq]))) (Ev.ret _))
theorem cla_eq (c : List S72) (hk : ∀ x ∈ c, smLit x) : impl_TrimSteps.cla c = some c := by
  induction c with
  | nil => rfl
  | cons x t ih =>
    have hx := hk x (by simp)
    unfold smLit at hx
    simp only [impl_TrimSteps.cla, impl_copyLit.f, slices_Clone_int_int.f]
    rw [if_pos (by omega), if_pos (by omega), ih (fun y hy => hk y (by simp [hy]))]
    rfl
theorem rows_ev (l : List S83) (need : List Int) (hk : ∀ x ∈ l, smStep x) (hn : need.length ≤ 1048576) (t : List Int) (ht : ∀ i ∈ t, 0 ≤ i ∧ i < (l.length : Int) ∧ ∀ p ∈ (rd_T83 l i).f1, p ∈ need) :
    Ev (fun k => impl_TrimSteps.rows k l need t) (t.map (fun i => trimOf need (rd_T83 l i))) := by
  induction t with
  | nil => exact Ev.ret _
  | cons i t ih =>
    obtain ⟨h0, h1, h2⟩ := ht i (by simp)
    have hs := rdSB_sm l hk i.toNat (by omega)
    rw [show ((i.toNat : Nat) : Int) = i by omega] at hs
    obtain ⟨g1, g2, g3, g4⟩ := hs
    simp only [impl_TrimSteps.rows]
    refine Ev.pos ⟨h0, h1⟩ (Ev.bnd1 (by unfold slices_Clone_int_int.f; rw [if_pos (by omega)]) (Ev.bnd (par_ev need hn _ h2) (Ev.bnd1 (cla_eq _ g4) (Ev.bnd (ih (fun j hj => ht j (by simp [hj]))) (Ev.ret _)))))
theorem own_eq (l : List Int) (h : l.length ≤ 1048576) : spec_l1Own.f l = some l := by
  unfold spec_l1Own.f
  rw [Option.bind_some, if_pos (by simp; omega), List.nil_append]
theorem l4Own_l0 (post : List S72) : ∀ pre : List S72, (pre ++ post).length ≤ 1048576 → (∀ x ∈ post, smLit x) → Ev (fun k => spec_l4Own.l0 k pre (pre ++ post) ((pre ++ post).length : Int) (pre.length : Int)) (pre ++ post) := by
  induction post with
  | nil =>
    intro pre hl hk
    refine Ev.succ ?_
    simp only [spec_l4Own.l0]
    exact Ev.neg (by simp) (Ev.eq (Ev.ret _) (by simp))
  | cons x post ih =>
    intro pre hl hk
    have hx := hk x (by simp)
    unfold smLit at hx
    have h := ih (pre ++ [x]) (by simpa using hl) (fun y hy => hk y (by simp [hy]))
    simp only [List.length_append, List.length_cons] at hl
    refine Ev.succ ?_
    simp only [spec_l4Own.l0]
    rw [w64 (x := (pre.length : Int) + 1) (by omega) (by omega), rdLB_mid]
    refine Ev.pos (by simp only [List.length_append, List.length_cons]; omega) (Ev.pos (by omega) (Ev.pos (by simp only [List.length_append, List.length_cons]; omega) (Ev.bnd1 (own_eq x.f1 (by omega)) (Ev.bnd1 (own_eq x.f2 (by omega)) (Ev.pos (by omega) ?_)))))
    simpa using h
theorem l4Own_ev (l : List S72) (hl : l.length ≤ 1048576) (hk : ∀ x ∈ l, smLit x) : Ev (fun k => spec_l4Own.f k l) l := by
  simp only [spec_l4Own.f]
  simpa using l4Own_l0 l [] (by simpa using hl) hk
theorem trim_l1 (l : List S83) (at_ : List Int) (out : List S83) (kk : Int) (need : List Int) (idx : Int) (h0 : 0 ≤ kk) (h1 : kk < (l.length : Int)) (hsm : smStep (rd_T83 l kk)) (hout : out.length ≤ 1048576) (f : Int → Int) (r : List S83) (post : List Int) :
    ∀ pre : List Int, (pre ++ post).length ≤ 1048576 → (∀ p ∈ post, 0 ≤ p ∧ p < (at_.length : Int) ∧ rd at_ p = f p) →
    Ev (fun k => spec_l9Trim.l0 k l at_ (out ++ [(⟨(rd_T83 l kk).f0, pre.map f ++ post.map f, (rd_T83 l kk).f2, (rd_T83 l kk).f3⟩ : S83)]) need (need.length : Int) (wrap64 (idx + 1))) r →
    Ev (fun k => spec_l9Trim.l1 k l at_ out kk (pre.map f) need (need.length : Int) idx (pre ++ post) ((pre ++ post).length : Int) (pre.length : Int)) r := by
  induction post with
  | nil =>
    intro pre hl hp h
    refine Ev.succ ?_
    simp only [spec_l9Trim.l1]
    rw [List.map_nil, List.append_nil] at h
    exact Ev.neg (by simp) (Ev.pos h0 (Ev.pos h1 (Ev.bnd1 (own_eq _ (by have := hsm.2.1; omega)) (Ev.bnd (l4Own_ev _ hsm.2.2.1 hsm.2.2.2) (Ev.pos (by omega) h)))))
  | cons p post ih =>
    intro pre hl hp h
    obtain ⟨g0, g1, g2⟩ := hp p (by simp)
    have hi := ih (pre ++ [p]) (by simpa using hl) (fun q hq => hp q (by simp [hq])) (by simpa using h)
    simp only [List.length_append, List.length_cons] at hl
    refine Ev.succ ?_
    simp only [spec_l9Trim.l1]
    rw [w64 (x := (pre.length : Int) + 1) (by omega) (by omega), rd_mid, g2]
    exact Ev.pos (by simp only [List.length_append, List.length_cons]; omega) (Ev.pos (by omega) (Ev.pos (by simp only [List.length_append, List.length_cons]; omega) (Ev.pos g0 (Ev.pos g1 (Ev.pos (by rw [List.length_map]; omega) (by simpa using hi))))))
theorem rd_set_other (xs : List Int) (n : Nat) (p v : Int) (h : p.toNat ≠ n) : rd (xs.set n v) p = rd xs p := by
  unfold rd
  rw [List.getD_eq_getElem?_getD, List.getD_eq_getElem?_getD, List.getElem?_set_ne (by omega)]
theorem rd_set_this (xs : List Int) (p v : Int) (h : p.toNat < xs.length) : rd (xs.set p.toNat v) p = v := by
  unfold rd
  rw [List.getD_eq_getElem?_getD, List.getElem?_set_self h]
  rfl
theorem trim_l0 (l : List S83) (hl : l.length ≤ 1048576) (hk : ∀ x ∈ l, smStep x) (post : List Int) : ∀ (pre at_ : List Int), (pre ++ post).length ≤ 1048576 → at_.length = l.length → (pre ++ post).Pairwise (· < ·) →
    (∀ q ∈ pre ++ post, 0 ≤ q ∧ q < (l.length : Int) ∧ ∀ p ∈ (rd_T83 l q).f1, p ∈ pre ++ post ∧ p < q) → (∀ p ∈ pre, rd at_ p = (((pre ++ post).idxOf p : Nat) : Int)) →
    Ev (fun k => spec_l9Trim.l0 k l at_ (pre.map (fun i => trimOf (pre ++ post) (rd_T83 l i))) (pre ++ post) ((pre ++ post).length : Int) (pre.length : Int)) ((pre ++ post).map (fun i => trimOf (pre ++ post) (rd_T83 l i))) := by
  induction post with
  | nil =>
    intro pre at_ hn ha hs hq hr
    refine Ev.succ ?_
    simp only [spec_l9Trim.l0]
    exact Ev.neg (by simp) (Ev.eq (Ev.ret _) (by simp))
  | cons q post ih =>
    intro pre at_ hn ha hs hq hr
    have hn' := hn
    simp only [List.length_append, List.length_cons] at hn
    obtain ⟨g0, g1, g2⟩ := hq q (by simp)
    have hpp : pre ++ q :: post = (pre ++ [q]) ++ post := by simp
    have hlt : ∀ p ∈ pre, p < q := fun p hp => (List.pairwise_append.1 hs).2.2 p hp q (by simp)
    have hgt : ∀ p ∈ post, q < p := fun p hp => (List.pairwise_cons.1 (List.pairwise_append.1 hs).2.1).1 p hp
    have hnp : q ∉ pre := fun h => by have := hlt q h; omega
    have hself : (pre ++ q :: post).idxOf q = pre.length := by rw [List.idxOf_append, if_neg hnp, List.idxOf_cons_self]; omega
    have hp0 : ∀ p ∈ pre, 0 ≤ p := fun p hp => (hq p (by simp [hp])).1
    have hr' : ∀ p ∈ pre ++ [q], rd (at_.set q.toNat (pre.length : Int)) p = (((pre ++ q :: post).idxOf p : Nat) : Int) := fun p hp => by
      rcases List.mem_append.1 hp with h | h
      · have := hlt p h
        have := hp0 p h
        rw [rd_set_other _ _ _ _ (by omega)]
        exact hr p h
      · rw [List.mem_singleton] at h
        subst h
        rw [rd_set_this _ _ _ (by omega), hself]
    have hsm := rdSB_sm l hk q.toNat (by omega)
    rw [show ((q.toNat : Nat) : Int) = q by omega] at hsm
    have hi := ih (pre ++ [q]) (at_.set q.toNat (pre.length : Int)) (by rw [← hpp]; exact hn') (by rw [List.length_set]; exact ha) (by rw [← hpp]; exact hs) (by rw [← hpp]; exact hq) (by rw [← hpp]; exact hr')
    rw [← hpp] at hi
    have h1 := trim_l1 l (at_.set q.toNat (pre.length : Int)) (pre.map (fun i => trimOf (pre ++ q :: post) (rd_T83 l i))) q (pre ++ q :: post) (pre.length : Int) g0 g1 hsm (by rw [List.length_map]; omega) (fun p => (((pre ++ q :: post).idxOf p : Nat) : Int)) ((pre ++ q :: post).map (fun i => trimOf (pre ++ q :: post) (rd_T83 l i))) (rd_T83 l q).f1 [] (by simpa using hsm.1)
      (fun p hp => by
        obtain ⟨m1, m2⟩ := g2 p hp
        have := (hq p m1)
        refine ⟨this.1, by rw [List.length_set]; omega, hr' p ?_⟩
        rcases List.mem_append.1 m1 with h | h
        · exact List.mem_append.2 (.inl h)
        · rcases List.mem_cons.1 h with h | h
          · omega
          · have := hgt p h; omega)
      (by
        rw [w64 (x := (pre.length : Int) + 1) (by omega) (by omega)]
        simpa [trimOf] using hi)
    refine Ev.succ ?_
    simp only [spec_l9Trim.l0]
    rw [rd_mid]
    refine Ev.pos (by simp only [List.length_append, List.length_cons]; omega) (Ev.pos (by omega) (Ev.pos (by simp only [List.length_append, List.length_cons]; omega) (Ev.pos g0 (Ev.pos (by omega) (Ev.pos g1 ?_)))))
    simp only [List.map_nil, List.nil_append, List.length_nil] at h1
    exact h1
theorem firstEmpty_lt (l : List S83) : ∀ i : Int, 0 ≤ i → firstEmpty i l < 0 ∨ (i ≤ firstEmpty i l ∧ firstEmpty i l < i + l.length) := by
  induction l with
  | nil => intro i _; exact .inl (by simp [firstEmpty])
  | cons x t ih =>
    intro i h
    simp only [firstEmpty, List.length_cons]
    split
    · exact .inr ⟨Int.le_refl _, by omega⟩
    · rcases ih (i + 1) (by omega) with h | h
      · exact .inl h
      · exact .inr ⟨by omega, by omega⟩
theorem rdSB_nat (l : List S83) (i : Nat) (h : i < l.length) : rd_T83 l (i : Int) ∈ l := by
  unfold rd_T83
  rw [Int.toNat_natCast, List.getD_eq_getElem?_getD, List.getElem?_eq_getElem h]
  exact List.getElem_mem h
theorem TrimSteps_ex (s : List Int) (hs : s.length ≤ 1048576) (l : List S83) (hl : l.length ≤ 1048576) (hk : ∀ x ∈ l, smStep x) :
    ∃ r : List S83 × Bool, (r.1.length ≤ 1048576 ∧ ∀ x ∈ r.1, smStep x) ∧ Ev (fun k => spec_TrimSteps.f k s l) r ∧ Ev (fun k => impl_TrimSteps.f k s l) r := by
  have hi := impl_FirstEmpty_ev s l hl
  unfold firstEmptyOf at hi
  by_cases g : areLinked s l = true
  rotate_left
  · rw [if_neg g] at hi
    refine ⟨([], false), ⟨by simp, by simp⟩, ?_, ?_⟩
    · simp only [spec_TrimSteps.f]
      exact Ev.bnd (spec_l9Steps_ev s hs l hl hk) (Ev.neg g (Ev.ret _))
    · simp only [impl_TrimSteps.f]
      exact Ev.bnd hi (Ev.neg (by simp) (Ev.ret _))
  rw [if_pos g] at hi
  rcases firstEmpty_lt l 0 (Int.le_refl _) with g2 | g2
  · rw [if_pos g2] at hi
    refine ⟨([], false), ⟨by simp, by simp⟩, ?_, ?_⟩
    · simp only [spec_TrimSteps.f]
      exact Ev.bnd (spec_l9Steps_ev s hs l hl hk) (Ev.pos g (Ev.bnd (spec_l9Empty_ev l hl) (Ev.pos g2 (Ev.ret _))))
    · simp only [impl_TrimSteps.f]
      exact Ev.bnd hi (Ev.neg (by simp) (Ev.ret _))
  rw [if_neg (by omega)] at hi
  have hse := spec_l9Empty_ev l hl
  obtain ⟨a, ea⟩ : ∃ a : Nat, firstEmpty 0 l = (a : Int) := ⟨(firstEmpty 0 l).toNat, by omega⟩
  rw [ea] at hi hse g2
  have hal : a < l.length := by omega
  have hlk : linked l := fun j hj p hp => by
    have h1 := g
    unfold areLinked at h1
    rw [Bool.and_eq_true, Bool.and_eq_true] at h1
    have := linked_of l 0 h1.2.2 j hj p hp
    exact ⟨this.1, by omega⟩
  have hnl := neededOf_len l a
  have hcl : ∀ q ∈ neededOf l a, 0 ≤ q ∧ q < (l.length : Int) ∧ ∀ p ∈ (rd_T83 l q).f1, p ∈ neededOf l a ∧ p < q := fun q hq => by
    have := neededOf_le l a q hq
    exact ⟨this.1, by omega, neededOf_closed l hlk a hal q hq⟩
  refine ⟨((neededOf l a).map (fun i => trimOf (neededOf l a) (rd_T83 l i)), true), ⟨by rw [List.length_map]; omega, ?_⟩, ?_, ?_⟩
  · intro x hx
    obtain ⟨i, hi, rfl⟩ := List.mem_map.1 hx
    have := hcl i hi
    have hsm := rdSB_sm l hk i.toNat (by omega)
    rw [show ((i.toNat : Nat) : Int) = i by omega] at hsm
    exact ⟨by unfold trimOf; rw [List.length_map]; exact hsm.1, hsm.2⟩
  · have ht : Ev (fun k => spec_l9Trim.f k l) ((neededOf l a).map (fun i => trimOf (neededOf l a) (rd_T83 l i))) := by
      simp only [spec_l9Trim.f]
      refine Ev.bnd hse (Ev.bnd (spec_needed_ev l hl hk hlk a hal) (Ev.pos (by omega) (Ev.pos (by omega) ?_)))
      have := trim_l0 l hl hk (neededOf l a) [] (List.replicate l.length 0) (by simp only [List.nil_append]; omega) (by rw [List.length_replicate]) (neededOf_sorted l a) hcl (by simp)
      simpa using this
    simp only [spec_TrimSteps.f]
    exact Ev.bnd (spec_l9Steps_ev s hs l hl hk) (Ev.pos g (Ev.bnd hse (Ev.neg (by omega) (Ev.bnd ht (Ev.ret _)))))
  · simp only [impl_TrimSteps.f]
    refine Ev.bnd hi (Ev.pos rfl (Ev.bnd (impl_needed_ev l hl hk hlk a hal) (Ev.pos ⟨by omega, ?_⟩ (Ev.bnd (rows_ev l _ hk (by omega) _ (fun i hi => ⟨(hcl i hi).1, (hcl i hi).2.1, fun p hp => ((hcl i hi).2.2 p hp).1⟩)) (Ev.ret _)))))
    rw [List.all_eq_true]
    intro x hx
    have := hk x hx
    exact decide_eq_true ⟨this.1, this.2.2.1⟩

theorem FnExactTrimSteps : laws_FnExactTrimSteps.Pure := by
  intro l0 l1 h0 h1
  have hm : (maxLen : Nat) ≤ 9223372036854775807 := by unfold maxLen; omega
  have hs0 : l0.length ≤ 9223372036854775807 := by have := h0.1; omega
  have hs1 : l1.length ≤ 9223372036854775807 := by have := h1.1; omega
  have hok1 : ∀ x ∈ l1, okStepA x := fun x hx => by
    obtain ⟨_, g1, g2, g3⟩ := h1.2 x hx
    exact ⟨by have := g1.1; omega, by have := g2.1; omega, by have := g3.1; omega, fun y hy => by
      obtain ⟨_, f1, f2⟩ := g3.2 y hy
      exact ⟨by have := f1.1; omega, by have := f2.1; omega⟩⟩
  clear h0 h1 hm
  suffices hF : ∃ k, laws_FnExactTrimSteps.Facts k l0 l1 by
    obtain ⟨k, h⟩ := hF
    exact ⟨k, laws_FnExactTrimSteps.f_of h⟩
  have hz0 := szSign_eq l0 1048576 (by omega) (by omega) hs0
  by_cases g0 : (l0.length : Int) ≤ 1048576
  rotate_left
  · exact ⟨0, ⟨-1, by rw [hz0, if_neg g0], .inl (by omega)⟩⟩
  rw [if_pos g0] at hz0
  have hb0 : l0.length ≤ 1048576 := by omega
  obtain ⟨z1, hz1, hzr1, hzk1⟩ := szStepS_ev l1 (1048576 - (l0.length : Int)) (by omega) (by omega) hs1 hok1
  by_cases g1 : z1 < 0
  · obtain ⟨k, ehz1⟩ := (Evp.of hz1).some
    exact ⟨k, ⟨_, hz0, .inr ⟨by omega, ⟨_, ehz1, .inl g1⟩⟩⟩⟩
  obtain ⟨hb1, hkA1⟩ := hzk1 (by omega)
  have hl1 : (l1.map cvStep).length ≤ 1048576 := by rw [List.length_map]; exact hb1
  have hk1 := cvStep_sm hkA1
  obtain ⟨⟨r0, r1⟩, hlen, es, ei⟩ := TrimSteps_ex l0 hb0 (l1.map cvStep) hl1 hk1
  simp only at hlen
  have hT1 := stot_le (l1.map cvStep) hl1 hk1
  have hT9 := stot_le r0 hlen.1 hlen.2
  obtain ⟨k, ehz1, t0, t1, es, ei, q0, q0_, q1_, k0_, mi, hi⟩ := (Evp.and (Evp.of hz1) (Evp.and (Evp.of (toSign_ev l0 hb0)) (Evp.and (Evp.of (toStepS_ev l1 hb1 hkA1)) (Evp.and (Evp.of es) (Evp.and (Evp.of ei) (Evp.and (Evp.of (eqStepS_self r0 hlen.1 hlen.2)) (Evp.and (Evp.of (eqSign_self l0 hb0)) (Evp.and (Evp.of (eqStepS_self _ hl1 hk1)) (Evp.and (Evp.of (markSign_ev l0 1 (by omega) (by omega) (by omega))) (Evp.and (Evp.of (mkStS_ev r0 1 (by omega) (by omega) hlen.2)) (Evp.of (heldStepS_ev r0 1 (by omega) (by omega) hlen.1 hlen.2)))))))))))).some
  exact ⟨k, ⟨_, hz0, .inr ⟨by omega, ⟨_, ehz1, .inr ⟨by omega, ⟨(l1.map cvStep), r0, r1, (1 + (l0.length : Int)), ((1 + (l0.length : Int)) + stot (l1.map cvStep)), _, _, _, ⟨t0, t1, es, ei, q0, q0_, q1_, (by omega), k0_, (by omega), ⟨⟨by omega, rfl, by omega⟩, okMark_of (l1.map cvStep) hk1, by omega⟩, mi, hi, (by omega)⟩⟩⟩⟩⟩⟩⟩

end Go.Proofs.Ytlgnanbnicmdaaa.Pure
