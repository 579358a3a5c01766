/- The program's TermText returns what the reference's returns, for all arguments.
Conditions: none beyond what the row itself says. -/
import Derived.Test.YtgbjmojghcbneabQFnExactTermTextx5
namespace Go.Proofs.Ytgbjmojghcbneab.Pure
open Go.RowKit Go.Proofs.Ytgbjmojghcbneab.QFnExactTermText Go.Proofs.YtgbjmojghcbneabW.PrintWords Go.Proofs.YtgbjmojghcbneabW.PrintLast Go.Proofs.YtgbjmojghcbneabW.PrintMore
set_option linter.unusedVariables false
set_option linter.unusedSimpArgs false

theorem w64 {x : Int} (h0 : -9223372036854775808 ≤ x) (h1 : x ≤ 9223372036854775807) : wrap64 x = x := by
  unfold wrap64; omega
theorem wf64 {a : Int} (h : (Lit.int .i64 a).wf = true) : -9223372036854775808 ≤ a ∧ a ≤ 9223372036854775807 := by
  simp only [Lit.wf, IntKind.min, IntKind.max, IntKind.signed, IntKind.bits, Bool.and_eq_true, decide_eq_true_eq, if_true] at h
  omega

theorem Ev.succ {α : Type} {g : Nat → Option α} {r : α} (h : Ev (fun k => g (k + 1)) r) : Ev g r := Ev.step (fun _ => rfl) h
theorem Ev.pos {α : Type} {c : Prop} [Decidable c] {a b : Nat → Option α} {r : α} (h : c) (e : Ev (fun k => a k) r) : Ev (fun k => if c then a k else b k) r := Ev.congr (fun _ => if_pos h) e
theorem Ev.neg {α : Type} {c : Prop} [Decidable c] {a b : Nat → Option α} {r : α} (h : ¬ c) (e : Ev (fun k => b k) r) : Ev (fun k => if c then a k else b k) r := Ev.congr (fun _ => if_neg h) e
theorem Ev.bnd {α β : Type} {g : Nat → Option α} {f : Nat → α → Option β} {a : α} {r : β} (h : Ev (fun k => g k) a) (k : Ev (fun n => f n a) r) : Ev (fun n => (g n).bind (fun x => f n x)) r := Ev.bind h k
theorem Ev.bnd1 {α β : Type} {g : Option α} {f : Nat → α → Option β} {a : α} {r : β} (h : g = some a) (k : Ev (fun n => f n a) r) : Ev (fun n => g.bind (fun x => f n x)) r := by
  rw [h]; exact k
theorem Ev.ret {α : Type} (r : α) : Ev (fun _ => some r) r := Ev.now r
theorem Ev.eq {α : Type} {g : Nat → Option α} {r r' : α} (h : Ev g r) (e : r = r') : Ev g r' := e ▸ h
theorem Ev.all {α : Type} {g : Nat → Option α} {r : α} (h : Ev (fun k => g k) r) : ∃ k, g k = some r := h.rounds
theorem rd_mid (pre : List Int) (x : Int) (post : List Int) : rd (pre ++ x :: post) (pre.length : Int) = x := by
  unfold rd; simp
theorem rd_nat (xs : List Int) (i : Nat) (h : i < xs.length) : rd xs (i : Int) = xs[i] := by
  unfold rd; simp [List.getD_eq_getElem?_getD, List.getElem?_eq_getElem h]

theorem toIntS_l0 (post : List Int) : ∀ (pre rest : List Int), rest.length = post.length → (pre ++ post).length ≤ 140737488351232 → Ev (fun k => laws_toIntS.l0 k (pre ++ post) (pre ++ rest) (pre.length : Int)) (pre ++ post) := by
  induction post with
  | nil =>
    intro pre rest hr hl
    obtain rfl : rest = [] := List.eq_nil_of_length_eq_zero hr
    refine Ev.succ ?_
    simp only [laws_toIntS.l0]
    exact Ev.neg (by simp) (Ev.ret _)
  | cons x post ih =>
    intro pre rest hr hl
    obtain ⟨y, rest, rfl⟩ : ∃ y t, rest = y :: t := by cases rest with | nil => simp at hr | cons y t => exact ⟨y, t, rfl⟩
    have h := ih (pre ++ [x]) rest (by simpa using hr) (by simpa using hl)
    simp only [List.length_append, List.length_cons, List.length_nil] at hl hr h
    refine Ev.succ ?_
    simp only [laws_toIntS.l0, List.length_append, List.length_cons]
    refine Ev.pos (by omega) (Ev.pos (by omega) (Ev.pos (by omega) ?_))
    rw [rd_mid, w64 (by omega) (by omega)]
    have e : (pre ++ y :: rest).set ((pre.length : Int)).toNat x = pre ++ [x] ++ rest := by simp
    rw [e]
    simpa using h
theorem toIntS (l : List Int) (h : l.length * 8 ≤ 140737488351232) : Ev (fun k => laws_toIntS.f k l) l := by
  simp only [laws_toIntS.f]
  refine Ev.pos (by omega) (Ev.pos (by omega) ?_)
  have := toIntS_l0 l [] (List.replicate l.length 0) (by simp) (by simp; omega)
  simpa using this

theorem eqIntS_l0 (pa : List Int) : ∀ (pa' pb pb' : List Int), pa'.length = pb'.length → pa.length = pb.length → (pa' ++ pa).length ≤ 140737488351232 → Ev (fun k => laws_eqIntS.l0 k (pa' ++ pa) (pb' ++ pb) (pa'.length : Int)) (decide (pa = pb)) := by
  induction pa with
  | nil =>
    intro pa' pb pb' h1 h2 hl
    obtain rfl : pb = [] := List.eq_nil_of_length_eq_zero h2.symm
    refine Ev.succ ?_
    simp only [laws_eqIntS.l0]
    exact Ev.neg (by simp) (Ev.eq (Ev.ret _) (by simp))
  | cons x pa ih =>
    intro pa' pb pb' h1 h2 hl
    obtain ⟨y, pb, rfl⟩ : ∃ y t, pb = y :: t := by cases pb with | nil => simp at h2 | cons y t => exact ⟨y, t, rfl⟩
    have h := ih (pa' ++ [x]) pb (pb' ++ [y]) (by simpa using h1) (by simpa using h2) (by simpa using hl)
    simp only [List.length_append, List.length_cons, List.length_nil] at hl h2 h
    refine Ev.succ ?_
    simp only [laws_eqIntS.l0, List.length_append, List.length_cons]
    refine Ev.pos (by omega) (Ev.pos (by omega) (Ev.pos (by omega) ?_))
    rw [rd_mid, show (pa'.length : Int) = (pb'.length : Int) by omega, rd_mid]
    by_cases e : x = y
    · subst e
      refine Ev.pos rfl ?_
      rw [w64 (by omega) (by omega)]
      refine Ev.eq (Ev.congr (fun k => ?_) h) (by simp)
      simp [h1]
    · exact Ev.neg e (Ev.eq (Ev.ret _) (by simp [e]))
theorem eqIntS (a b : List Int) (h : a.length ≤ 140737488351232) : Ev (fun k => laws_eqIntS.f k a b) (decide (a = b)) := by
  simp only [laws_eqIntS.f]
  by_cases e : a.length = b.length
  · exact Ev.pos (by omega) (by simpa using eqIntS_l0 a [] b [] rfl e (by simpa using h))
  · exact Ev.neg (by omega) (Ev.eq (Ev.ret _) (by simp only [false_eq_decide_iff]; intro h; exact e (by rw [h])))
theorem eqIntS_self (a : List Int) (h : a.length ≤ 140737488351232) : Ev (fun k => laws_eqIntS.f k a a) true := Ev.eq (eqIntS a a h) (by simp)

theorem spec_in_eq (a lo hi : Int) : spec_l1In.f a lo hi = some (decide (lo ≤ a ∧ a ≤ hi)) := by
  unfold spec_l1In.f
  by_cases h1 : a ≥ lo
  · rw [if_pos h1]
    by_cases h2 : a ≤ hi
    · rw [decide_eq_true h2, decide_eq_true ⟨h1, h2⟩]
    · rw [decide_eq_false h2, decide_eq_false (fun h => h2 h.2)]
  · rw [if_neg h1, decide_eq_false (fun h => h1 h.1)]
def inAll (lo hi : Int) (l : List Int) : Bool := l.all fun x => decide (lo ≤ x ∧ x ≤ hi)
theorem spec_l1All_l0 (lo hi : Int) (post : List Int) : ∀ pre : List Int, (pre ++ post).length ≤ 140737488351232 → Ev (fun k => spec_l1All.l0 k lo hi (pre ++ post) ((pre ++ post).length : Int) (pre.length : Int)) (inAll lo hi post) := by
  induction post with
  | nil =>
    intro pre hl
    refine Ev.succ ?_
    simp only [spec_l1All.l0]
    exact Ev.neg (by simp) (Ev.ret _)
  | cons x post ih =>
    intro pre hl
    have h := ih (pre ++ [x]) (by simpa using hl)
    simp only [List.length_append, List.length_cons] at hl
    refine Ev.succ ?_
    simp only [spec_l1All.l0]
    refine Ev.pos (by simp only [List.length_append, List.length_cons]; omega) (Ev.pos (by omega) (Ev.pos (by simp only [List.length_append, List.length_cons]; omega) ?_))
    rw [rd_mid]
    refine Ev.bnd1 (spec_in_eq _ _ _) ?_
    by_cases hx : lo ≤ x ∧ x ≤ hi
    · rw [decide_eq_true hx]
      refine Ev.pos rfl ?_
      rw [w64 (by omega) (by omega)]
      refine Ev.eq (by simpa using h) ?_
      simp [inAll, hx]
    · rw [decide_eq_false hx]
      exact Ev.neg (by simp) (Ev.eq (Ev.ret _) (by simp only [inAll, List.all_cons, decide_eq_false hx, Bool.false_and]))
theorem spec_l1All_ev (lo hi : Int) (l : List Int) (hl : l.length ≤ 140737488351232) : Ev (fun k => spec_l1All.f k l lo hi) (inAll lo hi l) := by
  simp only [spec_l1All.f]
  simpa using spec_l1All_l0 lo hi l [] (by simpa using hl)
theorem inAll_mem {lo hi : Int} {l : List Int} (h : inAll lo hi l = true) : ∀ x ∈ l, lo ≤ x ∧ x ≤ hi := by
  intro x hx
  unfold inAll at h
  simpa using List.all_eq_true.1 h x hx

theorem anyO_not {α : Type} (f : α → Option Bool) (p : α → Bool) (l : List α) (h : ∀ x ∈ l, f x = some (!p x)) : anyO f l = some (!l.all p) := by
  induction l with
  | nil => rfl
  | cons x t ih =>
    simp only [anyO]
    rw [h x (by simp), Option.bind_some]
    cases hp : p x with
    | true => simp [hp, ih (fun y hy => h y (by simp [hy]))]
    | false => simp [hp]

def goodSign (s : List Int) : Bool := decide (1 ≤ s.length ∧ s.length ≤ 10) && (inAll 0 3 s && (rd s 0 == 0))
theorem goodSign_len {s : List Int} (h : goodSign s = true) : 1 ≤ s.length ∧ s.length ≤ 10 := by
  unfold goodSign at h
  simp only [Bool.and_eq_true, decide_eq_true_eq] at h
  exact h.1
theorem goodSign_mem {s : List Int} (h : goodSign s = true) : ∀ x ∈ s, 0 ≤ x ∧ x ≤ 3 := by
  unfold goodSign at h
  simp only [Bool.and_eq_true] at h
  exact inAll_mem h.2.1
theorem goodSign_rd {s : List Int} (h : goodSign s = true) (x : Int) (h0 : 0 ≤ x) (h1 : x < s.length) : 0 ≤ rd s x ∧ rd s x ≤ 3 := by
  obtain ⟨n, rfl⟩ : ∃ n : Nat, x = n := ⟨x.toNat, by omega⟩
  have hn : n < s.length := by omega
  rw [rd_nat s n hn]
  exact goodSign_mem h _ (List.getElem_mem hn)
theorem spec_GoodSign_ev (s : List Int) (hl : s.length ≤ 140737488351232) : Ev (fun k => spec_GoodSign.f k s) (goodSign s) := by
  simp only [spec_GoodSign.f]
  refine Ev.bnd1 (spec_in_eq _ _ _) ?_
  by_cases g : 1 ≤ s.length ∧ s.length ≤ 10
  · have g' : (1 : Int) ≤ (s.length : Int) ∧ (s.length : Int) ≤ 10 := by omega
    refine Ev.pos (decide_eq_true g') (Ev.bnd (spec_l1All_ev 0 3 s hl) ?_)
    unfold goodSign
    rw [decide_eq_true g, Bool.true_and]
    cases ha : inAll 0 3 s with
    | true => exact Ev.pos rfl (Ev.pos (by omega) (Ev.eq (Ev.ret _) rfl))
    | false => exact Ev.neg (by simp) (Ev.eq (Ev.ret _) rfl)
  · have g' : ¬ ((1 : Int) ≤ (s.length : Int) ∧ (s.length : Int) ≤ 10) := by omega
    refine Ev.neg (by rw [decide_eq_false g']; simp) (Ev.eq (Ev.ret _) ?_)
    unfold goodSign
    rw [decide_eq_false g, Bool.false_and]
theorem impl_GoodSign_any (s : List Int) : impl_GoodSign_1_any.f s = some (!inAll 0 3 s) := by
  unfold impl_GoodSign_1_any.f inAll
  refine anyO_not _ _ _ (fun x _ => ?_)
  unfold impl_GoodSign_1.f
  by_cases h1 : x < 0
  · rw [if_pos h1, decide_eq_false (by omega)]; rfl
  · rw [if_neg h1]
    by_cases h2 : x ≤ 3
    · rw [decide_eq_true (show 0 ≤ x ∧ x ≤ 3 by omega), decide_eq_false (by omega)]; rfl
    · rw [decide_eq_false (show ¬ (0 ≤ x ∧ x ≤ 3) by omega), decide_eq_true (by omega)]; rfl
theorem impl_GoodSign_eq (s : List Int) : impl_GoodSign.f s = some (goodSign s) := by
  unfold impl_GoodSign.f goodSign
  by_cases g : 1 ≤ s.length ∧ s.length ≤ 10
  · rw [if_neg (by omega), if_neg (by omega), if_pos (by omega), decide_eq_true g, Bool.true_and]
    by_cases e : rd s 0 = 0
    · rw [if_pos e, impl_GoodSign_any, e]; simp
    · rw [if_neg e]; simp [e]
  · rw [decide_eq_false g, Bool.false_and]
    by_cases h1 : (s.length : Int) < 1
    · rw [if_pos h1]
    · rw [if_neg h1, if_pos (by omega)]

/-! Terms in prefix form. -/
/-- How many arguments a token takes. -/
def ar (s : List Int) (x : Int) : Nat := if x < 0 then 0 else (rd s x).toNat
/-- Whether a number may stand in a term. -/
def tok (s : List Int) (x : Int) : Bool := decide (-12 ≤ x ∧ x < s.length)
/-- What is left of a row when so many terms are read off it. -/
def eat (s : List Int) : List Int → Nat → Option (List Int)
  | l, 0 => some l
  | [], _ + 1 => none
  | x :: l, n + 1 => if tok s x = true then eat s l (n + ar s x) else none
def isTerm (s : List Int) (l : List Int) : Bool := decide (1 ≤ l.length ∧ l.length ≤ 40) && (eat s l 1 == some [])
def goodTerm (s : List Int) (l : List Int) : Bool := goodSign s && isTerm s l
theorem ar_le {s : List Int} (h : goodSign s = true) {x : Int} (ht : tok s x = true) : ar s x ≤ 3 := by
  unfold tok at ht
  simp only [decide_eq_true_eq] at ht
  unfold ar
  by_cases g : x < 0
  · rw [if_pos g]; omega
  · rw [if_neg g]
    have := goodSign_rd h x (by omega) (by omega)
    omega
theorem ar_rd {s : List Int} (h : goodSign s = true) {x : Int} (h0 : 0 ≤ x) (ht : tok s x = true) : rd s x = (ar s x : Int) := by
  unfold tok at ht
  simp only [decide_eq_true_eq] at ht
  unfold ar
  rw [if_neg (by omega)]
  have := goodSign_rd h x (by omega) (by omega)
  omega
theorem eat_suf (s : List Int) (l : List Int) : ∀ (n : Nat) (r : List Int), eat s l n = some r → ∃ c, l = c ++ r := by
  induction l with
  | nil =>
    intro n r h
    cases n with
    | zero => simp only [eat, Option.some.injEq] at h; exact ⟨[], by simp [h]⟩
    | succ n => simp [eat] at h
  | cons x l ih =>
    intro n r h
    cases n with
    | zero => simp only [eat, Option.some.injEq] at h; exact ⟨[], by simp [h]⟩
    | succ n =>
      simp only [eat] at h
      split at h
      · obtain ⟨c, e⟩ := ih _ _ h
        exact ⟨x :: c, by rw [e]; rfl⟩
      · simp at h
theorem eat_zero (s : List Int) (l : List Int) : eat s l 0 = some l := by cases l <;> rfl
theorem eat_split (s : List Int) (l : List Int) : ∀ (n m : Nat) (r : List Int), eat s l (n + m) = some r → ∃ mid, eat s l n = some mid ∧ eat s mid m = some r := by
  induction l with
  | nil =>
    intro n m r h
    cases n with
    | zero => exact ⟨[], eat_zero _ _, by simpa using h⟩
    | succ n => rw [show n + 1 + m = (n + m) + 1 by omega] at h; simp [eat] at h
  | cons x l ih =>
    intro n m r h
    cases n with
    | zero => exact ⟨x :: l, eat_zero _ _, by simpa using h⟩
    | succ n =>
      rw [show n + 1 + m = (n + m) + 1 by omega] at h
      simp only [eat] at h ⊢
      split at h
      · rename_i ht
        rw [if_pos ht]
        exact ih _ _ _ (by rw [← h]; congr 1; omega)
      · simp at h
theorem spec_l1End_l0 (s : List Int) (hs : goodSign s = true) (l : List Int) : ∀ (pre : List Int) (n : Nat), (pre ++ l).length ≤ 1000000000 → n ≤ 3 * pre.length + 3 →
    Ev (fun k => spec_l1End.l0 k (pre ++ l) (pre.length : Int) (n : Int) s) (match eat s l n with | some r => ((pre ++ l).length : Int) - r.length | none => -1) := by
  have hsl := goodSign_len hs
  induction l with
  | nil =>
    intro pre n hl hn
    refine Ev.succ ?_
    simp only [spec_l1End.l0]
    cases n with
    | zero => exact Ev.neg (by simp) (Ev.eq (Ev.ret _) (by simp [eat]))
    | succ n =>
      refine Ev.pos (by omega) (Ev.pos (by simp) (Ev.succ ?_))
      simp only [spec_l1End.j1]
      exact Ev.pos trivial (Ev.eq (Ev.ret _) (by simp [eat]))
  | cons x l ih =>
    intro pre n hl hn
    have hl' := hl
    simp only [List.length_append, List.length_cons] at hl
    refine Ev.succ ?_
    simp only [spec_l1End.l0]
    cases n with
    | zero => exact Ev.neg (by simp) (Ev.eq (Ev.ret _) (by simp only [eat, List.length_append, List.length_cons]; omega))
    | succ n =>
      refine Ev.pos (by omega) (Ev.neg (by simp only [List.length_append, List.length_cons]; omega) (Ev.pos (by omega) (Ev.pos (by simp only [List.length_append, List.length_cons]; omega) ?_)))
      rw [rd_mid, w64 (x := (s.length : Int) - 1) (by omega) (by omega)]
      refine Ev.bnd1 (spec_in_eq _ _ _) (Ev.succ ?_)
      simp only [spec_l1End.j1]
      by_cases g : -12 ≤ x ∧ x ≤ (s.length : Int) - 1
      · have ht : tok s x = true := by unfold tok; exact decide_eq_true (by omega)
        have har := ar_le hs ht
        have h := ih (pre ++ [x]) (n + ar s x) (by simpa using hl') (by simp only [List.length_append, List.length_cons, List.length_nil]; omega)
        refine Ev.neg (by rw [decide_eq_true g]; simp) (Ev.pos (by omega) (Ev.pos (by simp only [List.length_append, List.length_cons]; omega) ?_))
        have e : eat s (x :: l) (n + 1) = eat s l (n + ar s x) := by simp only [eat]; rw [if_pos ht]
        rw [e]
        have e0 : wrap64 ((pre.length : Int) + 1) = (pre.length : Int) + 1 := w64 (by omega) (by omega)
        have e1 : wrap64 (((n + 1 : Nat) : Int) - 1) = (n : Int) := by rw [w64 (by omega) (by omega)]; omega
        rw [rd_mid, e0, e1]
        have h' : Ev (fun k => spec_l1End.l0 k (pre ++ x :: l) ((pre.length : Int) + 1) ((n : Int) + (ar s x : Int)) s) (match eat s l (n + ar s x) with | some r => ((pre ++ x :: l).length : Int) - r.length | none => -1) := by simpa using h
        by_cases g0 : x ≥ 0
        · refine Ev.pos g0 (Ev.pos g0 (Ev.pos (by omega) ?_))
          rw [ar_rd hs g0 ht, w64 (by omega) (by omega)]
          exact h'
        · refine Ev.neg g0 ?_
          have e2 : ar s x = 0 := by unfold ar; rw [if_pos (by omega)]
          rw [e2] at h' ⊢
          simpa using h'
      · have ht : ¬ tok s x = true := by unfold tok; rw [decide_eq_true_eq]; omega
        refine Ev.pos (by rw [decide_eq_false g]; rfl) (Ev.eq (Ev.ret _) ?_)
        simp only [eat]
        rw [if_neg ht]
theorem spec_l1End_ev (s : List Int) (hs : goodSign s = true) (pre l : List Int) (hl : (pre ++ l).length ≤ 1000000000) :
    Ev (fun k => spec_l1End.f k s (pre ++ l) (pre.length : Int)) (match eat s l 1 with | some r => ((pre ++ l).length : Int) - r.length | none => -1) := by
  simp only [spec_l1End.f]
  exact spec_l1End_l0 s hs l pre 1 hl (by omega)
theorem spec_l1Term_ev (s : List Int) (hs : goodSign s = true) (l : List Int) : Ev (fun k => spec_l1Term.f k s l) (isTerm s l) := by
  simp only [spec_l1Term.f]
  refine Ev.bnd1 (spec_in_eq _ _ _) ?_
  unfold isTerm
  by_cases g : 1 ≤ l.length ∧ l.length ≤ 40
  · have g' : (1 : Int) ≤ (l.length : Int) ∧ (l.length : Int) ≤ 40 := by omega
    have h := spec_l1End_ev s hs [] l (by simp; omega)
    refine Ev.pos (decide_eq_true g') (Ev.bnd (by simpa using h) (Ev.eq (Ev.ret _) ?_))
    rw [decide_eq_true g, Bool.true_and]
    cases e : eat s l 1 with
    | none => simp
    | some r =>
      cases r with
      | nil => simp
      | cons y r => simp; omega
  · have g' : ¬ ((1 : Int) ≤ (l.length : Int) ∧ (l.length : Int) ≤ 40) := by omega
    refine Ev.neg (by rw [decide_eq_false g']; simp) (Ev.eq (Ev.ret _) ?_)
    rw [decide_eq_false g, Bool.false_and]
theorem spec_GoodTerm_ev (s l : List Int) (hsl : s.length ≤ 140737488351232) : Ev (fun k => spec_GoodTerm.f k s l) (goodTerm s l) := by
  simp only [spec_GoodTerm.f]
  refine Ev.bnd (spec_GoodSign_ev s hsl) ?_
  unfold goodTerm
  cases hs : goodSign s with
  | true => exact Ev.pos rfl (Ev.bnd (spec_l1Term_ev s hs l) (Ev.eq (Ev.ret _) rfl))
  | false => exact Ev.neg (by simp) (Ev.eq (Ev.ret _) rfl)
theorem impl_args_eq (s : List Int) (hs : goodSign s = true) (x : Int) (ht : tok s x = true) : impl_Sign_args.f s x = some (ar s x : Int) := by
  unfold impl_Sign_args.f
  by_cases g : x < 0
  · rw [if_pos g]; unfold ar; rw [if_pos g]; rfl
  · have ht' := ht
    unfold tok at ht'
    simp only [decide_eq_true_eq] at ht'
    rw [if_neg g, if_pos (by omega), if_pos (by omega), ar_rd hs (by omega) ht]
theorem impl_isTerm_l0 (s : List Int) (hs : goodSign s = true) (l : List Int) : ∀ (pre : List Int) (n : Nat), (pre ++ l).length ≤ 1000000 → n ≤ 3 * pre.length + 3 →
    Ev (fun k => impl_Sign_isTerm.l0 k (n : Int) (pre ++ l) ((pre ++ l).length : Int) (pre.length : Int) s) (eat s l n == some []) := by
  have hsl := goodSign_len hs
  induction l with
  | nil =>
    intro pre n hl hn
    refine Ev.succ ?_
    simp only [impl_Sign_isTerm.l0]
    refine Ev.neg (by simp) (Ev.eq (Ev.ret _) ?_)
    cases n with
    | zero => rfl
    | succ n => first | (simp [eat]; done) | (simp [eat]; omega)
  | cons x l ih =>
    intro pre n hl hn
    have hl' := hl
    simp only [List.length_append, List.length_cons] at hl
    refine Ev.succ ?_
    simp only [impl_Sign_isTerm.l0]
    refine Ev.pos (by simp only [List.length_append, List.length_cons]; omega) (Ev.pos (by omega) (Ev.pos (by simp only [List.length_append, List.length_cons]; omega) ?_))
    cases n with
    | zero => exact Ev.pos rfl (Ev.eq (Ev.ret _) (by simp [eat]))
    | succ n =>
      refine Ev.neg (by omega) ?_
      rw [rd_mid]
      by_cases g1 : x < -12
      · refine Ev.pos g1 (Ev.eq (Ev.ret _) ?_)
        have ht : ¬ tok s x = true := by unfold tok; rw [decide_eq_true_eq]; omega
        simp only [eat]
        rw [if_neg ht]; rfl
      · refine Ev.neg g1 ?_
        by_cases g2 : x ≥ (s.length : Int)
        · refine Ev.pos g2 (Ev.eq (Ev.ret _) ?_)
          have ht : ¬ tok s x = true := by unfold tok; rw [decide_eq_true_eq]; omega
          simp only [eat]
          rw [if_neg ht]; rfl
        · refine Ev.neg g2 ?_
          have ht : tok s x = true := by unfold tok; exact decide_eq_true (by omega)
          have har := ar_le hs ht
          have h := ih (pre ++ [x]) (n + ar s x) (by simpa using hl') (by simp only [List.length_append, List.length_cons, List.length_nil]; omega)
          refine Ev.bnd1 (impl_args_eq s hs x ht) ?_
          have e0 : wrap64 ((pre.length : Int) + 1) = (pre.length : Int) + 1 := w64 (by omega) (by omega)
          have e1 : wrap64 ((ar s x : Int) - 1) = (ar s x : Int) - 1 := w64 (by omega) (by omega)
          have e2 : wrap64 (((n + 1 : Nat) : Int) + ((ar s x : Int) - 1)) = (n : Int) + (ar s x : Int) := by rw [w64 (by omega) (by omega)]; omega
          rw [e0, e1, e2]
          refine Ev.eq (by simpa using h) ?_
          simp only [eat]
          rw [if_pos ht]
theorem impl_isTerm_ev (s : List Int) (hs : goodSign s = true) (l : List Int) : Ev (fun k => impl_Sign_isTerm.f k s l) (isTerm s l) := by
  simp only [impl_Sign_isTerm.f]
  unfold isTerm
  by_cases g : l.length > 40
  · refine Ev.pos (by omega) (Ev.eq (Ev.ret _) ?_)
    rw [decide_eq_false (by omega), Bool.false_and]
  · refine Ev.neg (by omega) ?_
    have h := impl_isTerm_l0 s hs l [] 1 (by simp; omega) (by omega)
    refine Ev.eq (by simpa using h) ?_
    cases l with
    | nil => simp [eat]
    | cons x l => rw [decide_eq_true (show 1 ≤ (x :: l).length ∧ (x :: l).length ≤ 40 by simp only [List.length_cons] at g ⊢; omega), Bool.true_and]
theorem impl_GoodTerm_ev (s l : List Int) : Ev (fun k => impl_GoodTerm.f k s l) (goodTerm s l) := by
  simp only [impl_GoodTerm.f]
  refine Ev.bnd1 (impl_GoodSign_eq s) ?_
  unfold goodTerm
  cases hs : goodSign s with
  | true => exact Ev.pos rfl (Ev.bnd (impl_isTerm_ev s hs l) (Ev.eq (Ev.ret _) rfl))
  | false => exact Ev.neg (by simp) (Ev.eq (Ev.ret _) rfl)

theorem son_append (xs ys : List Int) : strOfNums xs ++ strOfNums ys = strOfNums (xs ++ ys) := by
  apply ByteArray.ext
  simp [strOfNums]
theorem son_nil : (⟨#[]⟩ : ByteArray) = strOfNums [] := by simp [strOfNums]
/-- The base-128 digits of a number, as bytes. -/
def vbytes (n : Nat) : List Int := if n < 128 then [(n : Int)] else ((n % 128 + 128 : Nat) : Int) :: vbytes (n / 128)
termination_by n
decreasing_by omega
theorem vbytes_lt {n : Nat} (h : n < 128) : vbytes n = [(n : Int)] := by rw [vbytes, if_pos h]
theorem vbytes_ge {n : Nat} (h : ¬ n < 128) : vbytes n = ((n % 128 + 128 : Nat) : Int) :: vbytes (n / 128) := by rw [vbytes, if_neg h]
theorem vbytes_pos (n : Nat) : 0 < (vbytes n).length := by
  rw [vbytes]; split <;> simp
theorem vbytes_len (n : Nat) : (vbytes n).length ≤ n + 1 := by
  induction n using Nat.strongRecOn with
  | _ n ih =>
    by_cases h : n < 128
    · rw [vbytes_lt h]; simp
    · rw [vbytes_ge h]
      have := ih (n / 128) (by omega)
      simp only [List.length_cons]
      omega
theorem tdiv_nat (n m : Nat) : Int.tdiv (n : Int) (m : Int) = ((n / m : Nat) : Int) := rfl
theorem tmod_nat (n m : Nat) : Int.tmod (n : Int) (m : Int) = ((n % m : Nat) : Int) := rfl

/-! Strings as lists of numbers. -/
theorem bo_size (s : ByteArray) : (bytesOf s).length = s.size := by
  unfold bytesOf; rw [List.length_map, data_length]
theorem bo_range (s : ByteArray) : ∀ x ∈ bytesOf s, 0 ≤ x ∧ x ≤ 255 := by
  intro x hx
  unfold bytesOf at hx
  obtain ⟨b, _, rfl⟩ := List.mem_map.1 hx
  have := b.toNat_lt
  omega
theorem bo_son (xs : List Int) (h : ∀ x ∈ xs, 0 ≤ x ∧ x ≤ 255) : bytesOf (strOfNums xs) = xs := by
  unfold bytesOf
  rw [strOfNums_data, List.map_map]
  conv => rhs; rw [← List.map_id xs]
  apply List.map_congr_left
  intro x hx
  have := h x hx
  simp only [Function.comp_apply, id_eq, UInt8.toNat_ofNat']
  omega
theorem son_bo (s : ByteArray) : strOfNums (bytesOf s) = s := by
  apply ByteArray.ext
  apply Array.toList_inj.1
  rw [strOfNums_data]
  unfold bytesOf
  rw [List.map_map]
  conv => rhs; rw [← List.map_id s.data.toList]
  apply List.map_congr_left
  intro x _
  simp
theorem bo_inj {a b : ByteArray} (h : bytesOf a = bytesOf b) : a = b := by rw [← son_bo a, ← son_bo b, h]
theorem toList_iff (a b : ByteArray) : a.toList = b.toList ↔ a = b := by
  rw [ByteArray.toList_eq, ByteArray.toList_eq]
  exact ⟨fun h => ByteArray.ext (Array.toList_inj.1 h), fun h => by rw [h]⟩
theorem son_inj {xs ys : List Int} (hx : ∀ x ∈ xs, 0 ≤ x ∧ x ≤ 255) (hy : ∀ x ∈ ys, 0 ≤ x ∧ x ≤ 255) (h : strOfNums xs = strOfNums ys) : xs = ys := by
  rw [← bo_son xs hx, ← bo_son ys hy, h]
theorem bo_append (a b : ByteArray) : bytesOf (a ++ b) = bytesOf a ++ bytesOf b := by
  unfold bytesOf; simp
theorem bo_extract (s : ByteArray) (a b : Nat) : bytesOf (s.extract a b) = ((bytesOf s).take b).drop a := by
  unfold bytesOf
  rw [ByteArray.data_extract, Array.toList_extract, List.extract_eq_take_drop, ← List.map_take, ← List.map_drop, List.drop_take]
theorem bo_bt (s : ByteArray) (i : Int) : bt s i = (bytesOf s).getD i.toNat 0 := by
  unfold bt bytesOf
  split
  · rename_i h
    rw [List.getD_eq_getElem?_getD, List.getElem?_map, List.getElem?_eq_getElem (by rw [data_length]; exact h)]
    rfl
  · rename_i h
    rw [List.getD_eq_getElem?_getD, List.getElem?_map, List.getElem?_eq_none (by rw [data_length]; omega)]
    rfl
theorem bo_empty : bytesOf (⟨#[]⟩ : ByteArray) = [] := rfl
theorem son_cut (s : ByteArray) (a : Int) (n : Nat) (h0 : 0 ≤ a) (h : a + n ≤ s.size) :
    strOfNums ((List.range n).map fun (j : Nat) => bt s (a + (j : Int))) = s.extract a.toNat (a + n).toNat := by
  apply bo_inj
  rw [bo_son _ (fun x hx => by obtain ⟨j, _, rfl⟩ := List.mem_map.1 hx; exact bt_range _ _), bo_extract]
  apply List.ext_getElem
  · simp only [List.length_map, List.length_range, List.length_drop, List.length_take, bo_size]; omega
  · intro j h1 h2
    simp only [List.length_map, List.length_range] at h1
    rw [List.getElem_map, List.getElem_range, List.getElem_drop, List.getElem_take, bo_bt, List.getD_eq_getElem?_getD, List.getElem?_eq_getElem (by rw [bo_size]; omega)]
    simp only [Option.getD_some]
    congr 1
    omega

/-! The text of a term. -/
theorem son_size (xs : List Int) : (strOfNums xs).size = xs.length := strOfNums_size xs
/-- Texts in a row, each with its mark ahead: `c` ahead of the first, a comma ahead of the others. -/
def jn : Int → List (List Int) → List Int
  | _, [] => []
  | c, o :: t => c :: o ++ jn 44 t
/-- A term's text out of its arguments' texts. -/
def rend (s : List Int) (x : Int) (outs : List (List Int)) : List Int :=
  if x < 0 then [64 - x] else (97 + x) :: (jn 40 outs ++ if 0 < ar s x then [41] else [])
/-- `n` terms ahead in the row `l`, with `r` behind them, and their texts. -/
inductive PT (s : List Int) : Nat → List Int → List Int → List (List Int) → Prop
  | nil (l : List Int) : PT s 0 l l []
  | cons (x : Int) (n : Nat) (l mid r : List Int) (ts os : List (List Int)) : tok s x = true → PT s (ar s x) l mid ts → PT s n mid r os → PT s (n + 1) (x :: l) r (rend s x ts :: os)
theorem PT.eat {s : List Int} {n : Nat} {l r : List Int} {os : List (List Int)} (h : PT s n l r os) : ∀ m, Pure.eat s l (n + m) = Pure.eat s r m := by
  induction h with
  | nil l => intro m; rw [Nat.zero_add]
  | cons x n l mid r ts os ht h1 h2 ih1 ih2 =>
    intro m
    rw [show n + 1 + m = (n + m) + 1 by omega]
    simp only [Pure.eat]
    rw [if_pos ht, show n + m + ar s x = ar s x + (n + m) by omega, ih1, ih2]
theorem PT.suf {s : List Int} {n : Nat} {l r : List Int} {os : List (List Int)} (h : PT s n l r os) : ∃ c, l = c ++ r := by
  have := h.eat 0
  rw [eat_zero] at this
  exact eat_suf s l _ r this
theorem PT.outs {s : List Int} {n : Nat} {l r : List Int} {os : List (List Int)} (h : PT s n l r os) : os.length = n := by
  induction h with
  | nil l => rfl
  | cons x n l mid r ts os ht h1 h2 ih1 ih2 => simp [ih2]
theorem PT.size {s : List Int} {n : Nat} {l r : List Int} {os : List (List Int)} (h : PT s n l r os) : ∀ c, (jn c os).length + 3 * r.length ≤ 3 * l.length := by
  induction h with
  | nil l => intro c; simp [jn]
  | cons x n l mid r ts os ht h1 h2 ih1 ih2 =>
    intro c
    have h1 := ih1 40
    have h2 := ih2 44
    have h3 : (rend s x ts).length ≤ 2 + (jn 40 ts).length := by
      unfold rend
      split
      · simp only [List.length_cons, List.length_nil]; omega
      · simp only [List.length_cons, List.length_append]
        split <;> simp <;> omega
    simp only [jn, List.length_cons, List.length_append]
    omega
theorem PT.ex {s : List Int} (N : Nat) : ∀ (l : List Int) (n : Nat) (r : List Int), l.length ≤ N → Pure.eat s l n = some r → ∃ os, PT s n l r os := by
  induction N with
  | zero =>
    intro l n r hl h
    obtain rfl : l = [] := List.eq_nil_of_length_eq_zero (by omega)
    cases n with
    | zero => rw [eat_zero] at h; obtain rfl := Option.some.inj h; exact ⟨[], .nil _⟩
    | succ n => simp [Pure.eat] at h
  | succ N ih =>
    intro l n r hl h
    cases n with
    | zero => rw [eat_zero] at h; obtain rfl := Option.some.inj h; exact ⟨[], .nil _⟩
    | succ n =>
      cases l with
      | nil => simp [Pure.eat] at h
      | cons x l =>
        simp only [Pure.eat] at h
        split at h
        · rename_i ht
          rw [show n + ar s x = ar s x + n by omega] at h
          obtain ⟨mid, e1, e2⟩ := eat_split s l _ _ _ h
          simp only [List.length_cons] at hl
          obtain ⟨ts, h1⟩ := ih l _ _ (by omega) e1
          obtain ⟨c, hc⟩ := h1.suf
          have hm : mid.length ≤ l.length := by rw [hc]; simp
          obtain ⟨os, h2⟩ := ih mid _ _ (by omega) e2
          exact ⟨_, .cons x n l mid r ts os ht h1 h2⟩
        · simp at h
theorem tok_range {s : List Int} (hs : goodSign s = true) {x : Int} (ht : tok s x = true) : -12 ≤ x ∧ x < s.length ∧ x < 10 := by
  have := goodSign_len hs
  unfold tok at ht
  simp only [decide_eq_true_eq] at ht
  omega
/-- One term, by the program: given that its arguments' loop runs. -/
theorem impl_text_one (s : List Int) (hs : goodSign s = true) (x : Int) (ht : tok s x = true) (pre l mid : List Int) (ts : List (List Int)) (acc : List Int) (hl : (pre ++ x :: l).length ≤ 100000) (ha : acc.length ≤ 1000000)
    (ih : ∀ acc' : List Int, acc'.length = acc.length + 1 → Ev (fun k => impl_Sign_text.l0 k acc' (pre ++ x :: l) x ((pre.length : Int) + 1) (ar s x : Int) 0 s) (acc' ++ jn 40 ts ++ (if 0 < ar s x then [41] else []), ((pre ++ x :: l).length : Int) - mid.length))
    (hmid : x < 0 → l = mid) :
    Ev (fun k => impl_Sign_text.f k s acc (pre ++ x :: l) (pre.length : Int)) (acc ++ rend s x ts, ((pre ++ x :: l).length : Int) - mid.length) := by
  have hr := tok_range hs ht
  have hl2 := hl
  simp only [List.length_append, List.length_cons] at hl2
  have e0 : wrap64 ((pre.length : Int) + 1) = (pre.length : Int) + 1 := w64 (by omega) (by omega)
  have e1 : wrap64 (-1 - x) = -1 - x := w64 (by omega) (by omega)
  refine Ev.succ ?_
  simp only [impl_Sign_text.f]
  refine Ev.pos (by omega) (Ev.pos (by simp only [List.length_append, List.length_cons]; omega) ?_)
  rw [rd_mid, e0, e1]
  clear e0 e1
  by_cases g : x < 0
  · refine Ev.pos g (Ev.pos (by omega) (Ev.eq (Ev.ret _) ?_))
    unfold rend
    rw [if_pos g]
    have e2 : (65 + (-1 - x)) % 256 = 64 - x := by omega
    rw [e2]
    clear e2
    have := hmid g
    subst this
    simp only [List.length_append, List.length_cons]
    congr 1
    omega
  · refine Ev.neg g (Ev.pos (by omega) (Ev.bnd1 (impl_args_eq s hs x ht) ?_))
    have e2 : (97 + x) % 256 = 97 + x := by omega
    rw [e2]
    clear e2
    refine Ev.eq (ih (acc ++ [97 + x]) (by simp)) ?_
    unfold rend
    rw [if_neg g]
    simp
theorem PT.zero {s : List Int} {x : Int} (hx : x < 0) {l mid : List Int} {ts : List (List Int)} (h : PT s (ar s x) l mid ts) : l = mid := by
  have h' := h.eat 0
  have : ar s x = 0 := by unfold ar; rw [if_pos hx]
  rw [this, eat_zero, eat_zero] at h'
  exact Option.some.inj h'
theorem impl_text_l0 (s : List Int) (hs : goodSign s = true) {n : Nat} {l r : List Int} {os : List (List Int)} (h : PT s n l r os) : ∀ (pre full : List Int) (x0 : Int) (N : Nat) (acc : List Int), full = pre ++ l → tok s x0 = true → n ≤ N → N ≤ 3 → N = ar s x0 → full.length ≤ 100000 → acc.length + 3 * l.length ≤ 1000000 - 7 →
    Ev (fun k => impl_Sign_text.l0 k acc full x0 (pre.length : Int) (N : Int) ((N - n : Nat) : Int) s) (acc ++ jn (if n = N then 40 else 44) os ++ (if 0 < ar s x0 then [41] else []), (full.length : Int) - r.length) := by
  induction h with
  | nil l =>
    intro pre full x0 N acc hf ht hn hN hx hl ha
    refine Ev.succ ?_
    simp only [impl_Sign_text.l0]
    refine Ev.neg (by omega) (Ev.bnd1 (impl_args_eq s hs x0 ht) ?_)
    subst hf
    by_cases g : 0 < ar s x0
    · refine Ev.pos (by omega) (Ev.pos (by omega) (Ev.eq (Ev.ret _) ?_))
      rw [if_pos g]; simp only [jn, List.append_nil, List.length_append]; congr 1; omega
    · refine Ev.neg (by omega) (Ev.eq (Ev.ret _) ?_)
      rw [if_neg g]; simp only [jn, List.append_nil, List.length_append]; congr 1; omega
  | cons x n l mid r ts os ht h1 h2 ih1 ih2 =>
    intro pre full x0 N acc hf ht0 hn hN hx hl ha
    obtain ⟨c, hc⟩ := h1.suf
    have hs1 := h1.size 40
    have har := ar_le hs ht
    simp only [List.length_cons] at ha
    have hl' := hl
    rw [hf] at hl'
    have hl2 := hl'
    simp only [List.length_append, List.length_cons] at hl2
    have one : ∀ acc : List Int, acc.length + 3 * l.length ≤ 1000000 - 9 → Ev (fun k => impl_Sign_text.f k s acc full (pre.length : Int)) (acc ++ rend s x ts, (full.length : Int) - mid.length) := by
      intro acc ha
      rw [hf]
      have hp := h1
      refine impl_text_one s hs x ht pre l mid ts acc hl' (by omega) (fun acc' ha' => ?_) (fun hx => hp.zero hx)
      have h := ih1 (pre ++ [x]) (pre ++ x :: l) x (ar s x) acc' (by simp) ht (by omega) har rfl hl' (by omega)
      rw [if_pos rfl] at h
      simpa using h
    have e0 : wrap64 (((N - (n + 1) : Nat) : Int) + 1) = ((N - n : Nat) : Int) := by rw [w64 (by omega) (by omega)]; omega
    have hfull : full = (pre ++ x :: c) ++ mid := by rw [hf, hc]; simp
    have hpos : (full.length : Int) - mid.length = ((pre ++ x :: c).length : Int) := by rw [hfull]; simp only [List.length_append, List.length_cons]; omega
    have hlc : l.length = c.length + mid.length := by rw [hc]; simp
    have hrs : (rend s x ts).length ≤ 2 + (jn 40 ts).length := by
      unfold rend
      split
      · simp only [List.length_cons, List.length_nil]; omega
      · simp only [List.length_cons, List.length_append]
        split <;> simp <;> omega
    have next : ∀ ch : Int, Ev (fun k => impl_Sign_text.l0 k (acc ++ [ch] ++ rend s x ts) full x0 ((full.length : Int) - mid.length) (N : Int) (((N - n : Nat) : Int)) s) (acc ++ (ch :: rend s x ts ++ jn 44 os) ++ (if 0 < ar s x0 then [41] else []), (full.length : Int) - r.length) := by
      intro ch
      have h := ih2 (pre ++ x :: c) full x0 N (acc ++ [ch] ++ rend s x ts) hfull ht0 (by omega) hN hx hl (by simp only [List.length_append, List.length_cons, List.length_nil]; omega)
      rw [if_neg (by omega)] at h
      rw [hpos]
      refine Ev.eq h ?_
      simp
    refine Ev.succ ?_
    simp only [impl_Sign_text.l0]
    rw [e0]
    clear e0
    refine Ev.pos (by omega) ?_
    simp only [jn]
    by_cases g : n + 1 = N
    · rw [if_pos g]
      refine Ev.pos (by omega) (Ev.pos (by omega) (Ev.bnd (one (acc ++ [40]) (by simp only [List.length_append, List.length_cons, List.length_nil]; omega)) (next 40)))
    · rw [if_neg g]
      refine Ev.neg (by omega) (Ev.pos (by omega) (Ev.bnd (one (acc ++ [44]) (by simp only [List.length_append, List.length_cons, List.length_nil]; omega)) (next 44)))
theorem impl_termText (s l : List Int) (hg : goodTerm s l = true) : ∃ o, PT s 1 l [] [o] ∧ Ev (fun k => impl_Sign_termText.f k s l) (strOfNums o) := by
  unfold goodTerm isTerm at hg
  simp only [Bool.and_eq_true, decide_eq_true_eq, beq_iff_eq] at hg
  obtain ⟨hs, hl, he⟩ := hg
  obtain ⟨os, h⟩ := PT.ex l.length l 1 [] (by omega) he
  cases h with
  | cons x n l mid r ts os ht h1 h2 =>
    cases h2
    refine ⟨_, .cons x 0 l [] [] ts [] ht h1 (.nil _), ?_⟩
    simp only [impl_Sign_termText.f]
    have h := impl_text_one s hs x ht [] l [] ts [] (by simp only [List.nil_append]; omega) (by simp) (fun acc' ha' => ?_) (fun hx => h1.zero hx)
    · exact Ev.bnd (by simpa using h) (Ev.ret _)
    · simp only [List.length_nil] at ha'
      simp only [List.length_cons] at hl
      have h := impl_text_l0 s hs h1 [x] (x :: l) x (ar s x) acc' (by simp) ht (by omega) (ar_le hs ht) rfl (by simp only [List.length_cons]; omega) (by omega)
      rw [if_pos rfl] at h
      simpa using h
/-- The reference's arguments' places. -/
theorem spec_text_join (s full : List Int) (p0 : Int) (x : Int) (hs : goodSign s = true) (ht : tok s x = true) (hx : 0 ≤ x) (hp : 0 ≤ p0 ∧ p0 < full.length) (hrd : rd full p0 = x) (qs : List (Int × List Int)) :
    ∀ (acc : List Int) (done : List Int), (done ++ qs.map Prod.fst).length ≤ 1000 → (∀ q ∈ qs, Ev (fun k => spec_l1TermText.f k s full q.1) (strOfNums q.2)) → acc.length + (jn 44 (qs.map Prod.snd)).length ≤ 1000000 →
    Ev (fun k => spec_l1TermText.l0 k full p0 (strOfNums acc) (done ++ qs.map Prod.fst) ((done ++ qs.map Prod.fst).length : Int) (done.length : Int) s) (strOfNums (acc ++ jn (if done = [] then 40 else 44) (qs.map Prod.snd) ++ (if 0 < ar s x then [41] else []))) := by
  have hr := tok_range hs ht
  induction qs with
  | nil =>
    intro acc done hl hq ha
    simp only [List.map_nil, jn, List.length_nil, Nat.add_zero] at ha
    refine Ev.succ ?_
    simp only [spec_l1TermText.l0]
    refine Ev.neg (by simp) (Ev.pos hp.1 (Ev.pos hp.2 ?_))
    rw [hrd]
    refine Ev.pos hx (Ev.pos hr.2.1 ?_)
    rw [ar_rd hs hx ht]
    by_cases g : 0 < ar s x
    · refine Ev.pos (by omega) (Ev.pos (by rw [son_size]; omega) (Ev.eq (Ev.ret _) ?_))
      rw [if_pos g, show (⟨#[41]⟩ : ByteArray) = strOfNums [41] from rfl, son_append]
      simp [jn]
    · refine Ev.neg (by omega) (Ev.eq (Ev.ret _) ?_)
      rw [if_neg g]
      simp [jn]
  | cons q qs ih =>
    intro acc done hl hq ha
    have hl' := hl
    simp only [List.map_cons, List.length_append, List.length_cons] at hl
    simp only [List.map_cons, jn, List.length_cons, List.length_append] at ha
    have hq1 := hq q (by simp)
    have next : ∀ ch : Int, Ev (fun k => spec_l1TermText.l0 k full p0 (strOfNums (acc ++ [ch] ++ q.2)) (done ++ (q :: qs).map Prod.fst) ((done ++ (q :: qs).map Prod.fst).length : Int) ((done.length : Int) + 1) s) (strOfNums (acc ++ (ch :: q.2 ++ jn 44 (qs.map Prod.snd)) ++ (if 0 < ar s x then [41] else []))) := by
      intro ch
      have h := ih (acc ++ [ch] ++ q.2) (done ++ [q.1]) (by simpa using hl') (fun q' h' => hq q' (by simp [h'])) (by simp only [List.length_append, List.length_cons, List.length_nil]; omega)
      rw [if_neg (by simp)] at h
      simpa using h
    have e0 : wrap64 ((done.length : Int) + 1) = (done.length : Int) + 1 := w64 (by omega) (by omega)
    refine Ev.succ ?_
    simp only [spec_l1TermText.l0]
    rw [e0]
    clear e0
    refine Ev.pos (by simp only [List.map_cons, List.length_append, List.length_cons]; omega) (Ev.pos (by omega) (Ev.pos (by simp only [List.map_cons, List.length_append, List.length_cons]; omega) ?_))
    rw [List.map_cons, rd_mid, List.map_cons, jn]
    by_cases g : done = []
    · rw [if_pos g]
      refine Ev.pos (by simp [g]) (Ev.pos (by rw [son_size]; omega) (Ev.bnd hq1 (Ev.pos ?_ ?_)))
      · rw [show (⟨#[40]⟩ : ByteArray) = strOfNums [40] from rfl, son_append, son_size, son_size]; simp only [List.length_append, List.length_cons, List.length_nil]; omega
      · rw [show (⟨#[40]⟩ : ByteArray) = strOfNums [40] from rfl, son_append, son_append]
        exact next 40
    · rw [if_neg g]
      have hd : 0 < done.length := List.length_pos_iff.2 g
      refine Ev.neg (by omega) (Ev.pos (by rw [son_size]; omega) (Ev.bnd hq1 (Ev.pos ?_ ?_)))
      · rw [show (⟨#[44]⟩ : ByteArray) = strOfNums [44] from rfl, son_append, son_size, son_size]; simp only [List.length_append, List.length_cons, List.length_nil]; omega
      · rw [show (⟨#[44]⟩ : ByteArray) = strOfNums [44] from rfl, son_append, son_append]
        exact next 44
theorem spec_text_forest (s : List Int) (hs : goodSign s = true) {n : Nat} {l r : List Int} {os : List (List Int)} (h : PT s n l r os) : ∀ (pre full : List Int), full = pre ++ l → full.length ≤ 1000 → n ≤ 3 →
    ∃ qs : List (Int × List Int), qs.map Prod.snd = os ∧ (∀ q ∈ qs, Ev (fun k => spec_l1TermText.f k s full q.1) (strOfNums q.2)) ∧
      (0 < n → ∃ o t, qs = ((pre.length : Int), o) :: t) ∧ ∀ acc : List Int, acc.length + n ≤ 1000 → Ev (fun k => spec_l1Args.l0 k full acc (pre.length : Int) (n : Int) s) (acc ++ qs.map Prod.fst) := by
  induction h with
  | nil l =>
    intro pre full hf hl hn
    refine ⟨[], rfl, by simp, by simp, fun acc ha => Ev.succ ?_⟩
    simp only [spec_l1Args.l0]
    exact Ev.neg (by simp) (Ev.eq (Ev.ret _) (by simp))
  | cons x n l mid r ts os ht h1 h2 ih1 ih2 =>
    intro pre full hf hl hn
    obtain ⟨c, hc⟩ := h1.suf
    have har := ar_le hs ht
    have hr := tok_range hs ht
    have hl2 := hl
    rw [hf] at hl2
    simp only [List.length_append, List.length_cons] at hl2
    have hfull : full = (pre ++ x :: c) ++ mid := by rw [hf, hc]; simp
    have hpos : (full.length : Int) - mid.length = ((pre ++ x :: c).length : Int) := by rw [hfull]; simp only [List.length_append, List.length_cons]; omega
    obtain ⟨qs1, e1, t1, _, a1⟩ := ih1 (pre ++ [x]) full (by rw [hf]; simp) hl har
    obtain ⟨qs2, e2, t2, _, a2⟩ := ih2 (pre ++ x :: c) full hfull hl (by omega)
    have hrd : rd full (pre.length : Int) = x := by rw [hf, rd_mid]
    have hp : 0 ≤ (pre.length : Int) ∧ (pre.length : Int) < full.length := by rw [hf]; simp only [List.length_append, List.length_cons]; omega
    refine ⟨((pre.length : Int), rend s x ts) :: qs2, by simp [e2], ?_, fun _ => ⟨_, _, rfl⟩, ?_⟩
    · intro q hq
      rcases List.mem_cons.1 hq with rfl | hq
      · refine Ev.succ ?_
        simp only [spec_l1TermText.f]
        refine Ev.pos hp.1 (Ev.pos hp.2 ?_)
        rw [hrd]
        by_cases g : x < 0
        · refine Ev.pos g (Ev.eq (Ev.ret _) ?_)
          have e3 : (wrap64 (65 + (wrap64 (-1 - x)))) % 256 = 64 - x := by
            rw [w64 (x := -1 - x) (by omega) (by omega), w64 (by omega) (by omega)]; omega
          rw [e3]
          clear e3
          unfold rend
          rw [if_pos g]
        · have e3 : (wrap64 (97 + x)) % 256 = 97 + x := by
            rw [w64 (by omega) (by omega)]; omega
          refine Ev.neg g ?_
          rw [e3]
          clear e3
          have h2 : Ev (fun k => spec_l1Args.f k s full (pre.length : Int)) (qs1.map Prod.fst) := by
            simp only [spec_l1Args.f]
            refine Ev.pos hp.1 (Ev.pos hp.2 ?_)
            rw [hrd, w64 (x := (pre.length : Int) + 1) (by omega) (by omega)]
            refine Ev.neg g (Ev.pos (by omega) (Ev.pos hr.2.1 ?_))
            rw [ar_rd hs (by omega) ht]
            simpa using a1 [] (by simp only [List.length_nil]; omega)
          have hsz := h1.size 44
          have hm : l.length ≤ 1000 := by omega
          have hlen : qs1.length = ar s x := by rw [← h1.outs, ← e1, List.length_map]
          have h3 := spec_text_join s full (pre.length : Int) x hs ht (by omega) hp hrd qs1 [97 + x] [] (by simp only [List.nil_append, List.length_map]; omega) t1 (by rw [e1]; simp only [List.length_cons, List.length_nil]; omega)
          refine Ev.bnd h2 ?_
          refine Ev.eq (by simpa using h3) ?_
          rw [e1]
          unfold rend
          rw [if_neg g]
          try simp
      · exact t2 q hq
    · intro acc ha
      refine Ev.succ ?_
      simp only [spec_l1Args.l0]
      have he := h1.eat 0
      rw [eat_zero, Nat.add_zero] at he
      have hend := spec_l1End_ev s hs pre (x :: l) (by rw [← hf]; omega)
      rw [show Pure.eat s (x :: l) 1 = some mid by simp only [Pure.eat]; rw [if_pos ht, Nat.zero_add, he], ← hf] at hend
      have e4 : wrap64 (((n + 1 : Nat) : Int) - 1) = (n : Int) := by rw [w64 (by omega) (by omega)]; omega
      rw [e4]
      clear e4
      refine Ev.pos (by omega) (Ev.pos (by omega) (Ev.bnd hend ?_))
      have h := a2 (acc ++ [(pre.length : Int)]) (by simp only [List.length_append, List.length_cons, List.length_nil]; omega)
      rw [← hpos] at h
      simpa using h
theorem spec_termText (s l o : List Int) (hs : goodSign s = true) (hl : l.length ≤ 1000) (h : PT s 1 l [] [o]) : Ev (fun k => spec_l1TermText.f k s l 0) (strOfNums o) := by
  obtain ⟨qs, e, t, e2, _⟩ := spec_text_forest s hs h [] l rfl hl (by omega)
  obtain ⟨o', t', rfl⟩ := e2 (by omega)
  simp only [List.map_cons, List.cons.injEq] at e
  have := t ((0 : Int), o') (by simp)
  rw [e.1] at this
  exact this
def termTextOf (s l : List Int) (r : ByteArray × Bool) : Prop := (goodTerm s l = true ∧ ∃ o, PT s 1 l [] [o] ∧ r = (strOfNums o, true)) ∨ (goodTerm s l = false ∧ r = ((⟨#[]⟩ : ByteArray), false))
theorem termText_ev (s l : List Int) (hsl : s.length ≤ 140737488351232) : ∃ r : ByteArray × Bool, Ev (fun k => spec_TermText.f k s l) r ∧ Ev (fun k => impl_TermText.f k s l) r := by
  cases hg : goodTerm s l with
  | true =>
    obtain ⟨o, h, h1⟩ := impl_termText s l hg
    have hs : goodSign s = true := by unfold goodTerm at hg; simp only [Bool.and_eq_true] at hg; exact hg.1
    have hl : l.length ≤ 40 := by unfold goodTerm isTerm at hg; simp only [Bool.and_eq_true, decide_eq_true_eq] at hg; exact hg.2.1.2
    refine ⟨(strOfNums o, true), ?_, ?_⟩
    · simp only [spec_TermText.f]
      exact Ev.bnd (spec_GoodTerm_ev s l hsl) (Ev.pos hg (Ev.bnd (spec_termText s l o hs (by omega) h) (Ev.ret _)))
    · simp only [impl_TermText.f]
      exact Ev.bnd (impl_GoodTerm_ev s l) (Ev.pos hg (Ev.bnd h1 (Ev.ret _)))
  | false =>
    refine ⟨((⟨#[]⟩ : ByteArray), false), ?_, ?_⟩
    · simp only [spec_TermText.f]
      exact Ev.bnd (spec_GoodTerm_ev s l hsl) (Ev.neg (by simp [hg]) (Ev.ret _))
    · simp only [impl_TermText.f]
      exact Ev.bnd (impl_GoodTerm_ev s l) (Ev.neg (by simp [hg]) (Ev.ret _))

theorem szIntS_eq (l : List Int) (a : Int) (h0 : 0 ≤ a) (h1 : a ≤ 1048576) (hl : l.length ≤ 9223372036854775807) : laws_szIntS.f l a = some (if (l.length : Int) ≤ a then a - l.length else -1) := by
  unfold laws_szIntS.f
  rw [w64 (x := a - (l.length : Int)) (by omega) (by omega)]
  by_cases g : a - (l.length : Int) < 0
  · rw [if_pos g, if_neg (by omega)]
  · rw [if_neg g, if_pos (by omega)]
theorem szSign_eq (l : List Int) (a : Int) (h0 : 0 ≤ a) (h1 : a ≤ 1048576) (hl : l.length ≤ 9223372036854775807) : laws_szSign.f l a = some (if (l.length : Int) ≤ a then a - l.length else -1) := by
  unfold laws_szSign.f
  rw [szIntS_eq l a h0 h1 hl, Option.bind_some]
  by_cases g : (l.length : Int) ≤ a
  · rw [if_pos g, if_neg (by omega)]
  · rw [if_neg g]; rfl
theorem toSign_ev (l : List Int) (h : l.length ≤ 1048576) : Ev (fun k => laws_toSign.f k l) l := by
  simp only [laws_toSign.f]
  exact Ev.bnd (toIntS l (by omega)) (Ev.ret _)
theorem eqSign_self (l : List Int) (h : l.length ≤ 1048576) : Ev (fun k => laws_eqSign.f k l l) true := by
  simp only [laws_eqSign.f]
  exact Ev.bnd (eqIntS_self l (by omega)) (Ev.pos rfl (Ev.ret _))

theorem FnExactTermText : laws_FnExactTermText.Pure := by
  intro s l hs hl
  refine Ev.all ?_
  simp only [laws_FnExactTermText.f]
  by_cases g : (l.length : Int) > 1048576
  · exact Ev.pos g (Ev.ret _)
  · refine Ev.neg g ?_
    have hsm : s.length ≤ 9223372036854775807 := by have := hs.1; unfold maxLen at this; omega
    refine Ev.bnd1 (szSign_eq s 1048576 (by omega) (by omega) hsm) ?_
    by_cases g2 : (s.length : Int) ≤ 1048576
    · rw [if_pos g2]
      refine Ev.neg (by omega) ?_
      have t1 := toSign_ev s (by omega)
      have t2 := toIntS l (by omega)
      obtain ⟨r, h1, h2⟩ := termText_ev s l (by omega)
      refine Ev.bnd t1 (Ev.bnd t2 (Ev.bnd h1 (Ev.bnd t1 (Ev.bnd t2 (Ev.bnd h2 (Ev.pos rfl (Ev.succ ?_)))))))
      simp only [laws_FnExactTermText.j0]
      refine Ev.neg (by simp) (Ev.bnd t1 (Ev.bnd (eqSign_self s (by omega)) (Ev.pos rfl (Ev.bnd t2 (Ev.bnd (eqIntS_self l (by omega)) (Ev.pos rfl (Ev.ret _)))))))
    · rw [if_neg g2]
      exact Ev.pos (by omega) (Ev.ret _)

end Go.Proofs.Ytgbjmojghcbneab.Pure
