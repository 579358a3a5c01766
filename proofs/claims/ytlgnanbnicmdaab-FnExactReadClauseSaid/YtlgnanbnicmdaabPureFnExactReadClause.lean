/- The program's ReadClause returns what the reference's returns, for all arguments.
Conditions: none beyond what the row itself says. -/
import Derived.Test.YtlgnanbnicmdaabQFnExactReadClausex10
namespace Go.Proofs.Ytlgnanbnicmdaab.Pure
open Go.RowKit Go.Proofs.Ytlgnanbnicmdaab.QFnExactReadClause Go.Proofs.YtlgnanbnicmdaabW.PrintWords Go.Proofs.YtlgnanbnicmdaabW.PrintLast Go.Proofs.YtlgnanbnicmdaabW.PrintMore
set_option linter.unusedVariables false
set_option linter.unusedSimpArgs false

theorem w64 {x : Int} (h0 : -9223372036854775808 ≤ x) (h1 : x ≤ 9223372036854775807) : wrap64 x = x := by
  unfold wrap64; omega
theorem Ev.succ {α : Type} {g : Nat → Option α} {r : α} (h : Ev (fun k => g (k + 1)) r) : Ev g r := Ev.step (fun _ => rfl) h
theorem Ev.pos {α : Type} {c : Prop} [Decidable c] {a b : Nat → Option α} {r : α} (h : c) (e : Ev (fun k => a k) r) : Ev (fun k => if c then a k else b k) r := Ev.congr (fun _ => if_pos h) e
theorem Ev.neg {α : Type} {c : Prop} [Decidable c] {a b : Nat → Option α} {r : α} (h : ¬ c) (e : Ev (fun k => b k) r) : Ev (fun k => if c then a k else b k) r := Ev.congr (fun _ => if_neg h) e
theorem Ev.bnd {α β : Type} {g : Nat → Option α} {f : Nat → α → Option β} {a : α} {r : β} (h : Ev (fun k => g k) a) (k : Ev (fun n => f n a) r) : Ev (fun n => (g n).bind (fun x => f n x)) r := Ev.bind h k
theorem Ev.bnd1 {α β : Type} {g : Option α} {f : Nat → α → Option β} {a : α} {r : β} (h : g = some a) (k : Ev (fun n => f n a) r) : Ev (fun n => g.bind (fun x => f n x)) r := by
  rw [h]; exact k
theorem Ev.ret {α : Type} (r : α) : Ev (fun _ => some r) r := Ev.now r
theorem Ev.eq {α : Type} {g : Nat → Option α} {r r' : α} (h : Ev g r) (e : r = r') : Ev g r' := e ▸ h
theorem Ev.all {α : Type} {g : Nat → Option α} {r : α} (h : Ev (fun k => g k) r) : ∃ k, g k = some r := h.rounds
theorem rd_mid (pre : List Int) (x : Int) (post : List Int) : rd (pre ++ x :: post) (pre.length : Int) = x := by
  unfold rd; simp
theorem rd_nat (xs : List Int) (i : Nat) (h : i < xs.length) : rd xs (i : Int) = xs[i] := by
  unfold rd; simp [List.getD_eq_getElem?_getD, List.getElem?_eq_getElem h]

theorem toIntS_l0 (post : List Int) : ∀ (pre rest : List Int), rest.length = post.length → (pre ++ post).length ≤ 140737488351232 → Ev (fun k => laws_toIntS.l0 k (pre ++ post) (pre ++ rest) (pre.length : Int)) (pre ++ post) := by
  induction post with
  | nil =>
    intro pre rest hr hl
    obtain rfl : rest = [] := List.eq_nil_of_length_eq_zero hr
    refine Ev.succ ?_
    simp only [laws_toIntS.l0]
    exact Ev.neg (by simp) (Ev.ret _)
  | cons x post ih =>
    intro pre rest hr hl
    obtain ⟨y, rest, rfl⟩ : ∃ y t, rest = y :: t := by cases rest with | nil => simp at hr | cons y t => exact ⟨y, t, rfl⟩
    have h := ih (pre ++ [x]) rest (by simpa using hr) (by simpa using hl)
    simp only [List.length_append, List.length_cons, List.length_nil] at hl hr h
    refine Ev.succ ?_
    simp only [laws_toIntS.l0, List.length_append, List.length_cons]
    refine Ev.pos (by omega) (Ev.pos (by omega) (Ev.pos (by omega) ?_))
    rw [rd_mid, w64 (by omega) (by omega)]
    have e : (pre ++ y :: rest).set ((pre.length : Int)).toNat x = pre ++ [x] ++ rest := by simp
    rw [e]
    simpa using h
theorem toIntS (l : List Int) (h : l.length * 8 ≤ 140737488351232) : Ev (fun k => laws_toIntS.f k l) l := by
  simp only [laws_toIntS.f]
  refine Ev.pos (by omega) (Ev.pos (by omega) ?_)
  have := toIntS_l0 l [] (List.replicate l.length 0) (by simp) (by simp; omega)
  simpa using this

theorem eqIntS_l0 (pa : List Int) : ∀ (pa' pb pb' : List Int), pa'.length = pb'.length → pa.length = pb.length → (pa' ++ pa).length ≤ 140737488351232 → Ev (fun k => laws_eqIntS.l0 k (pa' ++ pa) (pb' ++ pb) (pa'.length : Int)) (decide (pa = pb)) := by
  induction pa with
  | nil =>
    intro pa' pb pb' h1 h2 hl
    obtain rfl : pb = [] := List.eq_nil_of_length_eq_zero h2.symm
    refine Ev.succ ?_
    simp only [laws_eqIntS.l0]
    exact Ev.neg (by simp) (Ev.eq (Ev.ret _) (by simp))
  | cons x pa ih =>
    intro pa' pb pb' h1 h2 hl
    obtain ⟨y, pb, rfl⟩ : ∃ y t, pb = y :: t := by cases pb with | nil => simp at h2 | cons y t => exact ⟨y, t, rfl⟩
    have h := ih (pa' ++ [x]) pb (pb' ++ [y]) (by simpa using h1) (by simpa using h2) (by simpa using hl)
    simp only [List.length_append, List.length_cons, List.length_nil] at hl h2 h
    refine Ev.succ ?_
    simp only [laws_eqIntS.l0, List.length_append, List.length_cons]
    refine Ev.pos (by omega) (Ev.pos (by omega) (Ev.pos (by omega) ?_))
    rw [rd_mid, show (pa'.length : Int) = (pb'.length : Int) by omega, rd_mid]
    by_cases e : x = y
    · subst e
      refine Ev.pos rfl ?_
      rw [w64 (by omega) (by omega)]
      refine Ev.eq (Ev.congr (fun k => ?_) h) (by simp)
      simp [h1]
    · exact Ev.neg e (Ev.eq (Ev.ret _) (by simp [e]))
theorem eqIntS (a b : List Int) (h : a.length ≤ 140737488351232) : Ev (fun k => laws_eqIntS.f k a b) (decide (a = b)) := by
  simp only [laws_eqIntS.f]
  by_cases e : a.length = b.length
  · exact Ev.pos (by omega) (by simpa using eqIntS_l0 a [] b [] rfl e (by simpa using h))
  · exact Ev.neg (by omega) (Ev.eq (Ev.ret _) (by simp only [false_eq_decide_iff]; intro h; exact e (by rw [h])))
theorem eqIntS_self (a : List Int) (h : a.length ≤ 140737488351232) : Ev (fun k => laws_eqIntS.f k a a) true := Ev.eq (eqIntS a a h) (by simp)

theorem spec_in_eq (a lo hi : Int) : spec_l1In.f a lo hi = some (decide (lo ≤ a ∧ a ≤ hi)) := by
  unfold spec_l1In.f
  by_cases h1 : a ≥ lo
  · rw [if_pos h1]
    by_cases h2 : a ≤ hi
    · rw [decide_eq_true h2, decide_eq_true ⟨h1, h2⟩]
    · rw [decide_eq_false h2, decide_eq_false (fun h => h2 h.2)]
  · rw [if_neg h1, decide_eq_false (fun h => h1 h.1)]

def inAll (lo hi : Int) (l : List Int) : Bool := l.all fun x => decide (lo ≤ x ∧ x ≤ hi)
theorem spec_l1All_l0 (lo hi : Int) (post : List Int) : ∀ pre : List Int, (pre ++ post).length ≤ 140737488351232 → Ev (fun k => spec_l1All.l0 k lo hi (pre ++ post) ((pre ++ post).length : Int) (pre.length : Int)) (inAll lo hi post) := by
  induction post with
  | nil =>
    intro pre hl
    refine Ev.succ ?_
    simp only [spec_l1All.l0]
    exact Ev.neg (by simp) (Ev.ret _)
  | cons x post ih =>
    intro pre hl
    have h := ih (pre ++ [x]) (by simpa using hl)
    simp only [List.length_append, List.length_cons] at hl
    refine Ev.succ ?_
    simp only [spec_l1All.l0]
    refine Ev.pos (by simp only [List.length_append, List.length_cons]; omega) (Ev.pos (by omega) (Ev.pos (by simp only [List.length_append, List.length_cons]; omega) ?_))
    rw [rd_mid]
    refine Ev.bnd1 (spec_in_eq _ _ _) ?_
    by_cases hx : lo ≤ x ∧ x ≤ hi
    · rw [decide_eq_true hx]
      refine Ev.pos rfl ?_
      rw [w64 (by omega) (by omega)]
      refine Ev.eq (by simpa using h) ?_
      simp [inAll, hx]
    · rw [decide_eq_false hx]
      exact Ev.neg (by simp) (Ev.eq (Ev.ret _) (by simp only [inAll, List.all_cons, decide_eq_false hx, Bool.false_and]))
theorem spec_l1All_ev (lo hi : Int) (l : List Int) (hl : l.length ≤ 140737488351232) : Ev (fun k => spec_l1All.f k l lo hi) (inAll lo hi l) := by
  simp only [spec_l1All.f]
  simpa using spec_l1All_l0 lo hi l [] (by simpa using hl)
theorem inAll_mem {lo hi : Int} {l : List Int} (h : inAll lo hi l = true) : ∀ x ∈ l, lo ≤ x ∧ x ≤ hi := by
  intro x hx
  unfold inAll at h
  simpa using List.all_eq_true.1 h x hx

theorem anyO_not {α : Type} (f : α → Option Bool) (p : α → Bool) (l : List α) (h : ∀ x ∈ l, f x = some (!p x)) : anyO f l = some (!l.all p) := by
  induction l with
  | nil => rfl
  | cons x t ih =>
    simp only [anyO]
    rw [h x (by simp), Option.bind_some]
    cases hp : p x with
    | true => simp [hp, ih (fun y hy => h y (by simp [hy]))]
    | false => simp [hp]

def goodSign (s : List Int) : Bool := decide (1 ≤ s.length ∧ s.length ≤ 10) && (inAll 0 3 s && (rd s 0 == 0))
theorem goodSign_len {s : List Int} (h : goodSign s = true) : 1 ≤ s.length ∧ s.length ≤ 10 := by
  unfold goodSign at h
  simp only [Bool.and_eq_true, decide_eq_true_eq] at h
  exact h.1
theorem goodSign_mem {s : List Int} (h : goodSign s = true) : ∀ x ∈ s, 0 ≤ x ∧ x ≤ 3 := by
  unfold goodSign at h
  simp only [Bool.and_eq_true] at h
  exact inAll_mem h.2.1
theorem goodSign_rd {s : List Int} (h : goodSign s = true) (x : Int) (h0 : 0 ≤ x) (h1 : x < s.length) : 0 ≤ rd s x ∧ rd s x ≤ 3 := by
  obtain ⟨n, rfl⟩ : ∃ n : Nat, x = n := ⟨x.toNat, by omega⟩
  have hn : n < s.length := by omega
  rw [rd_nat s n hn]
  exact goodSign_mem h _ (List.getElem_mem hn)
theorem spec_GoodSign_ev (s : List Int) (hl : s.length ≤ 140737488351232) : Ev (fun k => spec_GoodSign.f k s) (goodSign s) := by
  simp only [spec_GoodSign.f]
  refine Ev.bnd1 (spec_in_eq _ _ _) ?_
  by_cases g : 1 ≤ s.length ∧ s.length ≤ 10
  · have g' : (1 : Int) ≤ (s.length : Int) ∧ (s.length : Int) ≤ 10 := by omega
    refine Ev.pos (decide_eq_true g') (Ev.bnd (spec_l1All_ev 0 3 s hl) ?_)
    unfold goodSign
    rw [decide_eq_true g, Bool.true_and]
    cases ha : inAll 0 3 s with
    | true => exact Ev.pos rfl (Ev.pos (by omega) (Ev.eq (Ev.ret _) rfl))
    | false => exact Ev.neg (by simp) (Ev.eq (Ev.ret _) rfl)
  · have g' : ¬ ((1 : Int) ≤ (s.length : Int) ∧ (s.length : Int) ≤ 10) := by omega
    refine Ev.neg (by rw [decide_eq_false g']; simp) (Ev.eq (Ev.ret _) ?_)
    unfold goodSign
    rw [decide_eq_false g, Bool.false_and]
theorem impl_GoodSign_any (s : List Int) : impl_GoodSign_1_any.f s = some (!inAll 0 3 s) := by
  unfold impl_GoodSign_1_any.f inAll
  refine anyO_not _ _ _ (fun x _ => ?_)
  unfold impl_GoodSign_1.f
  by_cases h1 : x < 0
  · rw [if_pos h1, decide_eq_false (by omega)]; rfl
  · rw [if_neg h1]
    by_cases h2 : x ≤ 3
    · rw [decide_eq_true (show 0 ≤ x ∧ x ≤ 3 by omega), decide_eq_false (by omega)]; rfl
    · rw [decide_eq_false (show ¬ (0 ≤ x ∧ x ≤ 3) by omega), decide_eq_true (by omega)]; rfl
theorem impl_GoodSign_eq (s : List Int) : impl_GoodSign.f s = some (goodSign s) := by
  unfold impl_GoodSign.f goodSign
  by_cases g : 1 ≤ s.length ∧ s.length ≤ 10
  · rw [if_neg (by omega), if_neg (by omega), if_pos (by omega), decide_eq_true g, Bool.true_and]
    by_cases e : rd s 0 = 0
    · rw [if_pos e, impl_GoodSign_any, e]; simp
    · rw [if_neg e]; simp [e]
  · rw [decide_eq_false g, Bool.false_and]
    by_cases h1 : (s.length : Int) < 1
    · rw [if_pos h1]
    · rw [if_neg h1, if_pos (by omega)]

/-! Terms in prefix form. -/
/-- How many arguments a token takes. -/
def ar (s : List Int) (x : Int) : Nat := if x < 0 then 0 else (rd s x).toNat
/-- Whether a number may stand in a term. -/
def tok (s : List Int) (x : Int) : Bool := decide (-12 ≤ x ∧ x < s.length)
/-- What is left of a row when so many terms are read off it. -/
def eat (s : List Int) : List Int → Nat → Option (List Int)
  | l, 0 => some l
  | [], _ + 1 => none
  | x :: l, n + 1 => if tok s x = true then eat s l (n + ar s x) else none
def isTerm (s : List Int) (l : List Int) : Bool := decide (1 ≤ l.length ∧ l.length ≤ 40) && (eat s l 1 == some [])
theorem ar_le {s : List Int} (h : goodSign s = true) {x : Int} (ht : tok s x = true) : ar s x ≤ 3 := by
  unfold tok at ht
  simp only [decide_eq_true_eq] at ht
  unfold ar
  by_cases g : x < 0
  · rw [if_pos g]; omega
  · rw [if_neg g]
    have := goodSign_rd h x (by omega) (by omega)
    omega
theorem ar_rd {s : List Int} (h : goodSign s = true) {x : Int} (h0 : 0 ≤ x) (ht : tok s x = true) : rd s x = (ar s x : Int) := by
  unfold tok at ht
  simp only [decide_eq_true_eq] at ht
  unfold ar
  rw [if_neg (by omega)]
  have := goodSign_rd h x (by omega) (by omega)
  omega
theorem spec_l1End_l0 (s : List Int) (hs : goodSign s = true) (l : List Int) : ∀ (pre : List Int) (n : Nat), (pre ++ l).length ≤ 1000000000 → n ≤ 3 * pre.length + 3 →
    Ev (fun k => spec_l1End.l0 k (pre ++ l) (pre.length : Int) (n : Int) s) (match eat s l n with | some r => ((pre ++ l).length : Int) - r.length | none => -1) := by
  have hsl := goodSign_len hs
  induction l with
  | nil =>
    intro pre n hl hn
    refine Ev.succ ?_
    simp only [spec_l1End.l0]
    cases n with
    | zero => exact Ev.neg (by simp) (Ev.eq (Ev.ret _) (by simp [eat]))
    | succ n =>
      refine Ev.pos (by omega) (Ev.pos (by simp) (Ev.succ ?_))
      simp only [spec_l1End.j1]
      exact Ev.pos trivial (Ev.eq (Ev.ret _) (by simp [eat]))
  | cons x l ih =>
    intro pre n hl hn
    have hl' := hl
    simp only [List.length_append, List.length_cons] at hl
    refine Ev.succ ?_
    simp only [spec_l1End.l0]
    cases n with
    | zero => exact Ev.neg (by simp) (Ev.eq (Ev.ret _) (by simp only [eat, List.length_append, List.length_cons]; omega))
    | succ n =>
      refine Ev.pos (by omega) (Ev.neg (by simp only [List.length_append, List.length_cons]; omega) (Ev.pos (by omega) (Ev.pos (by simp only [List.length_append, List.length_cons]; omega) ?_)))
      rw [rd_mid, w64 (x := (s.length : Int) - 1) (by omega) (by omega)]
      refine Ev.bnd1 (spec_in_eq _ _ _) (Ev.succ ?_)
      simp only [spec_l1End.j1]
      by_cases g : -12 ≤ x ∧ x ≤ (s.length : Int) - 1
      · have ht : tok s x = true := by unfold tok; exact decide_eq_true (by omega)
        have har := ar_le hs ht
        have h := ih (pre ++ [x]) (n + ar s x) (by simpa using hl') (by simp only [List.length_append, List.length_cons, List.length_nil]; omega)
        refine Ev.neg (by rw [decide_eq_true g]; simp) (Ev.pos (by omega) (Ev.pos (by simp only [List.length_append, List.length_cons]; omega) ?_))
        have e : eat s (x :: l) (n + 1) = eat s l (n + ar s x) := by simp only [eat]; rw [if_pos ht]
        rw [e]
        have e0 : wrap64 ((pre.length : Int) + 1) = (pre.length : Int) + 1 := w64 (by omega) (by omega)
        have e1 : wrap64 (((n + 1 : Nat) : Int) - 1) = (n : Int) := by rw [w64 (by omega) (by omega)]; omega
        rw [rd_mid, e0, e1]
        have h' : Ev (fun k => spec_l1End.l0 k (pre ++ x :: l) ((pre.length : Int) + 1) ((n : Int) + (ar s x : Int)) s) (match eat s l (n + ar s x) with | some r => ((pre ++ x :: l).length : Int) - r.length | none => -1) := by simpa using h
        by_cases g0 : x ≥ 0
        · refine Ev.pos g0 (Ev.pos g0 (Ev.pos (by omega) ?_))
          rw [ar_rd hs g0 ht, w64 (by omega) (by omega)]
          exact h'
        · refine Ev.neg g0 ?_
          have e2 : ar s x = 0 := by unfold ar; rw [if_pos (by omega)]
          rw [e2] at h' ⊢
          simpa using h'
      · have ht : ¬ tok s x = true := by unfold tok; rw [decide_eq_true_eq]; omega
        refine Ev.pos (by rw [decide_eq_false g]; rfl) (Ev.eq (Ev.ret _) ?_)
        simp only [eat]
        rw [if_neg ht]
theorem spec_l1End_ev (s : List Int) (hs : goodSign s = true) (pre l : List Int) (hl : (pre ++ l).length ≤ 1000000000) :
    Ev (fun k => spec_l1End.f k s (pre ++ l) (pre.length : Int)) (match eat s l 1 with | some r => ((pre ++ l).length : Int) - r.length | none => -1) := by
  simp only [spec_l1End.f]
  exact spec_l1End_l0 s hs l pre 1 hl (by omega)
theorem spec_l1Term_ev (s : List Int) (hs : goodSign s = true) (l : List Int) : Ev (fun k => spec_l1Term.f k s l) (isTerm s l) := by
  simp only [spec_l1Term.f]
  refine Ev.bnd1 (spec_in_eq _ _ _) ?_
  unfold isTerm
  by_cases g : 1 ≤ l.length ∧ l.length ≤ 40
  · have g' : (1 : Int) ≤ (l.length : Int) ∧ (l.length : Int) ≤ 40 := by omega
    have h := spec_l1End_ev s hs [] l (by simp; omega)
    refine Ev.pos (decide_eq_true g') (Ev.bnd (by simpa using h) (Ev.eq (Ev.ret _) ?_))
    rw [decide_eq_true g, Bool.true_and]
    cases e : eat s l 1 with
    | none => simp
    | some r =>
      cases r with
      | nil => simp
      | cons y r => simp; omega
  · have g' : ¬ ((1 : Int) ≤ (l.length : Int) ∧ (l.length : Int) ≤ 40) := by omega
    refine Ev.neg (by rw [decide_eq_false g']; simp) (Ev.eq (Ev.ret _) ?_)
    rw [decide_eq_false g, Bool.false_and]
theorem impl_args_eq (s : List Int) (hs : goodSign s = true) (x : Int) (ht : tok s x = true) : impl_Sign_args.f s x = some (ar s x : Int) := by
  unfold impl_Sign_args.f
  by_cases g : x < 0
  · rw [if_pos g]; unfold ar; rw [if_pos g]; rfl
  · have ht' := ht
    unfold tok at ht'
    simp only [decide_eq_true_eq] at ht'
    rw [if_neg g, if_pos (by omega), if_pos (by omega), ar_rd hs (by omega) ht]
theorem impl_isTerm_l0 (s : List Int) (hs : goodSign s = true) (l : List Int) : ∀ (pre : List Int) (n : Nat), (pre ++ l).length ≤ 1000000 → n ≤ 3 * pre.length + 3 →
    Ev (fun k => impl_Sign_isTerm.l0 k (n : Int) (pre ++ l) ((pre ++ l).length : Int) (pre.length : Int) s) (eat s l n == some []) := by
  have hsl := goodSign_len hs
  induction l with
  | nil =>
    intro pre n hl hn
    refine Ev.succ ?_
    simp only [impl_Sign_isTerm.l0]
    refine Ev.neg (by simp) (Ev.eq (Ev.ret _) ?_)
    cases n with
    | zero => rfl
    | succ n => first | (simp [eat]; done) | (simp [eat]; omega)
  | cons x l ih =>
    intro pre n hl hn
    have hl' := hl
    simp only [List.length_append, List.length_cons] at hl
    refine Ev.succ ?_
    simp only [impl_Sign_isTerm.l0]
    refine Ev.pos (by simp only [List.length_append, List.length_cons]; omega) (Ev.pos (by omega) (Ev.pos (by simp only [List.length_append, List.length_cons]; omega) ?_))
    cases n with
    | zero => exact Ev.pos rfl (Ev.eq (Ev.ret _) (by simp [eat]))
    | succ n =>
      refine Ev.neg (by omega) ?_
      rw [rd_mid]
      by_cases g1 : x < -12
      · refine Ev.pos g1 (Ev.eq (Ev.ret _) ?_)
        have ht : ¬ tok s x = true := by unfold tok; rw [decide_eq_true_eq]; omega
        simp only [eat]
        rw [if_neg ht]; rfl
      · refine Ev.neg g1 ?_
        by_cases g2 : x ≥ (s.length : Int)
        · refine Ev.pos g2 (Ev.eq (Ev.ret _) ?_)
          have ht : ¬ tok s x = true := by unfold tok; rw [decide_eq_true_eq]; omega
          simp only [eat]
          rw [if_neg ht]; rfl
        · refine Ev.neg g2 ?_
          have ht : tok s x = true := by unfold tok; exact decide_eq_true (by omega)
          have har := ar_le hs ht
          have h := ih (pre ++ [x]) (n + ar s x) (by simpa using hl') (by simp only [List.length_append, List.length_cons, List.length_nil]; omega)
          refine Ev.bnd1 (impl_args_eq s hs x ht) ?_
          have e0 : wrap64 ((pre.length : Int) + 1) = (pre.length : Int) + 1 := w64 (by omega) (by omega)
          have e1 : wrap64 ((ar s x : Int) - 1) = (ar s x : Int) - 1 := w64 (by omega) (by omega)
          have e2 : wrap64 (((n + 1 : Nat) : Int) + ((ar s x : Int) - 1)) = (n : Int) + (ar s x : Int) := by rw [w64 (by omega) (by omega)]; omega
          rw [e0, e1, e2]
          refine Ev.eq (by simpa using h) ?_
          simp only [eat]
          rw [if_pos ht]
theorem impl_isTerm_ev (s : List Int) (hs : goodSign s = true) (l : List Int) : Ev (fun k => impl_Sign_isTerm.f k s l) (isTerm s l) := by
  simp only [impl_Sign_isTerm.f]
  unfold isTerm
  by_cases g : l.length > 40
  · refine Ev.pos (by omega) (Ev.eq (Ev.ret _) ?_)
    rw [decide_eq_false (by omega), Bool.false_and]
  · refine Ev.neg (by omega) ?_
    have h := impl_isTerm_l0 s hs l [] 1 (by simp; omega) (by omega)
    refine Ev.eq (by simpa using h) ?_
    cases l with
    | nil => simp [eat]
    | cons x l => rw [decide_eq_true (show 1 ≤ (x :: l).length ∧ (x :: l).length ≤ 40 by simp only [List.length_cons] at g ⊢; omega), Bool.true_and]

theorem szIntS_eq (l : List Int) (a : Int) (h0 : 0 ≤ a) (h1 : a ≤ 1048576) (hl : l.length ≤ 9223372036854775807) : laws_szIntS.f l a = some (if (l.length : Int) ≤ a then a - l.length else -1) := by
  unfold laws_szIntS.f
  rw [w64 (x := a - (l.length : Int)) (by omega) (by omega)]
  by_cases g : a - (l.length : Int) < 0
  · rw [if_pos g, if_neg (by omega)]
  · rw [if_neg g, if_pos (by omega)]
theorem szSign_eq (l : List Int) (a : Int) (h0 : 0 ≤ a) (h1 : a ≤ 1048576) (hl : l.length ≤ 9223372036854775807) : laws_szSign.f l a = some (if (l.length : Int) ≤ a then a - l.length else -1) := by
  unfold laws_szSign.f
  rw [szIntS_eq l a h0 h1 hl, Option.bind_some]
  by_cases g : (l.length : Int) ≤ a
  · rw [if_pos g, if_neg (by omega)]
  · rw [if_neg g]; rfl
theorem toSign_ev (l : List Int) (h : l.length ≤ 1048576) : Ev (fun k => laws_toSign.f k l) l := by
  simp only [laws_toSign.f]
  exact Ev.bnd (toIntS l (by omega)) (Ev.ret _)
theorem eqSign_self (l : List Int) (h : l.length ≤ 1048576) : Ev (fun k => laws_eqSign.f k l l) true := by
  simp only [laws_eqSign.f]
  exact Ev.bnd (eqIntS_self l (by omega)) (Ev.pos rfl (Ev.ret _))

/-! Literals as the laws hand them over. -/
def smLit (x : S65) : Prop := x.f1.length ≤ 1048576 ∧ x.f2.length ≤ 1048576
theorem rdLB_mid (pre : List S65) (x : S65) (post : List S65) : rd_T65 (pre ++ x :: post) (pre.length : Int) = x := by
  unfold rd_T65; simp
theorem eqLit_self (b : Bool) (f1 f2 : List Int) (h1 : f1.length ≤ 1048576) (h2 : f2.length ≤ 1048576) : Ev (fun k => laws_eqLit.f k b f1 f2 b f1 f2) true := by
  simp only [laws_eqLit.f]
  exact Ev.neg (by simp) (Ev.bnd (eqIntS_self f1 (by omega)) (Ev.pos rfl (Ev.bnd (eqIntS_self f2 (by omega)) (Ev.pos rfl (Ev.ret _)))))
theorem eqLitS_l0 (post : List S65) : ∀ pre : List S65, (pre ++ post).length ≤ 1048576 → (∀ x ∈ post, smLit x) → Ev (fun k => laws_eqLitS.l0 k (pre ++ post) (pre ++ post) (pre.length : Int)) true := by
  induction post with
  | nil =>
    intro pre hl hk
    refine Ev.succ ?_
    simp only [laws_eqLitS.l0]
    exact Ev.neg (by simp) (Ev.ret _)
  | cons x post ih =>
    intro pre hl hk
    have h := ih (pre ++ [x]) (by simpa using hl) (fun y hy => hk y (by simp [hy]))
    have hx := hk x (by simp)
    simp only [List.length_append, List.length_cons] at hl
    refine Ev.succ ?_
    simp only [laws_eqLitS.l0]
    refine Ev.pos (by simp only [List.length_append, List.length_cons]; omega) (Ev.pos (by omega) (Ev.pos (by simp only [List.length_append, List.length_cons]; omega) ?_))
    rw [rdLB_mid, w64 (by omega) (by omega)]
    exact Ev.bnd (eqLit_self _ _ _ hx.1 hx.2) (Ev.pos rfl (by simpa using h))
theorem eqLitS_self (l : List S65) (hl : l.length ≤ 1048576) (hk : ∀ x ∈ l, smLit x) : Ev (fun k => laws_eqLitS.f k l l) true := by
  simp only [laws_eqLitS.f]
  exact Ev.pos trivial (by simpa using eqLitS_l0 l [] (by simpa using hl) hk)

/-! Literals and clauses over a signature. -/
def isLit (s : List Int) (x : S65) : Bool := isTerm s x.f1 && isTerm s x.f2
def isClause (s : List Int) (l : List S65) : Bool := decide (l.length ≤ 8) && l.all (isLit s)
theorem spec_l1End_tot (s : List Int) (hsl : s.length ≤ 1048576) (l : List Int) : ∀ (pre : List Int) (n : Int), (pre ++ l).length ≤ 1000000000 → ∃ r, Ev (fun k => spec_l1End.l0 k (pre ++ l) (pre.length : Int) n s) r := by
  induction l with
  | nil =>
    intro pre n hl
    by_cases g : n > 0
    · refine ⟨-1, Ev.succ ?_⟩
      simp only [spec_l1End.l0]
      refine Ev.pos g (Ev.pos (by simp) (Ev.succ ?_))
      simp only [spec_l1End.j1]
      exact Ev.pos trivial (Ev.ret _)
    · refine ⟨(pre.length : Int), Ev.succ ?_⟩
      simp only [spec_l1End.l0]
      exact Ev.neg g (Ev.ret _)
  | cons x l ih =>
    intro pre n hl
    have hl' := hl
    simp only [List.length_append, List.length_cons] at hl
    by_cases g : n > 0
    · by_cases g1 : -12 ≤ x ∧ x ≤ (s.length : Int) - 1
      · by_cases g2 : x ≥ 0
        · obtain ⟨r, hr⟩ := ih (pre ++ [x]) (wrap64 (wrap64 (n - 1) + rd s x)) (by simpa using hl')
          refine ⟨r, Ev.succ ?_⟩
          simp only [spec_l1End.l0]
          refine Ev.pos g (Ev.neg (by simp only [List.length_append, List.length_cons]; omega) (Ev.pos (by omega) (Ev.pos (by simp only [List.length_append, List.length_cons]; omega) ?_)))
          rw [rd_mid, w64 (x := (s.length : Int) - 1) (by omega) (by omega)]
          refine Ev.bnd1 (spec_in_eq _ _ _) (Ev.succ ?_)
          simp only [spec_l1End.j1]
          refine Ev.neg (by rw [decide_eq_true g1]; simp) (Ev.pos (by omega) (Ev.pos (by simp only [List.length_append, List.length_cons]; omega) ?_))
          rw [rd_mid, w64 (x := (pre.length : Int) + 1) (by omega) (by omega)]
          exact Ev.pos g2 (Ev.pos g2 (Ev.pos (by omega) (by simpa using hr)))
        · obtain ⟨r, hr⟩ := ih (pre ++ [x]) (wrap64 (n - 1)) (by simpa using hl')
          refine ⟨r, Ev.succ ?_⟩
          simp only [spec_l1End.l0]
          refine Ev.pos g (Ev.neg (by simp only [List.length_append, List.length_cons]; omega) (Ev.pos (by omega) (Ev.pos (by simp only [List.length_append, List.length_cons]; omega) ?_)))
          rw [rd_mid, w64 (x := (s.length : Int) - 1) (by omega) (by omega)]
          refine Ev.bnd1 (spec_in_eq _ _ _) (Ev.succ ?_)
          simp only [spec_l1End.j1]
          refine Ev.neg (by rw [decide_eq_true g1]; simp) (Ev.pos (by omega) (Ev.pos (by simp only [List.length_append, List.length_cons]; omega) ?_))
          rw [rd_mid, w64 (x := (pre.length : Int) + 1) (by omega) (by omega)]
          exact Ev.neg g2 (by simpa using hr)
      · refine ⟨-1, Ev.succ ?_⟩
        simp only [spec_l1End.l0]
        refine Ev.pos g (Ev.neg (by simp only [List.length_append, List.length_cons]; omega) (Ev.pos (by omega) (Ev.pos (by simp only [List.length_append, List.length_cons]; omega) ?_)))
        rw [rd_mid, w64 (x := (s.length : Int) - 1) (by omega) (by omega)]
        refine Ev.bnd1 (spec_in_eq _ _ _) (Ev.succ ?_)
        simp only [spec_l1End.j1]
        exact Ev.pos (by rw [decide_eq_false g1]; rfl) (Ev.ret _)
    · refine ⟨(pre.length : Int), Ev.succ ?_⟩
      simp only [spec_l1End.l0]
      exact Ev.neg g (Ev.ret _)
/-- The reference's word about a term over any row of numbers: it is the word about terms where the row is a signature. -/
theorem spec_l1Term_tot (s : List Int) (hsl : s.length ≤ 1048576) (l : List Int) : ∃ b, Ev (fun k => spec_l1Term.f k s l) b ∧ (goodSign s = true → b = isTerm s l) := by
  by_cases hs : goodSign s = true
  · exact ⟨_, spec_l1Term_ev s hs l, fun _ => rfl⟩
  · simp only [spec_l1Term.f]
    by_cases g : (1 : Int) ≤ (l.length : Int) ∧ (l.length : Int) ≤ 40
    · obtain ⟨r, h⟩ := spec_l1End_tot s hsl l [] 1 (by simp only [List.nil_append]; omega)
      refine ⟨_, Ev.bnd1 (spec_in_eq _ _ _) (Ev.pos (decide_eq_true g) (Ev.bnd (a := r) ?_ (Ev.ret _))), fun h => absurd h hs⟩
      simp only [spec_l1End.f]
      simpa using h
    · exact ⟨_, Ev.bnd1 (spec_in_eq _ _ _) (Ev.neg (by rw [decide_eq_false g]; simp) (Ev.ret _)), fun h => absurd h hs⟩
theorem spec_l4Lit_tot (s : List Int) (hsl : s.length ≤ 1048576) (x : S65) : ∃ b, Ev (fun k => spec_l4Lit.f k s x.f0 x.f1 x.f2) b ∧ (goodSign s = true → b = isLit s x) := by
  obtain ⟨b1, h1, e1⟩ := spec_l1Term_tot s hsl x.f1
  obtain ⟨b2, h2, e2⟩ := spec_l1Term_tot s hsl x.f2
  simp only [spec_l4Lit.f]
  cases b1 with
  | true => exact ⟨b2, Ev.bnd h1 (Ev.pos rfl (Ev.bnd h2 (Ev.ret _))), fun h => by unfold isLit; rw [← e1 h, ← e2 h]; rfl⟩
  | false => exact ⟨false, Ev.bnd h1 (Ev.neg (by simp) (Ev.ret _)), fun h => by unfold isLit; rw [← e1 h]; rfl⟩
theorem spec_l4Clause_l0 (s : List Int) (hsl : s.length ≤ 1048576) (x1 : List S65) (post : List S65) : ∀ pre : List S65, (pre ++ post).length ≤ 1048576 →
    ∃ b, Ev (fun k => spec_l4Clause.l0 k x1 (pre ++ post) ((pre ++ post).length : Int) (pre.length : Int) s) b ∧ (goodSign s = true → b = (post.all (isLit s) && decide (x1.length ≤ 8))) := by
  induction post with
  | nil =>
    intro pre hl
    refine ⟨decide ((x1.length : Int) ≤ 8), Ev.succ ?_, fun _ => ?_⟩
    · simp only [spec_l4Clause.l0]
      exact Ev.neg (by simp) (Ev.ret _)
    · rw [List.all_nil, Bool.true_and]; congr 1; simp only [eq_iff_iff]; omega
  | cons x post ih =>
    intro pre hl
    have hl' := hl
    simp only [List.length_append, List.length_cons] at hl
    obtain ⟨b1, h1, e1⟩ := spec_l4Lit_tot s hsl x
    have pref : ∀ {g : Nat → Option Bool} {r : Bool}, Ev (fun k => (spec_l4Lit.f k s x.f0 x.f1 x.f2).bind fun t => if t = true then g k else some false) r → Ev (fun k => if (pre.length : Int) < ((pre ++ x :: post).length : Int) then (if 0 ≤ (pre.length : Int) then (if (pre.length : Int) < ((pre ++ x :: post).length : Int) then ((spec_l4Lit.f k s ((rd_T65 (pre ++ x :: post) (pre.length : Int)).f0) ((rd_T65 (pre ++ x :: post) (pre.length : Int)).f1) ((rd_T65 (pre ++ x :: post) (pre.length : Int)).f2)).bind fun t => if t = true then g k else some false) else none) else none) else some (decide ((x1.length : Int) ≤ 8))) r := by
      intro g r h
      refine Ev.pos (by simp only [List.length_append, List.length_cons]; omega) (Ev.pos (by omega) (Ev.pos (by simp only [List.length_append, List.length_cons]; omega) ?_))
      rw [rdLB_mid]
      exact h
    cases b1 with
    | true =>
      obtain ⟨b2, h2, e2⟩ := ih (pre ++ [x]) (by simpa using hl')
      refine ⟨b2, Ev.succ ?_, fun h => by rw [e2 h, List.all_cons, ← e1 h, Bool.true_and]⟩
      simp only [spec_l4Clause.l0]
      rw [w64 (x := (pre.length : Int) + 1) (by omega) (by omega)]
      exact pref (Ev.bnd h1 (Ev.pos rfl (by simpa using h2)))
    | false =>
      refine ⟨false, Ev.succ ?_, fun h => by rw [List.all_cons, ← e1 h, Bool.false_and, Bool.false_and]⟩
      simp only [spec_l4Clause.l0]
      exact pref (Ev.bnd h1 (Ev.neg (by simp) (Ev.ret _)))
theorem spec_l4Clause_tot (s : List Int) (hsl : s.length ≤ 1048576) (l : List S65) (hl : l.length ≤ 1048576) : ∃ b, Ev (fun k => spec_l4Clause.f k s l) b ∧ (goodSign s = true → b = isClause s l) := by
  obtain ⟨b, h, e⟩ := spec_l4Clause_l0 s hsl l l [] (by simpa using hl)
  simp only [spec_l4Clause.f]
  exact ⟨b, by simpa using h, fun hs => by rw [e hs, isClause, Bool.and_comm]⟩
theorem impl_isLit_ev (s : List Int) (hs : goodSign s = true) (x : S65) : Ev (fun k => impl_Sign_isLit.f k s x.f0 x.f1 x.f2) (isLit s x) := by
  simp only [impl_Sign_isLit.f]
  refine Ev.bnd (impl_isTerm_ev s hs x.f1) ?_
  unfold isLit
  cases isTerm s x.f1 with
  | true => exact Ev.pos rfl (Ev.bnd (impl_isTerm_ev s hs x.f2) (Ev.eq (Ev.ret _) rfl))
  | false => exact Ev.neg (by simp) (Ev.ret _)
/-- A search through a row whose word takes rounds. -/
theorem anyO_ev {α : Type} (f : Nat → α → Option Bool) (p : α → Bool) (l : List α) (h : ∀ x ∈ l, Ev (fun k => f k x) (!p x)) : Ev (fun k => anyO (fun x => f k x) l) (!l.all p) := by
  induction l with
  | nil => exact Ev.ret _
  | cons x t ih =>
    simp only [anyO]
    refine Ev.bnd (h x (by simp)) ?_
    cases hp : p x with
    | true => exact Ev.neg (by simp) (Ev.eq (ih (fun y hy => h y (by simp [hy]))) (by simp [hp]))
    | false => exact Ev.pos rfl (Ev.eq (Ev.ret _) (by simp [hp]))
theorem impl_isClause_ev (s : List Int) (hs : goodSign s = true) (l : List S65) : Ev (fun k => impl_Sign_isClause.f k s l) (isClause s l) := by
  simp only [impl_Sign_isClause.f, isClause]
  by_cases g : l.length ≤ 8
  · refine Ev.pos (by omega) (Ev.bnd (a := !l.all (isLit s)) ?_ (Ev.eq (Ev.ret _) ?_))
    · simp only [impl_Sign_isClause_1_any.f]
      refine anyO_ev _ _ _ (fun x _ => ?_)
      simp only [impl_Sign_isClause_1.f]
      exact Ev.bnd (impl_isLit_ev s hs x) (Ev.ret _)
    · rw [decide_eq_true g, Bool.not_not, Bool.true_and]
  · exact Ev.neg (by omega) (Ev.eq (Ev.ret _) (by rw [decide_eq_false g, Bool.false_and]))

/-! Good clauses. -/
/-! What good terms, literals and clauses are. -/
theorem isTerm_of {s l : List Int} (h : isTerm s l = true) : l.length ≤ 40 ∧ eat s l 1 = some [] := by
  unfold isTerm at h
  simp only [Bool.and_eq_true, decide_eq_true_eq, beq_iff_eq] at h
  exact ⟨h.1.2, h.2⟩
theorem isLit_of {s : List Int} {x : S65} (h : isLit s x = true) : isTerm s x.f1 = true ∧ isTerm s x.f2 = true := by
  unfold isLit at h
  rwa [Bool.and_eq_true] at h
theorem isClause_of {s : List Int} {c : List S65} (h : isClause s c = true) : c.length ≤ 8 ∧ ∀ x ∈ c, isLit s x = true := by
  unfold isClause at h
  rw [Bool.and_eq_true, decide_eq_true_eq, List.all_eq_true] at h
  exact h

/-! Several things at once, with enough rounds. -/
def Evp (P : Nat → Prop) : Prop := ∃ K, ∀ k, K ≤ k → P k
theorem Evp.and {P Q : Nat → Prop} (hp : Evp P) (hq : Evp Q) : Evp (fun k => P k ∧ Q k) := by
  obtain ⟨K1, h1⟩ := hp
  obtain ⟨K2, h2⟩ := hq
  exact ⟨K1 + K2, fun k hk => ⟨h1 k (by omega), h2 k (by omega)⟩⟩
theorem Evp.some {P : Nat → Prop} (h : Evp P) : ∃ k, P k := by
  obtain ⟨K, h⟩ := h
  exact ⟨K, h K (Nat.le_refl _)⟩
theorem Evp.of {α : Type} {g : Nat → Option α} {r : α} (h : Ev g r) : Evp (fun k => g k = .some r) := h
def ups : Int → Nat → List Int
  | _, 0 => []
  | m, n + 1 => m :: ups (m + 1) n
theorem ups_len (n : Nat) : ∀ m, (ups m n).length = n := by
  induction n with
  | zero => intro m; rfl
  | succ n ih => intro m; simp [ups, ih]
theorem markIntS_l0 (post : List Int) : ∀ (pre : List Int) (m : Int), 0 ≤ m → m + post.length ≤ 4611686018427387904 → (pre ++ post).length ≤ 140737488351232 → Ev (fun k => laws_markIntS.l0 k (pre ++ post) m (pre.length : Int)) (m + post.length, pre ++ ups m post.length) := by
  induction post with
  | nil =>
    intro pre m h0 h1 hl
    refine Ev.succ ?_
    simp only [laws_markIntS.l0]
    exact Ev.neg (by simp) (Ev.eq (Ev.ret _) (by simp [ups]))
  | cons x post ih =>
    intro pre m h0 h1 hl
    simp only [List.length_append, List.length_cons] at hl h1
    have h := ih (pre ++ [m]) (m + 1) (by omega) (by omega) (by simp only [List.length_append, List.length_cons, List.length_nil]; omega)
    refine Ev.succ ?_
    simp only [laws_markIntS.l0]
    refine Ev.pos (by simp only [List.length_append, List.length_cons]; omega) (Ev.pos (by omega) ?_)
    rw [w64 (x := m + 1) (by omega) (by omega), w64 (by omega) (by omega)]
    have e : (pre ++ x :: post).set ((pre.length : Int)).toNat m = pre ++ [m] ++ post := by simp
    rw [e]
    refine Ev.eq (by simpa using h) ?_
    simp only [ups, List.length_cons, Prod.mk.injEq]
    exact ⟨by omega, trivial⟩
theorem markIntS (l : List Int) (m : Int) (h0 : 0 ≤ m) (h1 : m + l.length ≤ 4611686018427387904) (hl : l.length ≤ 140737488351232) : Ev (fun k => laws_markIntS.f k l m) (m + l.length, ups m l.length) := by
  simp only [laws_markIntS.f]
  simpa using markIntS_l0 l [] m h0 h1 (by simpa using hl)
theorem heldIntS_l0 (n : Nat) : ∀ (pre : List Int) (m : Int), 0 ≤ m → m + n ≤ 4611686018427387904 → pre.length + n ≤ 140737488351232 → Ev (fun k => laws_heldIntS.l0 k (pre ++ ups m n) m (pre.length : Int)) (m + n) := by
  induction n with
  | zero =>
    intro pre m h0 h1 hl
    refine Ev.succ ?_
    simp only [laws_heldIntS.l0]
    exact Ev.neg (by simp [ups]) (Ev.eq (Ev.ret _) (by simp))
  | succ n ih =>
    intro pre m h0 h1 hl
    have h := ih (pre ++ [m]) (m + 1) (by omega) (by omega) (by simp only [List.length_append, List.length_cons, List.length_nil]; omega)
    refine Ev.succ ?_
    simp only [laws_heldIntS.l0]
    refine Ev.pos (by simp only [List.length_append, ups_len]; omega) (Ev.pos (by omega) (Ev.pos (by simp only [ups]; exact rd_mid _ _ _) ?_))
    rw [w64 (x := m + 1) (by omega) (by omega), w64 (by omega) (by omega)]
    refine Ev.eq (by simpa [ups] using h) (by omega)
theorem heldIntS (n : Nat) (m : Int) (h0 : 0 ≤ m) (h1 : m + n ≤ 4611686018427387904) (hl : n ≤ 140737488351232) : Ev (fun k => laws_heldIntS.f k (ups m n) m) (m + n) := by
  simp only [laws_heldIntS.f]
  simpa using heldIntS_l0 n [] m h0 h1 (by simpa using hl)

theorem sum_le_mul {α : Type} (f : α → Nat) (c : Nat) (l : List α) (h : ∀ x ∈ l, f x ≤ c) : (l.map f).sum ≤ l.length * c := by
  induction l with
  | nil => simp
  | cons x t ih =>
    have h1 := ih (fun y hy => h y (by simp [hy]))
    have h2 := h x (by simp)
    rw [List.map_cons, List.sum_cons, List.length_cons, Nat.add_mul, Nat.one_mul]
    omega
theorem ltot_le (l : List S65) (hl : l.length ≤ 1048576) (hk : ∀ x ∈ l, smLit x) : ltot l ≤ 2199024304128 := by
  have h := sum_le_mul lsz 2097153 l (fun x hx => by have := hk x hx; unfold smLit at this; unfold lsz; omega)
  have h2 : l.length * 2097153 ≤ 1048576 * 2097153 := Nat.mul_le_mul_right _ hl
  unfold ltot
  omega
theorem markSign_ev (l : List Int) (m : Int) (h0 : 0 ≤ m) (h1 : m + l.length ≤ 4611686018427387904) (hl : l.length ≤ 140737488351232) : Ev (fun k => laws_markSign.f k l m) (m + l.length, ups m l.length) := by
  simp only [laws_markSign.f]
  exact Ev.bnd (markIntS l m h0 h1 hl) (Ev.ret _)

/-! Result literals, marked and held. -/
def upsL : Int → List S65 → List S65
  | _, [] => []
  | a, x :: t => ⟨a % 3 == 0, ups (a + 1) x.f1.length, ups (a + 1 + x.f1.length) x.f2.length⟩ :: upsL (a + lsz x) t
theorem upsL_len (l : List S65) : ∀ a, (upsL a l).length = l.length := by
  induction l with
  | nil => intro a; rfl
  | cons x t ih => intro a; simp [upsL, ih]
theorem ltot_cons (x : S65) (t : List S65) : ltot (x :: t) = lsz x + ltot t := by simp [ltot]
theorem mkLS_ev (l : List S65) : ∀ a : Int, 0 ≤ a → a + ltot l ≤ 4611686018427387904 → (∀ x ∈ l, smLit x) → Ev (fun k => mkLS k l a) (a + ltot l, upsL a l) := by
  induction l with
  | nil => intro a h0 h1 hk; exact Ev.eq (Ev.ret _) (by simp [ltot, upsL])
  | cons x t ih =>
    intro a h0 h1 hk
    rw [ltot_cons] at h1 ⊢
    have hx := hk x (by simp)
    unfold smLit at hx
    have hs : lsz x = 1 + x.f1.length + x.f2.length := rfl
    have h := ih (a + lsz x) (by omega) (by omega) (fun y hy => hk y (by simp [hy]))
    simp only [mkLS]
    refine Ev.pos ⟨h0, by omega⟩ (Ev.bnd (markIntS x.f1 (a + 1) (by omega) (by omega) (by omega)) (Ev.bnd (markIntS x.f2 (a + 1 + x.f1.length) (by omega) (by omega) (by omega)) ?_))
    have e : a + 1 + (x.f1.length : Int) + (x.f2.length : Int) = a + (lsz x : Int) := by omega
    simp only [e]
    refine Ev.bnd h (Ev.eq (Ev.ret _) ?_)
    simp only [upsL, Prod.mk.injEq]
    exact ⟨by omega, trivial⟩
theorem heldLitS_l0 (l : List S65) : ∀ (pre : List S65) (a : Int), 0 ≤ a → a + ltot l ≤ 4611686018427387904 → (∀ x ∈ l, smLit x) → pre.length + l.length ≤ 1048576 →
    Ev (fun k => laws_heldLitS.l0 k (pre ++ upsL a l) a (pre.length : Int)) (a + ltot l) := by
  induction l with
  | nil =>
    intro pre a h0 h1 hk hl
    refine Ev.succ ?_
    simp only [laws_heldLitS.l0]
    exact Ev.neg (by simp [upsL]) (Ev.eq (Ev.ret _) (by simp [ltot]))
  | cons x t ih =>
    intro pre a h0 h1 hk hl
    rw [ltot_cons] at h1 ⊢
    have hx := hk x (by simp)
    unfold smLit at hx
    have hs : lsz x = 1 + x.f1.length + x.f2.length := rfl
    rw [List.length_cons] at hl
    have h := ih (pre ++ [(⟨a % 3 == 0, ups (a + 1) x.f1.length, ups (a + 1 + x.f1.length) x.f2.length⟩ : S65)]) (a + lsz x) (by omega) (by omega) (fun y hy => hk y (by simp [hy])) (by rw [List.length_append, List.length_singleton]; omega)
    refine Ev.succ ?_
    simp only [laws_heldLitS.l0, upsL]
    refine Ev.pos (by simp only [List.length_append, List.length_cons, upsL_len]; omega) (Ev.pos (by omega) ?_)
    simp only [rdLB_mid]
    rw [w64 (x := a + 1) (by omega) (by omega), w64 (x := (pre.length : Int) + 1) (by omega) (by omega)]
    refine Ev.neg (by rw [Int.tmod_eq_emod_of_nonneg h0]; simp) (Ev.bnd (heldIntS x.f1.length (a + 1) (by omega) (by omega) (by omega)) (Ev.neg (by omega) (Ev.bnd (heldIntS x.f2.length (a + 1 + x.f1.length) (by omega) (by omega) (by omega)) (Ev.neg (by omega) ?_))))
    have e : a + 1 + (x.f1.length : Int) + (x.f2.length : Int) = a + (lsz x : Int) := by omega
    rw [e]
    exact Ev.eq (by simpa using h) (by omega)
theorem heldLitS_ev (l : List S65) (a : Int) (h0 : 0 ≤ a) (h1 : a + ltot l ≤ 4611686018427387904) (hl : l.length ≤ 1048576) (hk : ∀ x ∈ l, smLit x) : Ev (fun k => laws_heldLitS.f k (upsL a l) a) (a + ltot l) := by
  simp only [laws_heldLitS.f]
  simpa using heldLitS_l0 l [] a h0 h1 hk (by simpa using hl)

/-! Clauses read back from their texts. -/
theorem bt_get9 (x : ByteArray) (i : Nat) (h : i < x.data.toList.length) : bt x (i : Int) = ((x.data.toList[i]).toNat : Int) := by
  have h2 : i < x.size := by simpa using h
  unfold bt
  rw [dif_pos (show (i : Int).toNat < x.size from h2)]
  show ((x[i]'h2).toNat : Int) = _
  rw [ByteArray.getElem_eq_getElem_data, Array.getElem_toList]
theorem isOne_iff (x : ByteArray) (c : UInt8) : x.toList = [c] ↔ x.size = 1 ∧ bt x 0 = (c.toNat : Int) := by
  rw [ByteArray.toList_eq]
  have hs : x.size = x.data.toList.length := by rw [Array.length_toList]; rfl
  constructor
  · intro h
    have h1 : x.data.toList.length = 1 := by rw [h]; rfl
    refine ⟨by rw [hs, h1], ?_⟩
    have := bt_get9 x 0 (by omega)
    rw [show ((0 : Nat) : Int) = 0 from rfl] at this
    rw [this]
    simp [h]
  · rintro ⟨h1, h2⟩
    rw [hs] at h1
    have := bt_get9 x 0 (by omega)
    rw [show ((0 : Nat) : Int) = 0 from rfl, h2] at this
    match e : x.data.toList, h1 with
    | [y], _ =>
      simp only [e, List.getElem_cons_zero] at this
      have h3 : c.toNat = y.toNat := by omega
      rw [UInt8.toNat_inj.1 h3]
def nx (X : ByteArray) (a : Nat) (bad : Bool) : Int := if bad = true then 0 else if a < X.size then bt X (a : Int) else 0
theorem next_eq (s : List Int) (X : ByteArray) (a : Nat) (bad : Bool) : impl_parser_next.f s X (a : Int) 12 bad = some (nx X a bad, X, (a : Int), 12, bad) := by
  unfold impl_parser_next.f nx
  cases bad with
  | true => rfl
  | false =>
    simp only [Bool.false_eq_true, ↓reduceIte]
    by_cases g : a < X.size
    · rw [if_neg (by omega), if_pos (by omega), if_pos (by omega), if_pos g]
    · rw [if_pos (by omega), if_neg g]
theorem take1_ev (s : List Int) (X : ByteArray) (a : Nat) (bad : Bool) (c : UInt8) (v : Int) (hv : (c.toNat : Int) = v) (hc : v ≠ 0) (ha : a ≤ 1000) :
    Ev (fun k => impl_parser_take.f k s X (a : Int) 12 bad ⟨#[c]⟩) (if nx X a bad = v then (v, X, (a : Int) + 1, 12, bad) else (0, X, (a : Int), 12, true)) := by
  have hb : bt ⟨#[c]⟩ 0 = v := by rw [← hv]; rfl
  have hz : (((⟨#[c]⟩ : ByteArray).size : Nat) : Int) = 1 := rfl
  simp only [impl_parser_take.f]
  refine Ev.bnd1 (next_eq s X a bad) ?_
  simp only [hz]
  refine Ev.succ ?_
  simp only [impl_parser_take.l0, hb, hz]
  refine Ev.pos (by omega) (Ev.pos (by omega) (Ev.pos (by omega) ?_))
  by_cases g : nx X a bad = v
  · rw [if_pos g, g, w64 (x := (a : Int) + 1) (by omega) (by omega)]
    exact Ev.pos rfl (Ev.neg hc (Ev.ret _))
  · rw [if_neg g]
    refine Ev.neg g (Ev.succ ?_)
    simp only [impl_parser_take.l0]
    exact Ev.neg (by rw [w64 (by omega) (by omega)]; omega) (Ev.ret _)
theorem take2_ev (s : List Int) (X : ByteArray) (a : Nat) (ha : a ≤ 1000) :
    Ev (fun k => impl_parser_take.f k s X (a : Int) 12 false ⟨#[61, 35]⟩) (if nx X a false = 61 ∨ nx X a false = 35 then (nx X a false, X, (a : Int) + 1, 12, false) else (0, X, (a : Int), 12, true)) := by
  have hb : bt ⟨#[61, 35]⟩ 0 = 61 := rfl
  have hb2 : bt ⟨#[61, 35]⟩ 1 = 35 := rfl
  have hz : (((⟨#[61, 35]⟩ : ByteArray).size : Nat) : Int) = 2 := rfl
  simp only [impl_parser_take.f]
  refine Ev.bnd1 (next_eq s X a false) ?_
  simp only [hz]
  refine Ev.succ ?_
  simp only [impl_parser_take.l0, hb, hz]
  rw [w64 (x := (0 : Int) + 1) (by omega) (by omega), w64 (x := (a : Int) + 1) (by omega) (by omega)]
  refine Ev.pos (by omega) (Ev.pos (by omega) (Ev.pos (by omega) ?_))
  by_cases g : nx X a false = 61
  · rw [if_pos (Or.inl g), g]
    exact Ev.pos rfl (Ev.neg (by omega) (Ev.ret _))
  · refine Ev.neg g (Ev.succ ?_)
    simp only [impl_parser_take.l0, Int.zero_add, hb2, hz]
    rw [w64 (x := (1 : Int) + 1) (by omega) (by omega), w64 (x := (a : Int) + 1) (by omega) (by omega)]
    refine Ev.pos (by omega) (Ev.pos (by omega) (Ev.pos (by omega) ?_))
    by_cases g2 : nx X a false = 35
    · rw [if_pos (Or.inr g2), g2]
      exact Ev.pos rfl (Ev.neg (by omega) (Ev.ret _))
    · rw [if_neg (by omega)]
      refine Ev.neg g2 (Ev.succ ?_)
      simp only [impl_parser_take.l0]
      exact Ev.neg (by omega) (Ev.ret _)
def TermOK (s : List Int) (X : ByteArray) (a : Nat) : Prop :=
  ∃ (e : Nat) (t t' : List Int) (ok : Bool), a ≤ e ∧ e ≤ X.size ∧ (ok = true → a < e ∧ t' = t) ∧ (ok = false → t = []) ∧ t.length + a ≤ e ∧ t'.length + a ≤ e ∧
    Ev (fun k => spec_l1ReadTerm.f k s X (a : Int)) (t, (e : Int), ok) ∧ Ev (fun k => impl_parser_term.f k s X (a : Int) 12 false) (t', X, (e : Int), 12, !ok)
/-- The sign ahead of an argument stands here. -/
def hit (X : ByteArray) (a i : Nat) : Prop := a < X.size ∧ bt X (a : Int) = if i = 0 then 40 else 44
theorem spec_l0_in (s : List Int) (X : ByteArray) (n a i : Nat) (out : List Int) (R : List Int × Int × Bool) (hn : n < s.length) (hs : s.length ≤ 1000) (ha : a ≤ X.size) (hX : X.size ≤ 1000) (g : (i : Int) < rd s (n : Int))
    (h : Ev (fun k => spec_l1ReadTerm.j2 k X (a : Int) (97 + n : Int) out (i : Int) (!decide (a < X.size ∧ bt X (a : Int) = if i = 0 then 40 else 44)) s) R) :
    Ev (fun k => spec_l1ReadTerm.l0 k X (a : Int) (97 + n : Int) out (i : Int) s) R := by
  have hw : wrap64 ((97 + n : Int) - 97) = (n : Int) := by rw [w64 (by omega) (by omega)]; omega
  have hj : ∀ c : Int, c = (if i = 0 then 40 else 44) → Ev (fun k => spec_l1ReadTerm.j1 k X (a : Int) (97 + n : Int) out (i : Int) c s) R := fun c hc => by
    subst hc
    refine Ev.succ ?_
    simp only [spec_l1ReadTerm.j1]
    by_cases g2 : a < X.size
    · refine Ev.neg (by omega) (Ev.pos (by omega) (Ev.pos (by omega) ?_))
      refine Ev.congr (fun k => ?_) h
      congr 1
      by_cases g3 : bt X (a : Int) = if i = 0 then 40 else 44
      · rw [decide_eq_true ⟨g2, g3⟩]; simpa using g3
      · rw [decide_eq_false (fun q => g3 q.2)]; simpa using g3
    · refine Ev.pos (by omega) ?_
      rw [decide_eq_false (fun q => g2 q.1)] at h
      exact h
  refine Ev.succ ?_
  simp only [spec_l1ReadTerm.l0, hw]
  refine Ev.pos (by omega) (Ev.pos (by omega) (Ev.pos g ?_))
  by_cases gi : i = 0
  · exact Ev.pos (by omega) (hj 40 (by rw [if_pos gi]))
  · exact Ev.neg (by omega) (hj 44 (by rw [if_neg gi]))
theorem spec_l0_hit (s : List Int) (X : ByteArray) (n a i e : Nat) (out t : List Int) (ok : Bool) (R : List Int × Int × Bool) (hn : n < s.length) (hs : s.length ≤ 1000) (ha : a ≤ X.size) (hX : X.size ≤ 1000) (hi : i ≤ 1000) (g : (i : Int) < rd s (n : Int)) (hh : hit X a i)
    (hf : Ev (fun k => spec_l1ReadTerm.f k s X ((a + 1 : Nat) : Int)) (t, (e : Int), ok)) (hl : out.length + t.length ≤ 1000000) (h1 : ok = true → Ev (fun k => spec_l1ReadTerm.l0 k X (e : Int) (97 + n : Int) (out ++ t) ((i + 1 : Nat) : Int) s) R) (h2 : ok = false → R = ([], (e : Int), false)) :
    Ev (fun k => spec_l1ReadTerm.l0 k X (a : Int) (97 + n : Int) out (i : Int) s) R := by
  refine spec_l0_in s X n a i out R hn hs ha hX g ?_
  unfold hit at hh
  rw [decide_eq_true hh]
  refine Ev.succ ?_
  simp only [spec_l1ReadTerm.j2]
  rw [w64 (x := (a : Int) + 1) (by omega) (by omega), w64 (x := (i : Int) + 1) (by omega) (by omega)]
  refine Ev.neg (by decide) (Ev.bnd (a := (t, (e : Int), ok)) hf ?_)
  cases ok with
  | true => exact Ev.pos rfl (Ev.pos (by simp only; omega) (h1 rfl))
  | false => exact Ev.neg (by simp) (Ev.eq (Ev.ret _) (h2 rfl).symm)
theorem spec_l0_miss (s : List Int) (X : ByteArray) (n a i : Nat) (out : List Int) (hn : n < s.length) (hs : s.length ≤ 1000) (ha : a ≤ X.size) (hX : X.size ≤ 1000) (g : (i : Int) < rd s (n : Int)) (hh : ¬ hit X a i) :
    Ev (fun k => spec_l1ReadTerm.l0 k X (a : Int) (97 + n : Int) out (i : Int) s) ([], (a : Int), false) := by
  refine spec_l0_in s X n a i out _ hn hs ha hX g ?_
  unfold hit at hh
  rw [decide_eq_false hh]
  refine Ev.succ ?_
  simp only [spec_l1ReadTerm.j2]
  exact Ev.pos rfl (Ev.ret _)
theorem take_hit (s : List Int) (X : ByteArray) (a i : Nat) (hX : X.size ≤ 1000) (ha : a ≤ X.size) (c : UInt8) (v : Int) (hv : (c.toNat : Int) = v) (hc : v = if i = 0 then 40 else 44) :
    (hit X a i → Ev (fun k => impl_parser_take.f k s X (a : Int) 12 false ⟨#[c]⟩) (v, X, (a : Int) + 1, 12, false)) ∧ (¬ hit X a i → Ev (fun k => impl_parser_take.f k s X (a : Int) 12 false ⟨#[c]⟩) (0, X, (a : Int), 12, true)) := by
  have hv0 : v ≠ 0 := by rw [hc]; split <;> omega
  have h := take1_ev s X a false c v hv hv0 (by omega)
  have e : nx X a false = v ↔ hit X a i := by
    unfold nx hit
    rw [if_neg (by decide), ← hc]
    by_cases g : a < X.size
    · rw [if_pos g]; exact ⟨fun q => ⟨g, q⟩, fun q => q.2⟩
    · rw [if_neg g]; exact ⟨fun q => absurd q.symm hv0, fun q => absurd q.1 g⟩
  exact ⟨fun q => by rwa [if_pos (e.2 q)] at h, fun q => by rwa [if_neg (fun z => q (e.1 z))] at h⟩
theorem impl_l0_hit (s : List Int) (X : ByteArray) (n : Int) (ar : Int) (a i e : Nat) (out t : List Int) (b : Bool) (R : List Int × ByteArray × Int × Int × Bool) (ha : a ≤ X.size) (hX : X.size ≤ 1000) (hi : i ≤ 1000) (g : (i : Int) < ar) (hh : hit X a i)
    (hf : Ev (fun k => impl_parser_term.f k s X ((a + 1 : Nat) : Int) 12 false) (t, X, (e : Int), 12, b)) (hl : out.length + t.length ≤ 1000000) (h1 : Ev (fun k => impl_parser_term.l0 k n (out ++ t) ar ((i + 1 : Nat) : Int) s X (e : Int) 12 b) R) :
    Ev (fun k => impl_parser_term.l0 k n out ar (i : Int) s X (a : Int) 12 false) R := by
  refine Ev.succ ?_
  simp only [impl_parser_term.l0]
  rw [w64 (x := (i : Int) + 1) (by omega) (by omega)]
  refine Ev.pos g ?_
  by_cases gi : i = 0
  · refine Ev.pos (by omega) (Ev.bnd ((take_hit s X a i hX ha 40 40 rfl (by rw [if_pos gi])).1 hh) (Ev.neg (by simp) (Ev.bnd (a := (t, X, (e : Int), 12, b)) hf (Ev.pos (by simp only; omega) h1))))
  · refine Ev.neg (by omega) (Ev.bnd ((take_hit s X a i hX ha 44 44 rfl (by rw [if_neg gi])).1 hh) (Ev.neg (by simp) (Ev.bnd (a := (t, X, (e : Int), 12, b)) hf (Ev.pos (by simp only; omega) h1))))
theorem impl_l0_miss (s : List Int) (X : ByteArray) (n : Int) (ar : Int) (a i : Nat) (out : List Int) (ha : a ≤ X.size) (hX : X.size ≤ 1000) (g : (i : Int) < ar) (hh : ¬ hit X a i) :
    Ev (fun k => impl_parser_term.l0 k n out ar (i : Int) s X (a : Int) 12 false) ([], X, (a : Int), 12, true) := by
  refine Ev.succ ?_
  simp only [impl_parser_term.l0]
  refine Ev.pos g ?_
  by_cases gi : i = 0
  · exact Ev.pos (by omega) (Ev.bnd ((take_hit s X a i hX ha 40 40 rfl (by rw [if_pos gi])).2 hh) (Ev.pos rfl (Ev.ret _)))
  · exact Ev.neg (by omega) (Ev.bnd ((take_hit s X a i hX ha 44 44 rfl (by rw [if_neg gi])).2 hh) (Ev.pos rfl (Ev.ret _)))
theorem impl_l0_bad (s : List Int) (X : ByteArray) (n a i : Nat) (out : List Int) (hn : n < s.length) (hX : X.size ≤ 1000) (ha : a ≤ X.size) :
    ∃ t : List Int, t.length ≤ out.length ∧ Ev (fun k => impl_parser_term.l0 k (n : Int) out (rd s (n : Int)) (i : Int) s X (a : Int) 12 true) (t, X, (a : Int), 12, true) := by
  have ht : ∀ (c : UInt8) (v : Int), (c.toNat : Int) = v → v ≠ 0 → Ev (fun k => impl_parser_take.f k s X (a : Int) 12 true ⟨#[c]⟩) (0, X, (a : Int), 12, true) := fun c v hv hv0 => by
    have h := take1_ev s X a true c v hv hv0 (by omega)
    rwa [if_neg (by unfold nx; rw [if_pos rfl]; exact fun q => hv0 q.symm)] at h
  by_cases g : (i : Int) < rd s (n : Int)
  · refine ⟨[], by simp, Ev.succ ?_⟩
    simp only [impl_parser_term.l0]
    refine Ev.pos g ?_
    by_cases gi : i = 0
    · exact Ev.pos (by omega) (Ev.bnd (ht 40 40 rfl (by omega)) (Ev.pos rfl (Ev.ret _)))
    · exact Ev.neg (by omega) (Ev.bnd (ht 44 44 rfl (by omega)) (Ev.pos rfl (Ev.ret _)))
  · refine ⟨out, Nat.le_refl _, Ev.succ ?_⟩
    simp only [impl_parser_term.l0]
    refine Ev.neg g (Ev.pos (by omega) (Ev.pos (by omega) ?_))
    by_cases g2 : rd s (n : Int) > 0
    · exact Ev.pos g2 (Ev.pos (by simp) (Ev.ret _))
    · exact Ev.neg g2 (Ev.ret _)
theorem loop_ev (s : List Int) (X : ByteArray) (hs : s.length ≤ 1000) (hX : X.size ≤ 1000) (n : Nat) (hn : n < s.length) (M : Nat) (IH : ∀ a, a ≤ X.size → X.size - a < M → TermOK s X a) (a0 : Nat) (d : Nat) :
    ∀ (a i : Nat) (out : List Int), X.size - a = d → a ≤ X.size → X.size - a ≤ M → i ≤ a → out.length + a0 ≤ a →
    ∃ (e : Nat) (t t' : List Int) (ok : Bool), a ≤ e ∧ e ≤ X.size ∧ (ok = true → t' = t) ∧ (ok = false → t = []) ∧ t.length + a0 ≤ e ∧ t'.length + a0 ≤ e ∧
      Ev (fun k => spec_l1ReadTerm.l0 k X (a : Int) (97 + n : Int) out (i : Int) s) (t, (e : Int), ok) ∧ Ev (fun k => impl_parser_term.l0 k (n : Int) out (rd s (n : Int)) (i : Int) s X (a : Int) 12 false) (t', X, (e : Int), 12, !ok) := by
  induction d using Nat.strongRecOn with
  | _ d ih =>
    intro a i out hd ha hM hi ho
    by_cases g : (i : Int) < rd s (n : Int)
    · by_cases hh : hit X a i
      · have hlt := hh.1
        obtain ⟨e, t, t', ok, p1, p2, p3, p4, p5, p6, p7, p8⟩ := IH (a + 1) (by omega) (by omega)
        cases ok with
        | true =>
          obtain ⟨p3a, rfl⟩ := p3 rfl
          obtain ⟨e', u, u', ok', q1, q2, q3, q4, q5, q6, q7, q8⟩ := ih (X.size - e) (by omega) e (i + 1) (out ++ t') rfl p2 (by omega) (by omega) (by rw [List.length_append]; omega)
          exact ⟨e', u, u', ok', by omega, q2, q3, q4, q5, q6, spec_l0_hit s X n a i e out t' true _ hn hs ha hX (by omega) g hh p7 (by omega) (fun _ => q7) (by simp), impl_l0_hit s X n _ a i e out t' false _ ha hX (by omega) g hh p8 (by omega) q8⟩
        | false =>
          obtain ⟨u, hu, hb⟩ := impl_l0_bad s X n e (i + 1) (out ++ t') hn hX p2
          rw [List.length_append] at hu
          have ht := p4 rfl
          subst ht
          exact ⟨e, [], u, false, by omega, p2, by simp, fun _ => rfl, by simp only [List.length_nil]; omega, by omega, spec_l0_hit s X n a i e out [] false _ hn hs ha hX (by omega) g hh p7 (by simp only [List.length_nil]; omega) (by simp) (fun _ => rfl), impl_l0_hit s X n _ a i e out t' true _ ha hX (by omega) g hh p8 (by omega) hb⟩
      · exact ⟨a, [], [], false, Nat.le_refl _, ha, by simp, fun _ => rfl, by simp only [List.length_nil]; omega, by simp only [List.length_nil]; omega, spec_l0_miss s X n a i out hn hs ha hX g hh, impl_l0_miss s X n _ a i out ha hX g hh⟩
    · have hw : wrap64 ((97 + n : Int) - 97) = (n : Int) := by rw [w64 (by omega) (by omega)]; omega
      by_cases g2 : rd s (n : Int) > 0
      · have ht := take1_ev s X a false 41 41 rfl (by omega) (by omega)
        by_cases g3 : a < X.size ∧ bt X (a : Int) = 41
        · rw [if_pos (by unfold nx; rw [if_neg (by decide), if_pos g3.1]; exact g3.2)] at ht
          refine ⟨a + 1, out, out, true, by omega, by omega, fun _ => rfl, by simp, by omega, by omega, Ev.succ ?_, Ev.succ ?_⟩
          · simp only [spec_l1ReadTerm.l0, hw]
            refine Ev.pos (by omega) (Ev.pos (by omega) (Ev.neg g (Ev.pos g2 (Ev.neg (by omega) (Ev.pos (by omega) (Ev.pos (by omega) (Ev.pos g3.2 (Ev.eq (Ev.ret _) ?_))))))))
            rw [w64 (by omega) (by omega)]; simp
          · simp only [impl_parser_term.l0]
            exact Ev.neg g (Ev.pos (by omega) (Ev.pos (by omega) (Ev.pos g2 (Ev.neg (by decide) (Ev.bnd ht (Ev.eq (Ev.ret _) (by simp)))))))
        · rw [if_neg (by
            unfold nx
            rw [if_neg (by decide)]
            by_cases g4 : a < X.size
            · rw [if_pos g4]; exact fun q => g3 ⟨g4, q⟩
            · rw [if_neg g4]; omega)] at ht
          refine ⟨a, [], out, false, Nat.le_refl _, ha, by simp, fun _ => rfl, by simp only [List.length_nil]; omega, by omega, Ev.succ ?_, Ev.succ ?_⟩
          · simp only [spec_l1ReadTerm.l0, hw]
            refine Ev.pos (by omega) (Ev.pos (by omega) (Ev.neg g (Ev.pos g2 ?_)))
            by_cases g4 : a < X.size
            · exact Ev.neg (by omega) (Ev.pos (by omega) (Ev.pos (by omega) (Ev.neg (fun q => g3 ⟨g4, q⟩) (Ev.ret _))))
            · exact Ev.pos (by omega) (Ev.ret _)
          · simp only [impl_parser_term.l0]
            exact Ev.neg g (Ev.pos (by omega) (Ev.pos (by omega) (Ev.pos g2 (Ev.neg (by decide) (Ev.bnd ht (Ev.ret _))))))
      · refine ⟨a, out, out, true, Nat.le_refl _, ha, fun _ => rfl, by simp, by omega, by omega, Ev.succ ?_, Ev.succ ?_⟩
        · simp only [spec_l1ReadTerm.l0, hw]
          exact Ev.pos (by omega) (Ev.pos (by omega) (Ev.neg g (Ev.neg g2 (Ev.ret _))))
        · simp only [impl_parser_term.l0]
          exact Ev.neg g (Ev.pos (by omega) (Ev.pos (by omega) (Ev.neg g2 (Ev.ret _))))
theorem term_ok (s : List Int) (X : ByteArray) (hs : s.length ≤ 100) (hX : X.size ≤ 1000) (M : Nat) : ∀ a, a ≤ X.size → X.size - a < M → TermOK s X a := by
  induction M with
  | zero => intro a _ h; exact absurd h (Nat.not_lt_zero _)
  | succ M IH =>
    intro a ha hM
    by_cases g : a < X.size
    · obtain ⟨r0, r1⟩ := bt_range X (a : Int)
      have hx : nx X a false = bt X (a : Int) := by unfold nx; rw [if_neg (by decide), if_pos g]
      generalize hv : bt X (a : Int) = v at r0 r1 hx
      have hb : wrap64 v = v := w64 (by omega) (by omega)
      by_cases g1 : 65 ≤ v ∧ v ≤ 76
      · have e1 : (v - 65) % 256 = v - 65 := Int.emod_eq_of_lt (by omega) (by omega)
        refine ⟨a + 1, [-1 - (v - 65)], [-1 - (v - 65)], true, by omega, by omega, fun _ => ⟨by omega, rfl⟩, by simp, by simp only [List.length_singleton]; omega, by simp only [List.length_singleton]; omega, Ev.succ ?_, Ev.succ ?_⟩
        · simp only [spec_l1ReadTerm.f, hv, hb]
          rw [w64 (x := v - 65) (by omega) (by omega), w64 (x := -1 - (v - 65)) (by omega) (by omega), w64 (x := (a : Int) + 1) (by omega) (by omega)]
          exact Ev.neg (by omega) (Ev.pos (by omega) (Ev.pos (by omega) (Ev.bnd1 (spec_in_eq v 65 76) (Ev.pos (decide_eq_true g1) (Ev.ret _)))))
        · simp only [impl_parser_term.f]
          refine Ev.bnd1 (next_eq s X a false) ?_
          simp only [hx, e1]
          refine Ev.pos (by omega) (Ev.succ ?_)
          simp only [impl_parser_term.j0, e1]
          rw [w64 (x := (a : Int) + 1) (by omega) (by omega)]
          exact Ev.pos (decide_eq_true (by omega)) (Ev.ret _)
      · have hs2 : Ev (fun k => spec_l1ReadTerm.f k s X (a : Int)) (([] : List Int), (a : Int), false) ∨ (97 ≤ v ∧ v ≤ 97 + (s.length : Int) - 1) := by
          by_cases g2 : 97 ≤ v ∧ v ≤ 97 + (s.length : Int) - 1
          · exact .inr g2
          · refine .inl (Ev.succ ?_)
            simp only [spec_l1ReadTerm.f, hv, hb]
            rw [w64 (x := 97 + (s.length : Int)) (by omega) (by omega), w64 (x := 97 + (s.length : Int) - 1) (by omega) (by omega)]
            exact Ev.neg (by omega) (Ev.pos (by omega) (Ev.pos (by omega) (Ev.bnd1 (spec_in_eq v 65 76) (Ev.neg (by rw [decide_eq_false g1]; simp) (Ev.bnd1 (spec_in_eq v 97 _) (Ev.neg (by rw [decide_eq_false g2]; simp) (Ev.ret _)))))))
        have hj : ∀ R : List Int × ByteArray × Int × Int × Bool, Ev (fun k => impl_parser_term.j0 k v false s X (a : Int) 12 false) R → Ev (fun k => impl_parser_term.f k s X (a : Int) 12 false) R := fun R h => by
          refine Ev.succ ?_
          simp only [impl_parser_term.f]
          refine Ev.bnd1 (next_eq s X a false) ?_
          simp only [hx]
          by_cases g3 : v ≥ 65
          · refine Ev.pos g3 ?_
            have e1 : (v - 65) % 256 = v - 65 := Int.emod_eq_of_lt (by omega) (by omega)
            rw [e1, decide_eq_false (by omega)]
            exact h
          · exact Ev.neg g3 h
        rcases hs2 with hs2 | g2
        · by_cases g2 : 97 ≤ v ∧ v ≤ 97 + (s.length : Int) - 1
          rotate_left
          · refine ⟨a, [], [], false, Nat.le_refl _, ha, by simp, fun _ => rfl, by simp only [List.length_nil]; omega, by simp only [List.length_nil]; omega, hs2, hj _ (Ev.succ ?_)⟩
            simp only [impl_parser_term.j0]
            refine Ev.neg (by decide) ?_
            by_cases g4 : v < 97
            · exact Ev.pos g4 (Ev.ret _)
            · refine Ev.neg g4 (Ev.pos ?_ (Ev.ret _))
              rw [Int.emod_eq_of_lt (by omega) (by omega)]; omega
          · obtain ⟨n, hn⟩ : ∃ n : Nat, v = 97 + (n : Int) := ⟨(v - 97).toNat, by omega⟩
            obtain ⟨e, t, t', ok, p1, p2, p3, p4, p5, p6, p7, p8⟩ := loop_ev s X (by omega) hX n (by omega) M IH a (X.size - (a + 1)) (a + 1) 0 [(n : Int)] rfl (by omega) (by omega) (by omega) (by simp only [List.length_singleton]; omega)
            have e1 : (v - 97) % 256 = (n : Int) := by rw [Int.emod_eq_of_lt (by omega) (by omega)]; omega
            refine ⟨e, t, t', ok, by omega, p2, fun q => ⟨by omega, p3 q⟩, p4, by omega, by omega, Ev.succ ?_, hj _ (Ev.succ ?_)⟩
            · simp only [spec_l1ReadTerm.f, hv, hb]
              rw [w64 (x := 97 + (s.length : Int)) (by omega) (by omega), w64 (x := 97 + (s.length : Int) - 1) (by omega) (by omega), w64 (x := (a : Int) + 1) (by omega) (by omega), w64 (x := v - 97) (by omega) (by omega)]
              refine Ev.neg (by omega) (Ev.pos (by omega) (Ev.pos (by omega) (Ev.bnd1 (spec_in_eq v 65 76) (Ev.neg (by rw [decide_eq_false g1]; simp) (Ev.bnd1 (spec_in_eq v 97 _) (Ev.pos (decide_eq_true g2) ?_))))))
              rw [hn, show (97 + (n : Int) - 97) = (n : Int) by omega]
              exact p7
            · simp only [impl_parser_term.j0, e1]
              rw [w64 (x := (a : Int) + 1) (by omega) (by omega)]
              exact Ev.neg (by decide) (Ev.neg (by omega) (Ev.neg (by omega) (Ev.pos (by omega) (Ev.pos (by omega) p8))))
        · obtain ⟨n, hn⟩ : ∃ n : Nat, v = 97 + (n : Int) := ⟨(v - 97).toNat, by omega⟩
          obtain ⟨e, t, t', ok, p1, p2, p3, p4, p5, p6, p7, p8⟩ := loop_ev s X (by omega) hX n (by omega) M IH a (X.size - (a + 1)) (a + 1) 0 [(n : Int)] rfl (by omega) (by omega) (by omega) (by simp only [List.length_singleton]; omega)
          have e1 : (v - 97) % 256 = (n : Int) := by rw [Int.emod_eq_of_lt (by omega) (by omega)]; omega
          refine ⟨e, t, t', ok, by omega, p2, fun q => ⟨by omega, p3 q⟩, p4, by omega, by omega, Ev.succ ?_, hj _ (Ev.succ ?_)⟩
          · simp only [spec_l1ReadTerm.f, hv, hb]
            rw [w64 (x := 97 + (s.length : Int)) (by omega) (by omega), w64 (x := 97 + (s.length : Int) - 1) (by omega) (by omega), w64 (x := (a : Int) + 1) (by omega) (by omega), w64 (x := v - 97) (by omega) (by omega)]
            refine Ev.neg (by omega) (Ev.pos (by omega) (Ev.pos (by omega) (Ev.bnd1 (spec_in_eq v 65 76) (Ev.neg (by rw [decide_eq_false g1]; simp) (Ev.bnd1 (spec_in_eq v 97 _) (Ev.pos (decide_eq_true g2) ?_))))))
            rw [hn, show (97 + (n : Int) - 97) = (n : Int) by omega]
            exact p7
          · simp only [impl_parser_term.j0, e1]
            rw [w64 (x := (a : Int) + 1) (by omega) (by omega)]
            exact Ev.neg (by decide) (Ev.neg (by omega) (Ev.neg (by omega) (Ev.pos (by omega) (Ev.pos (by omega) p8))))
    · have hx : nx X a false = 0 := by unfold nx; rw [if_neg (by decide), if_neg g]
      refine ⟨a, [], [], false, Nat.le_refl _, ha, by simp, fun _ => rfl, by simp only [List.length_nil]; omega, by simp only [List.length_nil]; omega, Ev.succ ?_, Ev.succ ?_⟩
      · simp only [spec_l1ReadTerm.f]
        exact Ev.pos (by omega) (Ev.eq (Ev.ret _) (by rw [show (X.size : Int) = (a : Int) by omega]))
      · simp only [impl_parser_term.f]
        refine Ev.bnd1 (next_eq s X a false) ?_
        simp only [hx]
        refine Ev.neg (by omega) (Ev.succ ?_)
        simp only [impl_parser_term.j0]
        exact Ev.neg (by decide) (Ev.pos (by omega) (Ev.ret _))
theorem w_succ (e : Nat) (h : e ≤ 1000000) : wrap64 ((e : Int) + 1) = ((e + 1 : Nat) : Int) := by rw [w64 (by omega) (by omega)]; omega
/-- Literals from a place on: the reference's and the program's reading. -/
def ClauseOK (s : List Int) (X : ByteArray) (e : Nat) (c c' : List S65) (ok bad : Bool) : Prop :=
  e ≤ X.size ∧ (ok = true → c' = c ∧ bad = false ∧ e = X.size) ∧ (ok = false → c = [] ∧ (bad = true ∨ e < X.size)) ∧ c.length ≤ e
theorem clause_l0_ev (s : List Int) (X : ByteArray) (hs : s.length ≤ 100) (hX : X.size ≤ 1000) (d : Nat) : ∀ (a : Nat) (out : List S65), X.size - a = d → a ≤ X.size → out.length ≤ a →
    ∃ (e : Nat) (c c' : List S65) (ok bad : Bool), ClauseOK s X e c c' ok bad ∧ Ev (fun k => spec_l4Read.l0 k X out (a : Int) s) (c, (e : Int), ok) ∧ Ev (fun k => impl_parser_clause.l0 k out s X (a : Int) 12 false) (c', X, (e : Int), 12, bad) := by
  induction d using Nat.strongRecOn with
  | _ d ih =>
    intro a out hd ha ho
    obtain ⟨e, t, t', ok, p1, p2, p3, p4, p5, p6, p7, p8⟩ := term_ok s X hs hX (X.size + 1) a ha (by omega)
    cases ok with
    | false =>
      refine ⟨e, [], [], false, true, ⟨p2, by simp, fun _ => ⟨rfl, .inl rfl⟩, by simp⟩, Ev.succ ?_, Ev.succ ?_⟩
      · simp only [spec_l4Read.l0]
        refine Ev.bnd p7 (Ev.neg (by simp) (Ev.succ ?_))
        simp only [spec_l4Read.j2]
        exact Ev.pos (by simp) (Ev.ret _)
      · simp only [impl_parser_clause.l0]
        exact Ev.bnd p8 (Ev.pos rfl (Ev.ret _))
    | true =>
      obtain ⟨p3a, rfl⟩ := p3 rfl
      have ht := take2_ev s X e (by omega)
      have hnx : nx X e false = if e < X.size then bt X (e : Int) else 0 := by unfold nx; rw [if_neg (by decide)]
      by_cases g : e < X.size ∧ (bt X (e : Int) = 61 ∨ bt X (e : Int) = 35)
      rotate_left
      · rw [hnx, if_neg (by
          by_cases g2 : e < X.size
          · rw [if_pos g2]; exact fun q => g ⟨g2, q⟩
          · rw [if_neg g2]; omega)] at ht
        refine ⟨e, [], [], false, true, ⟨p2, by simp, fun _ => ⟨rfl, .inl rfl⟩, by simp⟩, Ev.succ ?_, Ev.succ ?_⟩
        · simp only [spec_l4Read.l0]
          refine Ev.bnd p7 (Ev.pos rfl ?_)
          have hj : ∀ b : Bool, b = true → Ev (fun k => spec_l4Read.j2 k X out t' (e : Int) b s) (([] : List S65), (e : Int), false) := fun b hb => by
            subst hb
            refine Ev.succ ?_
            simp only [spec_l4Read.j2]
            exact Ev.pos (by simp) (Ev.ret _)
          by_cases g2 : e < X.size
          · exact Ev.neg (by simp only; omega) (Ev.pos (by simp only; omega) (Ev.pos (by simp only; omega) (Ev.neg (fun q => g ⟨g2, .inl q⟩) (hj _ (by simp only [bne_iff_ne]; exact fun q => g ⟨g2, .inr q⟩)))))
          · exact Ev.pos (by simp only; omega) (hj _ rfl)
        · simp only [impl_parser_clause.l0]
          exact Ev.bnd p8 (Ev.neg (by simp) (Ev.bnd ht (Ev.pos rfl (Ev.ret _))))
      · obtain ⟨g2, g3⟩ := g
        rw [hnx, if_pos g2, if_pos g3] at ht
        obtain ⟨e2, u, u', ok2, q1, q2, q3, q4, q5, q6, q7, q8⟩ := term_ok s X hs hX (X.size + 1) (e + 1) (by omega) (by omega)
        -- the reference comes to its second term
        have hspec : ∀ R : List S65 × Int × Bool, Ev (fun k => spec_l4Read.j2 k X out t' (e : Int) false s) R → Ev (fun k => spec_l4Read.l0 k X out (a : Int) s) R := fun R h => by
          refine Ev.succ ?_
          simp only [spec_l4Read.l0]
          refine Ev.bnd p7 (Ev.pos rfl (Ev.neg (by simp only; omega) (Ev.pos (by simp only; omega) (Ev.pos (by simp only; omega) ?_))))
          by_cases g4 : bt X (e : Int) = 61
          · exact Ev.pos g4 h
          · refine Ev.neg g4 ?_
            have : (bt X (e : Int) != 35) = false := by rw [bne_eq_false_iff_eq]; omega
            simp only [this]
            exact h
        cases ok2 with
        | false =>
          refine ⟨e2, [], [], false, true, ⟨q2, by simp, fun _ => ⟨rfl, .inl rfl⟩, by simp⟩, hspec _ (Ev.succ ?_), Ev.succ ?_⟩
          · simp only [spec_l4Read.j2]
            rw [w_succ e (by omega)]
            exact Ev.neg (by decide) (Ev.bnd q7 (Ev.neg (by simp) (Ev.ret _)))
          · simp only [impl_parser_clause.l0]
            exact Ev.bnd p8 (Ev.neg (by simp) (Ev.bnd ht (Ev.neg (by simp) (Ev.bnd q8 (Ev.pos rfl (Ev.ret _))))))
        | true =>
          obtain ⟨q3a, rfl⟩ := q3 rfl
          have hnx2 : nx X e2 false = if e2 < X.size then bt X (e2 : Int) else 0 := by unfold nx; rw [if_neg (by decide)]
          have hnq := next_eq s X e2 false
          have heq : (bt X (e : Int) == 61) = (nx X e false == 61) := by rw [hnx, if_pos g2]
          -- both have one literal more
          have hspec2 : ∀ R : List S65 × Int × Bool, Ev (fun k => if (e2 : Int) = (X.size : Int) then some (out ++ [(⟨(bt X (e : Int) == 61), t', u'⟩ : S65)], (e2 : Int), true) else if 0 ≤ (e2 : Int) then (if (e2 : Int) < (X.size : Int) then (if bt X (e2 : Int) = 124 then spec_l4Read.l0 k X (out ++ [(⟨(bt X (e : Int) == 61), t', u'⟩ : S65)]) (wrap64 ((e2 : Int) + 1)) s else some (([] : List S65), (e2 : Int), false)) else none) else none) R → Ev (fun k => spec_l4Read.l0 k X out (a : Int) s) R := fun R h => by
            refine hspec R (Ev.succ ?_)
            simp only [spec_l4Read.j2]
            rw [w_succ e (by omega)]
            exact Ev.neg (by decide) (Ev.bnd q7 (Ev.pos rfl (Ev.pos (by omega) (Ev.pos (by omega) (Ev.pos (by omega) h)))))
          have himpl : ∀ R : List S65 × ByteArray × Int × Int × Bool, Ev (fun k => if nx X e2 false = 124 then impl_parser_clause.l0 k (out ++ [(⟨(bt X (e : Int) == 61), t', u'⟩ : S65)]) s X (wrap64 ((e2 : Int) + 1)) 12 false else some (out ++ [(⟨(bt X (e : Int) == 61), t', u'⟩ : S65)], X, (e2 : Int), 12, false)) R → Ev (fun k => impl_parser_clause.l0 k out s X (a : Int) 12 false) R := fun R h => by
            refine Ev.succ ?_
            simp only [impl_parser_clause.l0]
            refine Ev.bnd p8 (Ev.neg (by simp) (Ev.bnd ht (Ev.neg (by simp) (Ev.bnd (a := (u', X, (e2 : Int), 12, false)) ?_ (Ev.neg (by simp) (Ev.pos (by omega) (Ev.bnd1 (a := out ++ [(⟨(bt X (e : Int) == 61), t', u'⟩ : S65)]) rfl (Ev.bnd1 hnq h))))))))
            rw [show (e : Int) + 1 = ((e + 1 : Nat) : Int) by omega]
            exact q8
          by_cases g5 : e2 = X.size
          · refine ⟨e2, _, _, true, false, ⟨q2, fun _ => ⟨rfl, rfl, g5⟩, by simp, by rw [List.length_append, List.length_singleton]; omega⟩, hspec2 _ (Ev.pos (by omega) (Ev.ret _)), himpl _ (Ev.neg (by rw [hnx2, if_neg (by omega)]; omega) (Ev.ret _))⟩
          · by_cases g6 : bt X (e2 : Int) = 124
            · obtain ⟨e3, c, c', ok3, bad, r1, r2, r3⟩ := ih (X.size - (e2 + 1)) (by omega) (e2 + 1) (out ++ [(⟨(bt X (e : Int) == 61), t', u'⟩ : S65)]) rfl (by omega) (by rw [List.length_append, List.length_singleton]; omega)
              refine ⟨e3, c, c', ok3, bad, r1, hspec2 _ (Ev.neg (by omega) (Ev.pos (by omega) (Ev.pos (by omega) (Ev.pos g6 ?_)))), himpl _ (Ev.pos (by rw [hnx2, if_pos (by omega)]; exact g6) ?_)⟩
              · rw [w_succ e2 (by omega)]; exact r2
              · rw [w_succ e2 (by omega)]; exact r3
            · exact ⟨e2, [], _, false, false, ⟨q2, by simp, fun _ => ⟨rfl, .inr (by omega)⟩, by simp⟩, hspec2 _ (Ev.neg (by omega) (Ev.pos (by omega) (Ev.pos (by omega) (Ev.neg g6 (Ev.ret _))))), himpl _ (Ev.neg (by rw [hnx2, if_pos (by omega)]; exact g6) (Ev.ret _))⟩
theorem clause_ev (s : List Int) (X : ByteArray) (hs : s.length ≤ 100) (hX : X.size ≤ 1000) :
    ∃ (e : Nat) (c c' : List S65) (ok bad : Bool), ClauseOK s X e c c' ok bad ∧ Ev (fun k => spec_l4Read.f k s X) (c, (e : Int), ok) ∧ Ev (fun k => impl_parser_clause.f k s X 0 12 false) (c', X, (e : Int), 12, bad) := by
  have hnx : nx X 0 false = if 0 < X.size then bt X 0 else 0 := by unfold nx; rw [if_neg (by decide)]; rfl
  have hnq : impl_parser_next.f s X 0 12 false = some (nx X 0 false, X, 0, 12, false) := next_eq s X 0 false
  have h1 := isOne_iff X 45
  by_cases g : 0 < X.size ∧ bt X 0 = 45
  · have hi : Ev (fun k => impl_parser_clause.f k s X 0 12 false) (([] : List S65), X, ((1 : Nat) : Int), 12, false) := by
      simp only [impl_parser_clause.f]
      refine Ev.bnd1 hnq (Ev.pos (by rw [hnx, if_pos g.1]; exact g.2) (Ev.eq (Ev.ret _) ?_))
      show (([] : List S65), X, wrap64 (((0 : Nat) : Int) + 1), (12 : Int), false) = _
      rw [w_succ 0 (by omega)]
    by_cases g2 : X.size = 1
    · refine ⟨1, [], [], true, false, ⟨by omega, fun _ => ⟨rfl, rfl, g2.symm⟩, by simp, by simp⟩, ?_, hi⟩
      simp only [spec_l4Read.f]
      exact Ev.pos (h1.2 ⟨g2, g.2⟩) (Ev.ret _)
    · refine ⟨1, [], [], false, false, ⟨by omega, by simp, fun _ => ⟨rfl, .inr (by omega)⟩, by simp⟩, ?_, hi⟩
      simp only [spec_l4Read.f]
      refine Ev.neg (fun q => g2 (h1.1 q).1) (Ev.pos (by omega) (Ev.pos (by omega) (Ev.succ ?_)))
      simp only [spec_l4Read.j0]
      exact Ev.pos (by rw [g.2]; rfl) (Ev.ret _)
  · obtain ⟨e, c, c', ok, bad, r1, r2, r3⟩ := clause_l0_ev s X hs hX X.size 0 [] (by omega) (by omega) (by simp)
    refine ⟨e, c, c', ok, bad, r1, ?_, ?_⟩
    · have hj : ∀ b : Bool, b = false → Ev (fun k => spec_l4Read.j0 k X b s) (c, (e : Int), ok) := fun b hb => by
        subst hb
        refine Ev.succ ?_
        simp only [spec_l4Read.j0]
        exact Ev.neg (by simp) r2
      simp only [spec_l4Read.f]
      refine Ev.neg (fun q => g ⟨by have := (h1.1 q).1; omega, (h1.1 q).2⟩) ?_
      by_cases g2 : 0 < X.size
      · exact Ev.pos (by omega) (Ev.pos (by omega) (hj _ (by rw [beq_eq_false_iff_ne]; exact fun q => g ⟨g2, q⟩)))
      · exact Ev.neg (by omega) (hj _ rfl)
    · simp only [impl_parser_clause.f]
      refine Ev.bnd1 hnq (Ev.neg ?_ r3)
      simp only [hnx]
      by_cases g2 : 0 < X.size
      · rw [if_pos g2]; exact fun q => g ⟨g2, q⟩
      · rw [if_neg g2]; omega
theorem done_eq (s : List Int) (X : ByteArray) (e : Nat) (bad : Bool) : impl_parser_done.f s X (e : Int) 12 bad = some (!(bad || decide (e < X.size)), X, (e : Int), 12, bad || decide (e < X.size)) := by
  unfold impl_parser_done.f
  cases bad with
  | true => rfl
  | false =>
    rw [if_neg (by decide), Bool.false_or]
    by_cases g : e < X.size
    · rw [decide_eq_true g, decide_eq_true (by omega)]
    · rw [decide_eq_false g, decide_eq_false (by omega)]
theorem isTerm_len {s l : List Int} (h : isTerm s l = true) : l.length ≤ 40 := (isTerm_of h).1
theorem ReadClause_ex (s : List Int) (hsl : s.length ≤ 1048576) (X : ByteArray) :
    ∃ r : List S65 × Int × Bool, (r.1.length ≤ 1048576 ∧ ∀ x ∈ r.1, smLit x) ∧ Ev (fun k => spec_ReadClause.f k s X) r ∧ Ev (fun k => impl_ReadClause.f k s X) r := by
  have g1 := spec_GoodSign_ev s (by omega)
  have g2 := impl_GoodSign_eq s
  by_cases g : goodSign s = true ∧ X.size ≤ 1000
  · obtain ⟨gs, gx⟩ := g
    have hs10 := goodSign_len gs
    rw [gs] at g1 g2
    obtain ⟨e, c, c', ok, bad, ⟨q0, q1, q2, q3⟩, r2, r3⟩ := clause_ev s X (by omega) gx
    have hd := done_eq s X e bad
    cases ok with
    | true =>
      obtain ⟨rfl, rfl, he⟩ := q1 rfl
      obtain ⟨b, hb, eb⟩ := spec_l4Clause_tot s hsl c' (by omega)
      have eb := eb gs
      subst eb
      have hi := impl_isClause_ev s gs c'
      rw [Bool.false_or, decide_eq_false (by omega)] at hd
      by_cases gc : isClause s c' = true
      · rw [gc] at hb hi
        refine ⟨(c', (X.size : Int), true), ⟨?_, fun x hx => ?_⟩, ?_, ?_⟩
        · have := (isClause_of gc).1; simp only; omega
        · obtain ⟨t1, t2⟩ := isLit_of ((isClause_of gc).2 x hx)
          have := isTerm_len t1
          have := isTerm_len t2
          exact ⟨by omega, by omega⟩
        · simp only [spec_ReadClause.f]
          refine Ev.bnd g1 (Ev.pos rfl (Ev.succ ?_))
          simp only [spec_ReadClause.j0]
          exact Ev.neg (by rw [decide_eq_false (by omega)]; simp) (Ev.bnd r2 (Ev.pos rfl (Ev.bnd hb (Ev.pos rfl (Ev.eq (Ev.ret _) (by rw [he]))))))
        · simp only [impl_ReadClause.f]
          refine Ev.bnd1 g2 (Ev.pos rfl (Ev.succ ?_))
          simp only [impl_ReadClause.j0]
          exact Ev.neg (by rw [decide_eq_false (by omega)]; simp) (Ev.bnd r3 (Ev.bnd1 hd (Ev.pos rfl (Ev.bnd hi (Ev.pos rfl (Ev.ret _))))))
      · rw [Bool.eq_false_iff.2 gc] at hb hi
        refine ⟨([], 0, false), ⟨by simp, by simp⟩, ?_, ?_⟩
        · simp only [spec_ReadClause.f]
          refine Ev.bnd g1 (Ev.pos rfl (Ev.succ ?_))
          simp only [spec_ReadClause.j0]
          exact Ev.neg (by rw [decide_eq_false (by omega)]; simp) (Ev.bnd r2 (Ev.pos rfl (Ev.bnd hb (Ev.neg (by simp) (Ev.ret _)))))
        · simp only [impl_ReadClause.f]
          refine Ev.bnd1 g2 (Ev.pos rfl (Ev.succ ?_))
          simp only [impl_ReadClause.j0]
          exact Ev.neg (by rw [decide_eq_false (by omega)]; simp) (Ev.bnd r3 (Ev.bnd1 hd (Ev.pos rfl (Ev.bnd hi (Ev.neg (by simp) (Ev.ret _))))))
    | false =>
      obtain ⟨rfl, hf⟩ := q2 rfl
      rw [show (bad || decide (e < X.size)) = true by rcases hf with h | h; rw [h, Bool.true_or]; rw [decide_eq_true h, Bool.or_true]] at hd
      refine ⟨([], (e : Int), false), ⟨by simp, by simp⟩, ?_, ?_⟩
      · simp only [spec_ReadClause.f]
        refine Ev.bnd g1 (Ev.pos rfl (Ev.succ ?_))
        simp only [spec_ReadClause.j0]
        exact Ev.neg (by rw [decide_eq_false (by omega)]; simp) (Ev.bnd r2 (Ev.neg (by simp) (Ev.ret _)))
      · simp only [impl_ReadClause.f]
        refine Ev.bnd1 g2 (Ev.pos rfl (Ev.succ ?_))
        simp only [impl_ReadClause.j0]
        exact Ev.neg (by rw [decide_eq_false (by omega)]; simp) (Ev.bnd r3 (Ev.bnd1 hd (Ev.neg (by simp) (Ev.ret _))))
  · refine ⟨([], 0, false), ⟨by simp, by simp⟩, ?_, ?_⟩
    · have hj : ∀ b : Bool, b = true → Ev (fun k => spec_ReadClause.j0 k X b s) (([] : List S65), 0, false) := fun b hb => by
        subst hb
        refine Ev.succ ?_
        simp only [spec_ReadClause.j0]
        exact Ev.pos (by simp) (Ev.ret _)
      simp only [spec_ReadClause.f]
      refine Ev.bnd g1 ?_
      by_cases gs : goodSign s = true
      · exact Ev.pos gs (hj _ (decide_eq_true (by have : ¬ X.size ≤ 1000 := fun q => g ⟨gs, q⟩; omega)))
      · exact Ev.neg gs (hj _ rfl)
    · have hj : ∀ b : Bool, b = true → Ev (fun k => impl_ReadClause.j0 k X b s) (([] : List S65), 0, false) := fun b hb => by
        subst hb
        refine Ev.succ ?_
        simp only [impl_ReadClause.j0]
        exact Ev.pos (by simp) (Ev.ret _)
      simp only [impl_ReadClause.f]
      refine Ev.bnd1 g2 ?_
      by_cases gs : goodSign s = true
      · exact Ev.pos gs (hj _ (decide_eq_true (by have : ¬ X.size ≤ 1000 := fun q => g ⟨gs, q⟩; omega)))
      · exact Ev.neg gs (hj _ rfl)

theorem FnExactReadClause : laws_FnExactReadClause.Pure := by
  intro l0 a1 h0 h1
  have hm : (maxLen : Nat) ≤ 9223372036854775807 := by unfold maxLen; omega
  have hs0 : l0.length ≤ 9223372036854775807 := by have := h0.1; omega
  clear h0 hm
  suffices hF : ∃ k, laws_FnExactReadClause.Facts k l0 a1 by
    obtain ⟨k, h⟩ := hF
    exact ⟨k, laws_FnExactReadClause.f_of h⟩
  by_cases gp1 : (1048576 : Int) < (a1.size : Int)
  · exact ⟨0, .inl gp1⟩
  have hz0 := szSign_eq l0 1048576 (by omega) (by omega) hs0
  by_cases g0 : (l0.length : Int) ≤ 1048576
  rotate_left
  · exact ⟨0, .inr ⟨by omega, ⟨-1, by rw [hz0, if_neg g0], .inl (by omega)⟩⟩⟩
  rw [if_pos g0] at hz0
  have hb0 : l0.length ≤ 1048576 := by omega
  obtain ⟨⟨r0, r1, r2⟩, hlen, es, ei⟩ := ReadClause_ex l0 hb0 a1
  simp only at hlen
  have hT9 := ltot_le r0 hlen.1 hlen.2
  obtain ⟨k, t0, es, ei, q0, q0_, k0_, mi, hi⟩ := (Evp.and (Evp.of (toSign_ev l0 hb0)) (Evp.and (Evp.of es) (Evp.and (Evp.of ei) (Evp.and (Evp.of (eqLitS_self r0 hlen.1 hlen.2)) (Evp.and (Evp.of (eqSign_self l0 hb0)) (Evp.and (Evp.of (markSign_ev l0 1 (by omega) (by omega) (by omega))) (Evp.and (Evp.of (mkLS_ev r0 1 (by omega) (by omega) hlen.2)) (Evp.of (heldLitS_ev r0 1 (by omega) (by omega) hlen.1 hlen.2))))))))).some
  exact ⟨k, .inr ⟨by omega, ⟨_, hz0, .inr ⟨by omega, ⟨r0, r1, r2, (1 + (l0.length : Int)), _, _, _, ⟨t0, es, ei, q0, q0_, (by omega), k0_, mi, hi, (by omega)⟩⟩⟩⟩⟩⟩

end Go.Proofs.Ytlgnanbnicmdaab.Pure
