/- The program's NormalClause returns what the reference's returns, for all arguments.
Conditions: none beyond what the row itself says. -/
import Derived.Test.YtlgnanbnicmdaabQFnExactNormalClausex19
namespace Go.Proofs.Ytlgnanbnicmdaab.Pure
open Go.RowKit Go.Proofs.Ytlgnanbnicmdaab.QFnExactNormalClause Go.Proofs.YtlgnanbnicmdaabW.PrintWords Go.Proofs.YtlgnanbnicmdaabW.PrintLast Go.Proofs.YtlgnanbnicmdaabW.PrintMore
set_option linter.unusedVariables false
set_option linter.unusedSimpArgs false

theorem w64 {x : Int} (h0 : -9223372036854775808 ≤ x) (h1 : x ≤ 9223372036854775807) : wrap64 x = x := by
  unfold wrap64; omega
theorem Ev.succ {α : Type} {g : Nat → Option α} {r : α} (h : Ev (fun k => g (k + 1)) r) : Ev g r := Ev.step (fun _ => rfl) h
theorem Ev.pos {α : Type} {c : Prop} [Decidable c] {a b : Nat → Option α} {r : α} (h : c) (e : Ev (fun k => a k) r) : Ev (fun k => if c then a k else b k) r := Ev.congr (fun _ => if_pos h) e
theorem Ev.neg {α : Type} {c : Prop} [Decidable c] {a b : Nat → Option α} {r : α} (h : ¬ c) (e : Ev (fun k => b k) r) : Ev (fun k => if c then a k else b k) r := Ev.congr (fun _ => if_neg h) e
theorem Ev.bnd {α β : Type} {g : Nat → Option α} {f : Nat → α → Option β} {a : α} {r : β} (h : Ev (fun k => g k) a) (k : Ev (fun n => f n a) r) : Ev (fun n => (g n).bind (fun x => f n x)) r := Ev.bind h k
theorem Ev.bnd1 {α β : Type} {g : Option α} {f : Nat → α → Option β} {a : α} {r : β} (h : g = some a) (k : Ev (fun n => f n a) r) : Ev (fun n => g.bind (fun x => f n x)) r := by
  rw [h]; exact k
theorem Ev.ret {α : Type} (r : α) : Ev (fun _ => some r) r := Ev.now r
theorem Ev.eq {α : Type} {g : Nat → Option α} {r r' : α} (h : Ev g r) (e : r = r') : Ev g r' := e ▸ h
theorem Ev.all {α : Type} {g : Nat → Option α} {r : α} (h : Ev (fun k => g k) r) : ∃ k, g k = some r := h.rounds
theorem rd_mid (pre : List Int) (x : Int) (post : List Int) : rd (pre ++ x :: post) (pre.length : Int) = x := by
  unfold rd; simp
theorem rd_nat (xs : List Int) (i : Nat) (h : i < xs.length) : rd xs (i : Int) = xs[i] := by
  unfold rd; simp [List.getD_eq_getElem?_getD, List.getElem?_eq_getElem h]

theorem toIntS_l0 (post : List Int) : ∀ (pre rest : List Int), rest.length = post.length → (pre ++ post).length ≤ 140737488351232 → Ev (fun k => laws_toIntS.l0 k (pre ++ post) (pre ++ rest) (pre.length : Int)) (pre ++ post) := by
  induction post with
  | nil =>
    intro pre rest hr hl
    obtain rfl : rest = [] := List.eq_nil_of_length_eq_zero hr
    refine Ev.succ ?_
    simp only [laws_toIntS.l0]
    exact Ev.neg (by simp) (Ev.ret _)
  | cons x post ih =>
    intro pre rest hr hl
    obtain ⟨y, rest, rfl⟩ : ∃ y t, rest = y :: t := by cases rest with | nil => simp at hr | cons y t => exact ⟨y, t, rfl⟩
    have h := ih (pre ++ [x]) rest (by simpa using hr) (by simpa using hl)
    simp only [List.length_append, List.length_cons, List.length_nil] at hl hr h
    refine Ev.succ ?_
    simp only [laws_toIntS.l0, List.length_append, List.length_cons]
    refine Ev.pos (by omega) (Ev.pos (by omega) (Ev.pos (by omega) ?_))
    rw [rd_mid, w64 (by omega) (by omega)]
    have e : (pre ++ y :: rest).set ((pre.length : Int)).toNat x = pre ++ [x] ++ rest := by simp
    rw [e]
    simpa using h
theorem toIntS (l : List Int) (h : l.length * 8 ≤ 140737488351232) : Ev (fun k => laws_toIntS.f k l) l := by
  simp only [laws_toIntS.f]
  refine Ev.pos (by omega) (Ev.pos (by omega) ?_)
  have := toIntS_l0 l [] (List.replicate l.length 0) (by simp) (by simp; omega)
  simpa using this

theorem eqIntS_l0 (pa : List Int) : ∀ (pa' pb pb' : List Int), pa'.length = pb'.length → pa.length = pb.length → (pa' ++ pa).length ≤ 140737488351232 → Ev (fun k => laws_eqIntS.l0 k (pa' ++ pa) (pb' ++ pb) (pa'.length : Int)) (decide (pa = pb)) := by
  induction pa with
  | nil =>
    intro pa' pb pb' h1 h2 hl
    obtain rfl : pb = [] := List.eq_nil_of_length_eq_zero h2.symm
    refine Ev.succ ?_
    simp only [laws_eqIntS.l0]
    exact Ev.neg (by simp) (Ev.eq (Ev.ret _) (by simp))
  | cons x pa ih =>
    intro pa' pb pb' h1 h2 hl
    obtain ⟨y, pb, rfl⟩ : ∃ y t, pb = y :: t := by cases pb with | nil => simp at h2 | cons y t => exact ⟨y, t, rfl⟩
    have h := ih (pa' ++ [x]) pb (pb' ++ [y]) (by simpa using h1) (by simpa using h2) (by simpa using hl)
    simp only [List.length_append, List.length_cons, List.length_nil] at hl h2 h
    refine Ev.succ ?_
    simp only [laws_eqIntS.l0, List.length_append, List.length_cons]
    refine Ev.pos (by omega) (Ev.pos (by omega) (Ev.pos (by omega) ?_))
    rw [rd_mid, show (pa'.length : Int) = (pb'.length : Int) by omega, rd_mid]
    by_cases e : x = y
    · subst e
      refine Ev.pos rfl ?_
      rw [w64 (by omega) (by omega)]
      refine Ev.eq (Ev.congr (fun k => ?_) h) (by simp)
      simp [h1]
    · exact Ev.neg e (Ev.eq (Ev.ret _) (by simp [e]))
theorem eqIntS (a b : List Int) (h : a.length ≤ 140737488351232) : Ev (fun k => laws_eqIntS.f k a b) (decide (a = b)) := by
  simp only [laws_eqIntS.f]
  by_cases e : a.length = b.length
  · exact Ev.pos (by omega) (by simpa using eqIntS_l0 a [] b [] rfl e (by simpa using h))
  · exact Ev.neg (by omega) (Ev.eq (Ev.ret _) (by simp only [false_eq_decide_iff]; intro h; exact e (by rw [h])))
theorem eqIntS_self (a : List Int) (h : a.length ≤ 140737488351232) : Ev (fun k => laws_eqIntS.f k a a) true := Ev.eq (eqIntS a a h) (by simp)

theorem spec_in_eq (a lo hi : Int) : spec_l1In.f a lo hi = some (decide (lo ≤ a ∧ a ≤ hi)) := by
  unfold spec_l1In.f
  by_cases h1 : a ≥ lo
  · rw [if_pos h1]
    by_cases h2 : a ≤ hi
    · rw [decide_eq_true h2, decide_eq_true ⟨h1, h2⟩]
    · rw [decide_eq_false h2, decide_eq_false (fun h => h2 h.2)]
  · rw [if_neg h1, decide_eq_false (fun h => h1 h.1)]
def inAll (lo hi : Int) (l : List Int) : Bool := l.all fun x => decide (lo ≤ x ∧ x ≤ hi)
theorem spec_l1All_l0 (lo hi : Int) (post : List Int) : ∀ pre : List Int, (pre ++ post).length ≤ 140737488351232 → Ev (fun k => spec_l1All.l0 k lo hi (pre ++ post) ((pre ++ post).length : Int) (pre.length : Int)) (inAll lo hi post) := by
  induction post with
  | nil =>
    intro pre hl
    refine Ev.succ ?_
    simp only [spec_l1All.l0]
    exact Ev.neg (by simp) (Ev.ret _)
  | cons x post ih =>
    intro pre hl
    have h := ih (pre ++ [x]) (by simpa using hl)
    simp only [List.length_append, List.length_cons] at hl
    refine Ev.succ ?_
    simp only [spec_l1All.l0]
    refine Ev.pos (by simp only [List.length_append, List.length_cons]; omega) (Ev.pos (by omega) (Ev.pos (by simp only [List.length_append, List.length_cons]; omega) ?_))
    rw [rd_mid]
    refine Ev.bnd1 (spec_in_eq _ _ _) ?_
    by_cases hx : lo ≤ x ∧ x ≤ hi
    · rw [decide_eq_true hx]
      refine Ev.pos rfl ?_
      rw [w64 (by omega) (by omega)]
      refine Ev.eq (by simpa using h) ?_
      simp [inAll, hx]
    · rw [decide_eq_false hx]
      exact Ev.neg (by simp) (Ev.eq (Ev.ret _) (by simp only [inAll, List.all_cons, decide_eq_false hx, Bool.false_and]))
theorem spec_l1All_ev (lo hi : Int) (l : List Int) (hl : l.length ≤ 140737488351232) : Ev (fun k => spec_l1All.f k l lo hi) (inAll lo hi l) := by
  simp only [spec_l1All.f]
  simpa using spec_l1All_l0 lo hi l [] (by simpa using hl)
theorem inAll_mem {lo hi : Int} {l : List Int} (h : inAll lo hi l = true) : ∀ x ∈ l, lo ≤ x ∧ x ≤ hi := by
  intro x hx
  unfold inAll at h
  simpa using List.all_eq_true.1 h x hx

theorem anyO_not {α : Type} (f : α → Option Bool) (p : α → Bool) (l : List α) (h : ∀ x ∈ l, f x = some (!p x)) : anyO f l = some (!l.all p) := by
  induction l with
  | nil => rfl
  | cons x t ih =>
    simp only [anyO]
    rw [h x (by simp), Option.bind_some]
    cases hp : p x with
    | true => simp [hp, ih (fun y hy => h y (by simp [hy]))]
    | false => simp [hp]

def goodSign (s : List Int) : Bool := decide (1 ≤ s.length ∧ s.length ≤ 10) && (inAll 0 3 s && (rd s 0 == 0))
theorem goodSign_len {s : List Int} (h : goodSign s = true) : 1 ≤ s.length ∧ s.length ≤ 10 := by
  unfold goodSign at h
  simp only [Bool.and_eq_true, decide_eq_true_eq] at h
  exact h.1
theorem goodSign_mem {s : List Int} (h : goodSign s = true) : ∀ x ∈ s, 0 ≤ x ∧ x ≤ 3 := by
  unfold goodSign at h
  simp only [Bool.and_eq_true] at h
  exact inAll_mem h.2.1
theorem goodSign_rd {s : List Int} (h : goodSign s = true) (x : Int) (h0 : 0 ≤ x) (h1 : x < s.length) : 0 ≤ rd s x ∧ rd s x ≤ 3 := by
  obtain ⟨n, rfl⟩ : ∃ n : Nat, x = n := ⟨x.toNat, by omega⟩
  have hn : n < s.length := by omega
  rw [rd_nat s n hn]
  exact goodSign_mem h _ (List.getElem_mem hn)
theorem spec_GoodSign_ev (s : List Int) (hl : s.length ≤ 140737488351232) : Ev (fun k => spec_GoodSign.f k s) (goodSign s) := by
  simp only [spec_GoodSign.f]
  refine Ev.bnd1 (spec_in_eq _ _ _) ?_
  by_cases g : 1 ≤ s.length ∧ s.length ≤ 10
  · have g' : (1 : Int) ≤ (s.length : Int) ∧ (s.length : Int) ≤ 10 := by omega
    refine Ev.pos (decide_eq_true g') (Ev.bnd (spec_l1All_ev 0 3 s hl) ?_)
    unfold goodSign
    rw [decide_eq_true g, Bool.true_and]
    cases ha : inAll 0 3 s with
    | true => exact Ev.pos rfl (Ev.pos (by omega) (Ev.eq (Ev.ret _) rfl))
    | false => exact Ev.neg (by simp) (Ev.eq (Ev.ret _) rfl)
  · have g' : ¬ ((1 : Int) ≤ (s.length : Int) ∧ (s.length : Int) ≤ 10) := by omega
    refine Ev.neg (by rw [decide_eq_false g']; simp) (Ev.eq (Ev.ret _) ?_)
    unfold goodSign
    rw [decide_eq_false g, Bool.false_and]
theorem impl_GoodSign_any (s : List Int) : impl_GoodSign_1_any.f s = some (!inAll 0 3 s) := by
  unfold impl_GoodSign_1_any.f inAll
  refine anyO_not _ _ _ (fun x _ => ?_)
  unfold impl_GoodSign_1.f
  by_cases h1 : x < 0
  · rw [if_pos h1, decide_eq_false (by omega)]; rfl
  · rw [if_neg h1]
    by_cases h2 : x ≤ 3
    · rw [decide_eq_true (show 0 ≤ x ∧ x ≤ 3 by omega), decide_eq_false (by omega)]; rfl
    · rw [decide_eq_false (show ¬ (0 ≤ x ∧ x ≤ 3) by omega), decide_eq_true (by omega)]; rfl
theorem impl_GoodSign_eq (s : List Int) : impl_GoodSign.f s = some (goodSign s) := by
  unfold impl_GoodSign.f goodSign
  by_cases g : 1 ≤ s.length ∧ s.length ≤ 10
  · rw [if_neg (by omega), if_neg (by omega), if_pos (by omega), decide_eq_true g, Bool.true_and]
    by_cases e : rd s 0 = 0
    · rw [if_pos e, impl_GoodSign_any, e]; simp
    · rw [if_neg e]; simp [e]
  · rw [decide_eq_false g, Bool.false_and]
    by_cases h1 : (s.length : Int) < 1
    · rw [if_pos h1]
    · rw [if_neg h1, if_pos (by omega)]

/-! Terms in prefix form. -/
/-- How many arguments a token takes. -/
def ar (s : List Int) (x : Int) : Nat := if x < 0 then 0 else (rd s x).toNat
/-- Whether a number may stand in a term. -/
def tok (s : List Int) (x : Int) : Bool := decide (-12 ≤ x ∧ x < s.length)
/-- What is left of a row when so many terms are read off it. -/
def eat (s : List Int) : List Int → Nat → Option (List Int)
  | l, 0 => some l
  | [], _ + 1 => none
  | x :: l, n + 1 => if tok s x = true then eat s l (n + ar s x) else none
def isTerm (s : List Int) (l : List Int) : Bool := decide (1 ≤ l.length ∧ l.length ≤ 40) && (eat s l 1 == some [])
theorem ar_le {s : List Int} (h : goodSign s = true) {x : Int} (ht : tok s x = true) : ar s x ≤ 3 := by
  unfold tok at ht
  simp only [decide_eq_true_eq] at ht
  unfold ar
  by_cases g : x < 0
  · rw [if_pos g]; omega
  · rw [if_neg g]
    have := goodSign_rd h x (by omega) (by omega)
    omega
theorem ar_rd {s : List Int} (h : goodSign s = true) {x : Int} (h0 : 0 ≤ x) (ht : tok s x = true) : rd s x = (ar s x : Int) := by
  unfold tok at ht
  simp only [decide_eq_true_eq] at ht
  unfold ar
  rw [if_neg (by omega)]
  have := goodSign_rd h x (by omega) (by omega)
  omega
theorem eat_zero (s : List Int) (l : List Int) : eat s l 0 = some l := by cases l <;> rfl
theorem eat_split (s : List Int) (l : List Int) : ∀ (n m : Nat) (r : List Int), eat s l (n + m) = some r → ∃ mid, eat s l n = some mid ∧ eat s mid m = some r := by
  induction l with
  | nil =>
    intro n m r h
    cases n with
    | zero => exact ⟨[], eat_zero _ _, by simpa using h⟩
    | succ n => rw [show n + 1 + m = (n + m) + 1 by omega] at h; simp [eat] at h
  | cons x l ih =>
    intro n m r h
    cases n with
    | zero => exact ⟨x :: l, eat_zero _ _, by simpa using h⟩
    | succ n =>
      rw [show n + 1 + m = (n + m) + 1 by omega] at h
      simp only [eat] at h ⊢
      split at h
      · rename_i ht
        rw [if_pos ht]
        exact ih _ _ _ (by rw [← h]; congr 1; omega)
      · simp at h
theorem spec_l1End_l0 (s : List Int) (hs : goodSign s = true) (l : List Int) : ∀ (pre : List Int) (n : Nat), (pre ++ l).length ≤ 1000000000 → n ≤ 3 * pre.length + 3 →
    Ev (fun k => spec_l1End.l0 k (pre ++ l) (pre.length : Int) (n : Int) s) (match eat s l n with | some r => ((pre ++ l).length : Int) - r.length | none => -1) := by
  have hsl := goodSign_len hs
  induction l with
  | nil =>
    intro pre n hl hn
    refine Ev.succ ?_
    simp only [spec_l1End.l0]
    cases n with
    | zero => exact Ev.neg (by simp) (Ev.eq (Ev.ret _) (by simp [eat]))
    | succ n =>
      refine Ev.pos (by omega) (Ev.pos (by simp) (Ev.succ ?_))
      simp only [spec_l1End.j1]
      exact Ev.pos trivial (Ev.eq (Ev.ret _) (by simp [eat]))
  | cons x l ih =>
    intro pre n hl hn
    have hl' := hl
    simp only [List.length_append, List.length_cons] at hl
    refine Ev.succ ?_
    simp only [spec_l1End.l0]
    cases n with
    | zero => exact Ev.neg (by simp) (Ev.eq (Ev.ret _) (by simp only [eat, List.length_append, List.length_cons]; omega))
    | succ n =>
      refine Ev.pos (by omega) (Ev.neg (by simp only [List.length_append, List.length_cons]; omega) (Ev.pos (by omega) (Ev.pos (by simp only [List.length_append, List.length_cons]; omega) ?_)))
      rw [rd_mid, w64 (x := (s.length : Int) - 1) (by omega) (by omega)]
      refine Ev.bnd1 (spec_in_eq _ _ _) (Ev.succ ?_)
      simp only [spec_l1End.j1]
      by_cases g : -12 ≤ x ∧ x ≤ (s.length : Int) - 1
      · have ht : tok s x = true := by unfold tok; exact decide_eq_true (by omega)
        have har := ar_le hs ht
        have h := ih (pre ++ [x]) (n + ar s x) (by simpa using hl') (by simp only [List.length_append, List.length_cons, List.length_nil]; omega)
        refine Ev.neg (by rw [decide_eq_true g]; simp) (Ev.pos (by omega) (Ev.pos (by simp only [List.length_append, List.length_cons]; omega) ?_))
        have e : eat s (x :: l) (n + 1) = eat s l (n + ar s x) := by simp only [eat]; rw [if_pos ht]
        rw [e]
        have e0 : wrap64 ((pre.length : Int) + 1) = (pre.length : Int) + 1 := w64 (by omega) (by omega)
        have e1 : wrap64 (((n + 1 : Nat) : Int) - 1) = (n : Int) := by rw [w64 (by omega) (by omega)]; omega
        rw [rd_mid, e0, e1]
        have h' : Ev (fun k => spec_l1End.l0 k (pre ++ x :: l) ((pre.length : Int) + 1) ((n : Int) + (ar s x : Int)) s) (match eat s l (n + ar s x) with | some r => ((pre ++ x :: l).length : Int) - r.length | none => -1) := by simpa using h
        by_cases g0 : x ≥ 0
        · refine Ev.pos g0 (Ev.pos g0 (Ev.pos (by omega) ?_))
          rw [ar_rd hs g0 ht, w64 (by omega) (by omega)]
          exact h'
        · refine Ev.neg g0 ?_
          have e2 : ar s x = 0 := by unfold ar; rw [if_pos (by omega)]
          rw [e2] at h' ⊢
          simpa using h'
      · have ht : ¬ tok s x = true := by unfold tok; rw [decide_eq_true_eq]; omega
        refine Ev.pos (by rw [decide_eq_false g]; rfl) (Ev.eq (Ev.ret _) ?_)
        simp only [eat]
        rw [if_neg ht]
theorem spec_l1End_ev (s : List Int) (hs : goodSign s = true) (pre l : List Int) (hl : (pre ++ l).length ≤ 1000000000) :
    Ev (fun k => spec_l1End.f k s (pre ++ l) (pre.length : Int)) (match eat s l 1 with | some r => ((pre ++ l).length : Int) - r.length | none => -1) := by
  simp only [spec_l1End.f]
  exact spec_l1End_l0 s hs l pre 1 hl (by omega)
theorem spec_l1Term_ev (s : List Int) (hs : goodSign s = true) (l : List Int) : Ev (fun k => spec_l1Term.f k s l) (isTerm s l) := by
  simp only [spec_l1Term.f]
  refine Ev.bnd1 (spec_in_eq _ _ _) ?_
  unfold isTerm
  by_cases g : 1 ≤ l.length ∧ l.length ≤ 40
  · have g' : (1 : Int) ≤ (l.length : Int) ∧ (l.length : Int) ≤ 40 := by omega
    have h := spec_l1End_ev s hs [] l (by simp; omega)
    refine Ev.pos (decide_eq_true g') (Ev.bnd (by simpa using h) (Ev.eq (Ev.ret _) ?_))
    rw [decide_eq_true g, Bool.true_and]
    cases e : eat s l 1 with
    | none => simp
    | some r =>
      cases r with
      | nil => simp
      | cons y r => simp; omega
  · have g' : ¬ ((1 : Int) ≤ (l.length : Int) ∧ (l.length : Int) ≤ 40) := by omega
    refine Ev.neg (by rw [decide_eq_false g']; simp) (Ev.eq (Ev.ret _) ?_)
    rw [decide_eq_false g, Bool.false_and]
theorem impl_args_eq (s : List Int) (hs : goodSign s = true) (x : Int) (ht : tok s x = true) : impl_Sign_args.f s x = some (ar s x : Int) := by
  unfold impl_Sign_args.f
  by_cases g : x < 0
  · rw [if_pos g]; unfold ar; rw [if_pos g]; rfl
  · have ht' := ht
    unfold tok at ht'
    simp only [decide_eq_true_eq] at ht'
    rw [if_neg g, if_pos (by omega), if_pos (by omega), ar_rd hs (by omega) ht]
theorem impl_isTerm_l0 (s : List Int) (hs : goodSign s = true) (l : List Int) : ∀ (pre : List Int) (n : Nat), (pre ++ l).length ≤ 1000000 → n ≤ 3 * pre.length + 3 →
    Ev (fun k => impl_Sign_isTerm.l0 k (n : Int) (pre ++ l) ((pre ++ l).length : Int) (pre.length : Int) s) (eat s l n == some []) := by
  have hsl := goodSign_len hs
  induction l with
  | nil =>
    intro pre n hl hn
    refine Ev.succ ?_
    simp only [impl_Sign_isTerm.l0]
    refine Ev.neg (by simp) (Ev.eq (Ev.ret _) ?_)
    cases n with
    | zero => rfl
    | succ n => first | (simp [eat]; done) | (simp [eat]; omega)
  | cons x l ih =>
    intro pre n hl hn
    have hl' := hl
    simp only [List.length_append, List.length_cons] at hl
    refine Ev.succ ?_
    simp only [impl_Sign_isTerm.l0]
    refine Ev.pos (by simp only [List.length_append, List.length_cons]; omega) (Ev.pos (by omega) (Ev.pos (by simp only [List.length_append, List.length_cons]; omega) ?_))
    cases n with
    | zero => exact Ev.pos rfl (Ev.eq (Ev.ret _) (by simp [eat]))
    | succ n =>
      refine Ev.neg (by omega) ?_
      rw [rd_mid]
      by_cases g1 : x < -12
      · refine Ev.pos g1 (Ev.eq (Ev.ret _) ?_)
        have ht : ¬ tok s x = true := by unfold tok; rw [decide_eq_true_eq]; omega
        simp only [eat]
        rw [if_neg ht]; rfl
      · refine Ev.neg g1 ?_
        by_cases g2 : x ≥ (s.length : Int)
        · refine Ev.pos g2 (Ev.eq (Ev.ret _) ?_)
          have ht : ¬ tok s x = true := by unfold tok; rw [decide_eq_true_eq]; omega
          simp only [eat]
          rw [if_neg ht]; rfl
        · refine Ev.neg g2 ?_
          have ht : tok s x = true := by unfold tok; exact decide_eq_true (by omega)
          have har := ar_le hs ht
          have h := ih (pre ++ [x]) (n + ar s x) (by simpa using hl') (by simp only [List.length_append, List.length_cons, List.length_nil]; omega)
          refine Ev.bnd1 (impl_args_eq s hs x ht) ?_
          have e0 : wrap64 ((pre.length : Int) + 1) = (pre.length : Int) + 1 := w64 (by omega) (by omega)
          have e1 : wrap64 ((ar s x : Int) - 1) = (ar s x : Int) - 1 := w64 (by omega) (by omega)
          have e2 : wrap64 (((n + 1 : Nat) : Int) + ((ar s x : Int) - 1)) = (n : Int) + (ar s x : Int) := by rw [w64 (by omega) (by omega)]; omega
          rw [e0, e1, e2]
          refine Ev.eq (by simpa using h) ?_
          simp only [eat]
          rw [if_pos ht]
theorem impl_isTerm_ev (s : List Int) (hs : goodSign s = true) (l : List Int) : Ev (fun k => impl_Sign_isTerm.f k s l) (isTerm s l) := by
  simp only [impl_Sign_isTerm.f]
  unfold isTerm
  by_cases g : l.length > 40
  · refine Ev.pos (by omega) (Ev.eq (Ev.ret _) ?_)
    rw [decide_eq_false (by omega), Bool.false_and]
  · refine Ev.neg (by omega) ?_
    have h := impl_isTerm_l0 s hs l [] 1 (by simp; omega) (by omega)
    refine Ev.eq (by simpa using h) ?_
    cases l with
    | nil => simp [eat]
    | cons x l => rw [decide_eq_true (show 1 ≤ (x :: l).length ∧ (x :: l).length ≤ 40 by simp only [List.length_cons] at g ⊢; omega), Bool.true_and]

theorem szIntS_eq (l : List Int) (a : Int) (h0 : 0 ≤ a) (h1 : a ≤ 1048576) (hl : l.length ≤ 9223372036854775807) : laws_szIntS.f l a = some (if (l.length : Int) ≤ a then a - l.length else -1) := by
  unfold laws_szIntS.f
  rw [w64 (x := a - (l.length : Int)) (by omega) (by omega)]
  by_cases g : a - (l.length : Int) < 0
  · rw [if_pos g, if_neg (by omega)]
  · rw [if_neg g, if_pos (by omega)]
theorem szSign_eq (l : List Int) (a : Int) (h0 : 0 ≤ a) (h1 : a ≤ 1048576) (hl : l.length ≤ 9223372036854775807) : laws_szSign.f l a = some (if (l.length : Int) ≤ a then a - l.length else -1) := by
  unfold laws_szSign.f
  rw [szIntS_eq l a h0 h1 hl, Option.bind_some]
  by_cases g : (l.length : Int) ≤ a
  · rw [if_pos g, if_neg (by omega)]
  · rw [if_neg g]; rfl
theorem toSign_ev (l : List Int) (h : l.length ≤ 1048576) : Ev (fun k => laws_toSign.f k l) l := by
  simp only [laws_toSign.f]
  exact Ev.bnd (toIntS l (by omega)) (Ev.ret _)
theorem eqSign_self (l : List Int) (h : l.length ≤ 1048576) : Ev (fun k => laws_eqSign.f k l l) true := by
  simp only [laws_eqSign.f]
  exact Ev.bnd (eqIntS_self l (by omega)) (Ev.pos rfl (Ev.ret _))

/-! Literals as the laws hand them over. -/
def okLitA (x : S62) : Prop := x.f1.length ≤ 9223372036854775807 ∧ x.f2.length ≤ 9223372036854775807
def smLitA (x : S62) : Prop := x.f1.length ≤ 1048576 ∧ x.f2.length ≤ 1048576
def cvLit (x : S62) : S65 := ⟨x.f0, x.f1, x.f2⟩
def smLit (x : S65) : Prop := x.f1.length ≤ 1048576 ∧ x.f2.length ≤ 1048576
theorem rdLA_mid (pre : List S62) (x : S62) (post : List S62) : rd_T62 (pre ++ x :: post) (pre.length : Int) = x := by
  unfold rd_T62; simp
theorem rdLB_mid (pre : List S65) (x : S65) (post : List S65) : rd_T65 (pre ++ x :: post) (pre.length : Int) = x := by
  unfold rd_T65; simp
theorem szLit_eq (b : Bool) (f1 f2 : List Int) (a : Int) (h0 : 0 ≤ a) (h1 : a ≤ 1048576) (hf1 : f1.length ≤ 9223372036854775807) (hf2 : f2.length ≤ 9223372036854775807) : ∃ r, laws_szLit.f b f1 f2 a = some r ∧ r ≤ a ∧ (0 ≤ r → f1.length ≤ 1048576 ∧ f2.length ≤ 1048576) := by
  unfold laws_szLit.f
  rw [szIntS_eq f1 a h0 h1 hf1, Option.bind_some]
  by_cases g : (f1.length : Int) ≤ a
  · rw [if_pos g, if_neg (by omega), szIntS_eq f2 _ (by omega) (by omega) hf2, Option.bind_some]
    by_cases g2 : (f2.length : Int) ≤ a - f1.length
    · rw [if_pos g2, if_neg (by omega)]; exact ⟨_, rfl, by omega, fun _ => by omega⟩
    · rw [if_neg g2]; exact ⟨-1, rfl, by omega, by omega⟩
  · rw [if_neg g]; exact ⟨-1, rfl, by omega, by omega⟩
theorem szLitS_l0 (post : List S62) : ∀ (pre : List S62) (a : Int), 0 ≤ a → a ≤ 1048576 → (∀ x ∈ post, okLitA x) → (pre ++ post).length ≤ 1048576 →
    ∃ r, Ev (fun k => laws_szLitS.l0 k (pre ++ post) a (pre.length : Int)) r ∧ r ≤ a ∧ (0 ≤ r → ∀ x ∈ post, smLitA x) := by
  induction post with
  | nil =>
    intro pre a h0 h1 hk hl
    refine ⟨a, Ev.succ ?_, by omega, by simp⟩
    simp only [laws_szLitS.l0]
    exact Ev.neg (by simp) (Ev.ret _)
  | cons x post ih =>
    intro pre a h0 h1 hk hl
    have hl' := hl
    simp only [List.length_append, List.length_cons] at hl
    have hx := hk x (by simp)
    obtain ⟨r, e, hr, hs⟩ := szLit_eq x.f0 x.f1 x.f2 a h0 h1 hx.1 hx.2
    by_cases g : r < 0
    · refine ⟨-1, Ev.succ ?_, by omega, by omega⟩
      simp only [laws_szLitS.l0]
      refine Ev.pos (by simp only [List.length_append, List.length_cons]; omega) (Ev.pos (by omega) ?_)
      rw [rdLA_mid]
      exact Ev.bnd1 e (Ev.pos g (Ev.ret _))
    · obtain ⟨r2, e2, hr2, hs2⟩ := ih (pre ++ [x]) r (by omega) (by omega) (fun y hy => hk y (by simp [hy])) (by simpa using hl')
      refine ⟨r2, Ev.succ ?_, by omega, fun h y hy => ?_⟩
      · simp only [laws_szLitS.l0]
        refine Ev.pos (by simp only [List.length_append, List.length_cons]; omega) (Ev.pos (by omega) ?_)
        rw [rdLA_mid, w64 (x := (pre.length : Int) + 1) (by omega) (by omega)]
        exact Ev.bnd1 e (Ev.neg g (by simpa using e2))
      · rcases List.mem_cons.1 hy with rfl | hy
        · exact hs (by omega)
        · exact hs2 h y hy
theorem szLitS_ev (l : List S62) (a : Int) (h0 : 0 ≤ a) (h1 : a ≤ 1048576) (hl : l.length ≤ 9223372036854775807) (hk : ∀ x ∈ l, okLitA x) :
    ∃ r, Ev (fun k => laws_szLitS.f k l a) r ∧ r ≤ a ∧ (0 ≤ r → l.length ≤ 1048576 ∧ ∀ x ∈ l, smLitA x) := by
  simp only [laws_szLitS.f]
  rw [w64 (x := a - (l.length : Int)) (by omega) (by omega)]
  by_cases g : a - (l.length : Int) < 0
  · exact ⟨-1, Ev.pos g (Ev.ret _), by omega, by omega⟩
  · obtain ⟨r, e, hr, hs⟩ := szLitS_l0 l [] (a - l.length) (by omega) (by omega) hk (by simp; omega)
    exact ⟨r, Ev.neg g (by simpa using e), by omega, fun h => ⟨by omega, hs h⟩⟩
theorem toLit_ev (b : Bool) (f1 f2 : List Int) (h1 : f1.length ≤ 1048576) (h2 : f2.length ≤ 1048576) : Ev (fun k => laws_toLit.f k b f1 f2) (b, f1, f2) := by
  simp only [laws_toLit.f]
  exact Ev.bnd (toIntS f1 (by omega)) (Ev.bnd (toIntS f2 (by omega)) (Ev.ret _))
theorem toLitS_l0 (post : List S62) : ∀ (pre : List S62) (pre' rest : List S65), pre'.length = pre.length → rest.length = post.length → (pre ++ post).length ≤ 1048576 → (∀ x ∈ post, smLitA x) →
    Ev (fun k => laws_toLitS.l0 k (pre ++ post) (pre' ++ rest) (pre.length : Int)) (pre' ++ post.map cvLit) := by
  induction post with
  | nil =>
    intro pre pre' rest hp hr hl hk
    obtain rfl : rest = [] := List.eq_nil_of_length_eq_zero hr
    refine Ev.succ ?_
    simp only [laws_toLitS.l0]
    exact Ev.neg (by simp) (Ev.ret _)
  | cons x post ih =>
    intro pre pre' rest hp hr hl hk
    obtain ⟨y, rest, rfl⟩ : ∃ y t, rest = y :: t := by cases rest with | nil => simp at hr | cons y t => exact ⟨y, t, rfl⟩
    have h := ih (pre ++ [x]) (pre' ++ [cvLit x]) rest (by simpa using hp) (by simpa using hr) (by simpa using hl) (fun z hz => hk z (by simp [hz]))
    simp only [List.length_append, List.length_cons, List.length_nil] at hl hr h
    have hx := hk x (by simp)
    refine Ev.succ ?_
    simp only [laws_toLitS.l0, List.length_append, List.length_cons]
    refine Ev.pos (by omega) (Ev.pos (by omega) ?_)
    rw [rdLA_mid, w64 (by omega) (by omega)]
    refine Ev.bnd (toLit_ev _ _ _ hx.1 hx.2) (Ev.pos (by omega) ?_)
    have e : (pre' ++ y :: rest).set ((pre.length : Int)).toNat ⟨x.f0, x.f1, x.f2⟩ = pre' ++ [cvLit x] ++ rest := by simp [← hp, cvLit]
    rw [e]
    simpa using h
theorem toLitS_ev (l : List S62) (h : l.length ≤ 1048576) (hk : ∀ x ∈ l, smLitA x) : Ev (fun k => laws_toLitS.f k l) (l.map cvLit) := by
  simp only [laws_toLitS.f]
  refine Ev.pos (by omega) (Ev.pos (by omega) ?_)
  have := toLitS_l0 l [] [] (List.replicate l.length z65) rfl (by simp) (by simp; omega) hk
  simpa using this
theorem cvLit_sm {l : List S62} (hk : ∀ x ∈ l, smLitA x) : ∀ x ∈ l.map cvLit, smLit x := by
  intro x hx
  obtain ⟨y, hy, rfl⟩ := List.mem_map.1 hx
  exact hk y hy
theorem eqLit_self (b : Bool) (f1 f2 : List Int) (h1 : f1.length ≤ 1048576) (h2 : f2.length ≤ 1048576) : Ev (fun k => laws_eqLit.f k b f1 f2 b f1 f2) true := by
  simp only [laws_eqLit.f]
  exact Ev.neg (by simp) (Ev.bnd (eqIntS_self f1 (by omega)) (Ev.pos rfl (Ev.bnd (eqIntS_self f2 (by omega)) (Ev.pos rfl (Ev.ret _)))))
theorem eqLitS_l0 (post : List S65) : ∀ pre : List S65, (pre ++ post).length ≤ 1048576 → (∀ x ∈ post, smLit x) → Ev (fun k => laws_eqLitS.l0 k (pre ++ post) (pre ++ post) (pre.length : Int)) true := by
  induction post with
  | nil =>
    intro pre hl hk
    refine Ev.succ ?_
    simp only [laws_eqLitS.l0]
    exact Ev.neg (by simp) (Ev.ret _)
  | cons x post ih =>
    intro pre hl hk
    have h := ih (pre ++ [x]) (by simpa using hl) (fun y hy => hk y (by simp [hy]))
    have hx := hk x (by simp)
    simp only [List.length_append, List.length_cons] at hl
    refine Ev.succ ?_
    simp only [laws_eqLitS.l0]
    refine Ev.pos (by simp only [List.length_append, List.length_cons]; omega) (Ev.pos (by omega) (Ev.pos (by simp only [List.length_append, List.length_cons]; omega) ?_))
    rw [rdLB_mid, w64 (by omega) (by omega)]
    exact Ev.bnd (eqLit_self _ _ _ hx.1 hx.2) (Ev.pos rfl (by simpa using h))
theorem eqLitS_self (l : List S65) (hl : l.length ≤ 1048576) (hk : ∀ x ∈ l, smLit x) : Ev (fun k => laws_eqLitS.f k l l) true := by
  simp only [laws_eqLitS.f]
  exact Ev.pos trivial (by simpa using eqLitS_l0 l [] (by simpa using hl) hk)

/-! Several things at once, with enough rounds. -/
def Evp (P : Nat → Prop) : Prop := ∃ K, ∀ k, K ≤ k → P k
theorem Evp.and {P Q : Nat → Prop} (hp : Evp P) (hq : Evp Q) : Evp (fun k => P k ∧ Q k) := by
  obtain ⟨K1, h1⟩ := hp
  obtain ⟨K2, h2⟩ := hq
  exact ⟨K1 + K2, fun k hk => ⟨h1 k (by omega), h2 k (by omega)⟩⟩
theorem Evp.some {P : Nat → Prop} (h : Evp P) : ∃ k, P k := by
  obtain ⟨K, h⟩ := h
  exact ⟨K, h K (Nat.le_refl _)⟩
theorem Evp.of {α : Type} {g : Nat → Option α} {r : α} (h : Ev g r) : Evp (fun k => g k = .some r) := h
def ups : Int → Nat → List Int
  | _, 0 => []
  | m, n + 1 => m :: ups (m + 1) n
theorem ups_len (n : Nat) : ∀ m, (ups m n).length = n := by
  induction n with
  | zero => intro m; rfl
  | succ n ih => intro m; simp [ups, ih]
theorem markIntS_l0 (post : List Int) : ∀ (pre : List Int) (m : Int), 0 ≤ m → m + post.length ≤ 4611686018427387904 → (pre ++ post).length ≤ 140737488351232 → Ev (fun k => laws_markIntS.l0 k (pre ++ post) m (pre.length : Int)) (m + post.length, pre ++ ups m post.length) := by
  induction post with
  | nil =>
    intro pre m h0 h1 hl
    refine Ev.succ ?_
    simp only [laws_markIntS.l0]
    exact Ev.neg (by simp) (Ev.eq (Ev.ret _) (by simp [ups]))
  | cons x post ih =>
    intro pre m h0 h1 hl
    simp only [List.length_append, List.length_cons] at hl h1
    have h := ih (pre ++ [m]) (m + 1) (by omega) (by omega) (by simp only [List.length_append, List.length_cons, List.length_nil]; omega)
    refine Ev.succ ?_
    simp only [laws_markIntS.l0]
    refine Ev.pos (by simp only [List.length_append, List.length_cons]; omega) (Ev.pos (by omega) ?_)
    rw [w64 (x := m + 1) (by omega) (by omega), w64 (by omega) (by omega)]
    have e : (pre ++ x :: post).set ((pre.length : Int)).toNat m = pre ++ [m] ++ post := by simp
    rw [e]
    refine Ev.eq (by simpa using h) ?_
    simp only [ups, List.length_cons, Prod.mk.injEq]
    exact ⟨by omega, trivial⟩
theorem markIntS (l : List Int) (m : Int) (h0 : 0 ≤ m) (h1 : m + l.length ≤ 4611686018427387904) (hl : l.length ≤ 140737488351232) : Ev (fun k => laws_markIntS.f k l m) (m + l.length, ups m l.length) := by
  simp only [laws_markIntS.f]
  simpa using markIntS_l0 l [] m h0 h1 (by simpa using hl)
theorem heldIntS_l0 (n : Nat) : ∀ (pre : List Int) (m : Int), 0 ≤ m → m + n ≤ 4611686018427387904 → pre.length + n ≤ 140737488351232 → Ev (fun k => laws_heldIntS.l0 k (pre ++ ups m n) m (pre.length : Int)) (m + n) := by
  induction n with
  | zero =>
    intro pre m h0 h1 hl
    refine Ev.succ ?_
    simp only [laws_heldIntS.l0]
    exact Ev.neg (by simp [ups]) (Ev.eq (Ev.ret _) (by simp))
  | succ n ih =>
    intro pre m h0 h1 hl
    have h := ih (pre ++ [m]) (m + 1) (by omega) (by omega) (by simp only [List.length_append, List.length_cons, List.length_nil]; omega)
    refine Ev.succ ?_
    simp only [laws_heldIntS.l0]
    refine Ev.pos (by simp only [List.length_append, ups_len]; omega) (Ev.pos (by omega) (Ev.pos (by simp only [ups]; exact rd_mid _ _ _) ?_))
    rw [w64 (x := m + 1) (by omega) (by omega), w64 (by omega) (by omega)]
    refine Ev.eq (by simpa [ups] using h) (by omega)
theorem heldIntS (n : Nat) (m : Int) (h0 : 0 ≤ m) (h1 : m + n ≤ 4611686018427387904) (hl : n ≤ 140737488351232) : Ev (fun k => laws_heldIntS.f k (ups m n) m) (m + n) := by
  simp only [laws_heldIntS.f]
  simpa using heldIntS_l0 n [] m h0 h1 (by simpa using hl)

theorem sum_le_mul {α : Type} (f : α → Nat) (c : Nat) (l : List α) (h : ∀ x ∈ l, f x ≤ c) : (l.map f).sum ≤ l.length * c := by
  induction l with
  | nil => simp
  | cons x t ih =>
    have h1 := ih (fun y hy => h y (by simp [hy]))
    have h2 := h x (by simp)
    rw [List.map_cons, List.sum_cons, List.length_cons, Nat.add_mul, Nat.one_mul]
    omega
theorem ltot_le (l : List S65) (hl : l.length ≤ 1048576) (hk : ∀ x ∈ l, smLit x) : ltot l ≤ 2199024304128 := by
  have h := sum_le_mul lsz 2097153 l (fun x hx => by have := hk x hx; unfold smLit at this; unfold lsz; omega)
  have h2 : l.length * 2097153 ≤ 1048576 * 2097153 := Nat.mul_le_mul_right _ hl
  unfold ltot
  omega
theorem okMarkL_of (l : List S65) (hk : ∀ x ∈ l, smLit x) : ∀ x ∈ l, okMarkL x := fun x hx => by have := hk x hx; unfold smLit at this; unfold okMarkL; omega
theorem markSign_ev (l : List Int) (m : Int) (h0 : 0 ≤ m) (h1 : m + l.length ≤ 4611686018427387904) (hl : l.length ≤ 140737488351232) : Ev (fun k => laws_markSign.f k l m) (m + l.length, ups m l.length) := by
  simp only [laws_markSign.f]
  exact Ev.bnd (markIntS l m h0 h1 hl) (Ev.ret _)

/-! Terms within rows. -/
theorem eat_front (s : List Int) (l : List Int) : ∀ (n : Nat) (r : List Int), eat s l n = some r → ∃ c, l = c ++ r ∧ eat s c n = some [] := by
  induction l with
  | nil =>
    intro n r h
    cases n with
    | zero => simp only [eat, Option.some.injEq] at h; exact ⟨[], by simp [h], by simp [eat]⟩
    | succ n => simp [eat] at h
  | cons x l ih =>
    intro n r h
    cases n with
    | zero => simp only [eat, Option.some.injEq] at h; exact ⟨[], by simp [h], by simp [eat]⟩
    | succ n =>
      simp only [eat] at h
      split at h
      · rename_i ht
        obtain ⟨c, e, e2⟩ := ih _ _ h
        exact ⟨x :: c, by rw [e]; rfl, by simp only [eat]; rw [if_pos ht]; exact e2⟩
      · simp at h
theorem eat_app (s : List Int) (c : List Int) : ∀ (n m : Nat) (l : List Int), eat s c n = some [] → eat s (c ++ l) (n + m) = eat s l m := by
  induction c with
  | nil =>
    intro n m l h
    cases n with
    | zero => simp
    | succ n => simp [eat] at h
  | cons x c ih =>
    intro n m l h
    cases n with
    | zero => simp [eat] at h
    | succ n =>
      simp only [eat] at h
      split at h
      · rename_i ht
        rw [List.cons_append, show n + 1 + m = (n + m) + 1 by omega]
        simp only [eat]
        rw [if_pos ht, show n + m + ar s x = n + ar s x + m by omega]
        exact ih _ _ _ h
      · simp at h
theorem eat_tok (s : List Int) (l : List Int) : ∀ n, eat s l n = some [] → ∀ x ∈ l, tok s x = true := by
  induction l with
  | nil => intro n h x hx; simp at hx
  | cons x l ih =>
    intro n h y hy
    cases n with
    | zero => simp [eat] at h
    | succ n =>
      simp only [eat] at h
      split at h
      · rename_i ht
        rcases List.mem_cons.1 hy with rfl | hy
        · exact ht
        · exact ih _ h y hy
      · simp at h
theorem eat_cons {s : List Int} {x : Int} {l : List Int} {n : Nat} {r : List Int} (h : eat s (x :: l) (n + 1) = some r) : tok s x = true ∧ eat s l (n + ar s x) = some r := by
  simp only [eat] at h
  split at h
  · rename_i ht; exact ⟨ht, h⟩
  · simp at h
/-- The first of several terms. -/
theorem eat_first {s t : List Int} {m : Nat} (h : eat s t (m + 1) = some []) : ∃ c r, t = c ++ r ∧ eat s c 1 = some [] ∧ eat s t 1 = some r ∧ eat s r m = some [] ∧ c ≠ [] ∧ t.take (t.length - r.length) = c := by
  obtain ⟨r, h1, h2⟩ := eat_split s t 1 m [] (by rw [Nat.add_comm]; exact h)
  obtain ⟨c, e, e2⟩ := eat_front s t 1 r h1
  refine ⟨c, r, e, e2, h1, h2, fun hc => by rw [hc] at e2; simp [eat] at e2, ?_⟩
  rw [e, List.length_append, Nat.add_sub_cancel, List.take_left' rfl]
theorem eat_at (s : List Int) (l : List Int) : ∀ (n a : Nat), eat s l n = some [] → a < l.length → ∃ m, eat s (l.drop a) (m + 1) = some [] := by
  induction l with
  | nil => intro n a h ha; simp at ha
  | cons x l ih =>
    intro n a h ha
    cases n with
    | zero => simp [eat] at h
    | succ n =>
      cases a with
      | zero => exact ⟨n, by simpa using h⟩
      | succ a => exact ih _ a (eat_cons h).2 (by simpa using ha)
theorem eat_put (s : List Int) (pre : List Int) : ∀ (n : Nat) (c d r : List Int), eat s c 1 = some [] → eat s d 1 = some [] → eat s (pre ++ (c ++ r)) n = some [] → eat s (pre ++ (d ++ r)) n = some [] := by
  induction pre with
  | nil =>
    intro n c d r hc hd h
    cases n with
    | zero =>
      rw [List.nil_append, eat_zero] at h
      cases c with
      | nil => simp [eat] at hc
      | cons x c => simp at h
    | succ n =>
      rw [List.nil_append, Nat.add_comm, eat_app s _ 1 n _ hc] at h
      rw [List.nil_append, Nat.add_comm, eat_app s _ 1 n _ hd, h]
  | cons x pre ih =>
    intro n c d r hc hd h
    cases n with
    | zero => simp [eat] at h
    | succ n =>
      obtain ⟨ht, h⟩ := eat_cons h
      rw [List.cons_append]
      simp only [eat]
      rw [if_pos ht]
      exact ih _ _ _ _ hc hd h
theorem mid_slice (pre c r : List Int) : ((pre ++ (c ++ r)).take (((pre ++ (c ++ r)).length : Int) - (r.length : Int)).toNat).drop ((pre.length : Int)).toNat = c := by
  have e : (((pre ++ (c ++ r)).length : Int) - (r.length : Int)).toNat = (pre ++ c).length := by simp only [List.length_append]; omega
  rw [e, ← List.append_assoc, List.take_left' rfl, Int.toNat_natCast, List.drop_left' rfl]
theorem own_eq (l : List Int) (h : l.length ≤ 1000000) : spec_l1Own.f l = some l := by
  unfold spec_l1Own.f
  rw [Option.bind_some, if_pos (by simp only [List.length_nil]; omega), List.nil_append]
theorem spec_l1Part_ev (s : List Int) (hs : goodSign s = true) (pre c r : List Int) (hr : eat s (c ++ r) 1 = some r) (hl : (pre ++ (c ++ r)).length ≤ 1000000) :
    Ev (fun k => spec_l1Part.f k s (pre ++ (c ++ r)) (pre.length : Int)) c := by
  simp only [spec_l1Part.f]
  have h := spec_l1End_ev s hs pre (c ++ r) (by omega)
  rw [hr] at h
  simp only at h
  have hl2 := hl
  simp only [List.length_append] at hl2
  refine Ev.bnd h (Ev.pos (by omega) (Ev.pos (by simp only [List.length_append]; omega) (Ev.pos (by simp only [List.length_append]; omega) ?_)))
  rw [mid_slice]
  exact Ev.bnd1 (own_eq c (by omega)) (Ev.ret _)

/-! Matching, replacing, order: what the two sides compute. -/
theorem impl_end_l0 (s : List Int) (hs : goodSign s = true) (l : List Int) : ∀ (pre : List Int) (n : Nat) (r : List Int), (pre ++ l).length ≤ 1000000000 → n ≤ 3 * pre.length + 3 → eat s l n = some r →
    Ev (fun k => impl_Sign_end.l0 k (pre ++ l) (pre.length : Int) (n : Int) s) (((pre ++ l).length : Int) - r.length) := by
  induction l with
  | nil =>
    intro pre n r hl hn h
    cases n with
    | zero =>
      simp only [eat, Option.some.injEq] at h
      refine Ev.succ ?_
      simp only [impl_Sign_end.l0]
      exact Ev.neg (by simp) (Ev.eq (Ev.ret _) (by rw [← h]; simp))
    | succ n => simp [eat] at h
  | cons x l ih =>
    intro pre n r hl hn h
    have hl' := hl
    simp only [List.length_append, List.length_cons] at hl
    refine Ev.succ ?_
    simp only [impl_Sign_end.l0]
    cases n with
    | zero =>
      simp only [eat, Option.some.injEq] at h
      exact Ev.neg (by simp) (Ev.eq (Ev.ret _) (by rw [← h]; simp only [List.length_append]; omega))
    | succ n =>
      obtain ⟨ht, h⟩ := eat_cons h
      have har := ar_le hs ht
      refine Ev.pos (by omega) (Ev.pos (by omega) (Ev.pos (by simp only [List.length_append, List.length_cons]; omega) ?_))
      rw [rd_mid]
      refine Ev.bnd1 (impl_args_eq s hs x ht) ?_
      have h' := ih (pre ++ [x]) (n + ar s x) r (by simpa using hl') (by simp only [List.length_append, List.length_cons, List.length_nil]; omega) h
      have e0 : wrap64 ((pre.length : Int) + 1) = (pre.length : Int) + 1 := w64 (by omega) (by omega)
      have e1 : wrap64 ((ar s x : Int) - 1) = (ar s x : Int) - 1 := w64 (by omega) (by omega)
      have e2 : wrap64 (((n + 1 : Nat) : Int) + ((ar s x : Int) - 1)) = (n : Int) + (ar s x : Int) := by rw [w64 (by omega) (by omega)]; omega
      rw [e0, e1, e2]
      simpa using h'
theorem impl_end_ev (s : List Int) (hs : goodSign s = true) (pre l r : List Int) (hl : (pre ++ l).length ≤ 1000000000) (h : eat s l 1 = some r) :
    Ev (fun k => impl_Sign_end.f k s (pre ++ l) (pre.length : Int)) (((pre ++ l).length : Int) - r.length) := by
  simp only [impl_Sign_end.f]
  exact impl_end_l0 s hs l pre 1 r hl (by omega) h
theorem impl_part_ev (s : List Int) (hs : goodSign s = true) (pre c r : List Int) (hr : eat s (c ++ r) 1 = some r) (hl : (pre ++ (c ++ r)).length ≤ 1000000) :
    Ev (fun k => impl_Sign_part.f k s (pre ++ (c ++ r)) (pre.length : Int)) c := by
  simp only [impl_Sign_part.f]
  have h := impl_end_ev s hs pre (c ++ r) r (by omega) hr
  have hl2 := hl
  simp only [List.length_append] at hl2
  refine Ev.bnd h (Ev.pos (by omega) (Ev.pos (by simp only [List.length_append]; omega) (Ev.pos (by simp only [List.length_append]; omega) ?_)))
  rw [mid_slice]
  refine Ev.bnd1 (a := c) (by unfold slices_Clone_int_int_83.f; rw [if_pos (by omega)]) (Ev.ret _)
theorem same_l0 (post : List Int) : ∀ (pre post2 : List Int), post2.length = post.length → (pre ++ post).length ≤ 1000000 → ∀ pre2 : List Int, pre2.length = pre.length →
    Ev (fun k => spec_l1Same.l0 k (pre ++ post) (pre2 ++ post2) ((pre ++ post).length : Int) (pre.length : Int)) (decide (post = post2)) ∧ Ev (fun k => slices_Equal_int_int.l0 k (pre ++ post) (pre2 ++ post2) ((pre ++ post).length : Int) (pre.length : Int)) (decide (post = post2)) := by
  induction post with
  | nil =>
    intro pre post2 h2 hl pre2 hp
    have e2 : post2 = [] := List.eq_nil_of_length_eq_zero h2
    subst e2
    constructor
    · refine Ev.succ ?_
      simp only [spec_l1Same.l0]
      exact Ev.neg (by simp) (Ev.eq (Ev.ret _) (by simp))
    · refine Ev.succ ?_
      simp only [slices_Equal_int_int.l0]
      exact Ev.neg (by simp) (Ev.eq (Ev.ret _) (by simp))
  | cons x post ih =>
    intro pre post2 h2 hl pre2 hp
    obtain ⟨y, post2, rfl⟩ : ∃ y t, post2 = y :: t := by cases post2 with | nil => simp at h2 | cons y t => exact ⟨y, t, rfl⟩
    obtain ⟨i1, i2⟩ := ih (pre ++ [x]) post2 (by simpa using h2) (by simpa using hl) (pre2 ++ [y]) (by simpa using hp)
    simp only [List.length_append, List.length_cons] at hl
    have e0 : wrap64 ((pre.length : Int) + 1) = (pre.length : Int) + 1 := w64 (by omega) (by omega)
    have ey : rd (pre2 ++ y :: post2) (pre.length : Int) = y := by rw [← hp]; exact rd_mid _ _ _
    constructor
    · refine Ev.succ ?_
      simp only [spec_l1Same.l0]
      refine Ev.pos (by simp only [List.length_append, List.length_cons]; omega) (Ev.pos (by omega) (Ev.pos (by simp only [List.length_append, List.length_cons]; omega) (Ev.pos (by simp only [List.length_append, List.length_cons]; omega) ?_)))
      rw [rd_mid, ey, e0]
      by_cases g : x = y
      · refine Ev.pos g (Ev.eq (by simpa using i1) (by simp [g]))
      · refine Ev.neg g (Ev.eq (Ev.ret _) (by simp [g]))
    · refine Ev.succ ?_
      simp only [slices_Equal_int_int.l0]
      refine Ev.pos (by simp only [List.length_append, List.length_cons]; omega) (Ev.pos (by omega) (Ev.pos (by simp only [List.length_append, List.length_cons]; omega) (Ev.pos (by simp only [List.length_append, List.length_cons]; omega) ?_)))
      rw [rd_mid, ey, e0]
      by_cases g : x = y
      · refine Ev.pos g (Ev.eq (by simpa using i2) (by simp [g]))
      · refine Ev.neg g (Ev.eq (Ev.ret _) (by simp [g]))
theorem spec_l1Same_ev (a b : List Int) (h : a.length ≤ 1000000) : Ev (fun k => spec_l1Same.f k a b) (decide (a = b)) := by
  simp only [spec_l1Same.f]
  by_cases g : a.length = b.length
  · exact Ev.pos (by omega) (by simpa using (same_l0 a [] b g.symm (by simpa using h) [] rfl).1)
  · exact Ev.neg (by omega) (Ev.eq (Ev.ret _) (by rw [decide_eq_false]; intro e; exact g (by rw [e])))
theorem impl_Equal_ev (a b : List Int) (h : a.length ≤ 1000000) : Ev (fun k => slices_Equal_int_int.f k a b) (decide (a = b)) := by
  simp only [slices_Equal_int_int.f]
  by_cases g : a.length = b.length
  · exact Ev.pos (by omega) (by simpa using (same_l0 a [] b g.symm (by simpa using h) [] rfl).2)
  · exact Ev.neg (by omega) (Ev.eq (Ev.ret _) (by rw [decide_eq_false]; intro e; exact g (by rw [e])))
/-- The rows that a pattern's variables take at a term. -/
def mtch (s : List Int) : List Int → List Int → List (List Int) → Option (List (List Int))
  | [], _, b => some b
  | n :: p, t, b => if 0 ≤ n then (match t with
      | [] => none
      | c :: t => if n = c then mtch s p t b else none)
    else match eat s t 1 with
      | none => none
      | some r => if b.getD (-1 - n).toNat [] = [] ∨ b.getD (-1 - n).toNat [] = t.take (t.length - r.length) then mtch s p r (b.set (-1 - n).toNat (t.take (t.length - r.length))) else none
def mout (o : Option (List (List Int))) : List (List Int) × Bool := match o with
  | some b => (b, true)
  | none => ([], false)
/-- What the rows that variables take look like. -/
def okB (s : List Int) (N : Nat) (b : List (List Int)) : Prop := b.length = 12 ∧ ∀ x ∈ b, x.length ≤ N ∧ (x ≠ [] → eat s x 1 = some [])
theorem okB_get {s : List Int} {N : Nat} {b : List (List Int)} (h : okB s N b) (v : Nat) : (b.getD v []).length ≤ N ∧ (b.getD v [] ≠ [] → eat s (b.getD v []) 1 = some []) := by
  by_cases g : v < b.length
  · have e : b.getD v [] = b[v] := by simp [List.getD_eq_getElem?_getD, List.getElem?_eq_getElem g]
    rw [e]; exact h.2 _ (List.getElem_mem g)
  · have e : b.getD v [] = [] := by rw [List.getD_eq_getElem?_getD, List.getElem?_eq_none (by omega)]; rfl
    rw [e]; simp
theorem okB_set {s : List Int} {N : Nat} {b : List (List Int)} (h : okB s N b) (v : Nat) (x : List Int) (h1 : x.length ≤ N) (h2 : eat s x 1 = some []) : okB s N (b.set v x) := by
  refine ⟨by rw [List.length_set]; exact h.1, fun y hy => ?_⟩
  rcases List.mem_or_eq_of_mem_set hy with hy | rfl
  · exact h.2 y hy
  · exact ⟨h1, fun _ => h2⟩
theorem tok_neg {s : List Int} {n : Int} (ht : tok s n = true) (h : n < 0) : ar s n = 0 ∧ -12 ≤ n := by
  unfold tok at ht
  simp only [decide_eq_true_eq] at ht
  refine ⟨by unfold ar; rw [if_pos h], ht.1⟩
theorem mtch_ok (s : List Int) (p : List Int) : ∀ (t : List Int) (b : List (List Int)) (m : Nat) (N : Nat) (b' : List (List Int)), eat s p m = some [] → eat s t m = some [] → t.length ≤ N → okB s N b → mtch s p t b = some b' → okB s N b' := by
  induction p with
  | nil => intro t b m N b' hp ht hN hb h; simp only [mtch, Option.some.injEq] at h; exact h ▸ hb
  | cons n p ih =>
    intro t b m N b' hp ht hN hb h
    cases m with
    | zero => simp [eat] at hp
    | succ m =>
      obtain ⟨htk, hp⟩ := eat_cons hp
      simp only [mtch] at h
      split at h
      · split at h
        · simp at h
        · split at h
          · rename_i g
            subst g
            exact ih _ _ _ N b' hp (eat_cons ht).2 (by simp only [List.length_cons] at hN; omega) hb h
          · simp at h
      · rename_i g0
        rw [(tok_neg htk (by omega)).1] at hp
        obtain ⟨c, r, e, e1, e2, e3, e4, e5⟩ := eat_first ht
        rw [e2] at h
        simp only [e5] at h
        split at h
        · exact ih _ _ _ N b' hp e3 (by rw [e, List.length_append] at hN; omega) (okB_set hb _ _ (by rw [e, List.length_append] at hN; omega) e1) h
        · simp at h
theorem spec_match_ev (s : List Int) (hs : goodSign s = true) (p : List Int) : ∀ (pre t : List Int) (b : List (List Int)) (m : Nat) (N : Nat), N ≤ 1000 → eat s p m = some [] → eat s t m = some [] → (pre ++ t).length ≤ N → okB s N b →
    Ev (fun k => spec_l2Match.go k s (pre ++ t) p b pre.length) (mout (mtch s p t b)) := by
  induction p with
  | nil => intro pre t b m N hN hp ht hl hb; simp only [spec_l2Match.go]; exact Ev.eq (Ev.ret _) rfl
  | cons n p ih =>
    intro pre t b m N hN hp ht hl hb
    cases m with
    | zero => simp [eat] at hp
    | succ m =>
      obtain ⟨htk, hp⟩ := eat_cons hp
      simp only [spec_l2Match.go, mtch]
      by_cases g : 0 ≤ n
      · rw [if_pos g]
        refine Ev.pos g ?_
        cases t with
        | nil => simp [eat] at ht
        | cons c t =>
          refine Ev.pos (by simp) ?_
          rw [rd_mid]
          by_cases g2 : n = c
          · subst g2
            have h := ih (pre ++ [n]) t b (m + ar s n) N hN hp (eat_cons ht).2 (by simpa using hl) hb
            exact Ev.eq (r := mout (mtch s p t b)) (Ev.pos rfl (by simpa using h)) (by simp)
          · exact Ev.eq (r := ([], false)) (Ev.neg g2 (Ev.ret _)) (by simp [g2, mout])
      · rw [if_neg g]
        obtain ⟨htn, htk2⟩ := tok_neg htk (by omega)
        rw [htn] at hp
        obtain ⟨c, r, e, e1, e2, e3, e4, e5⟩ := eat_first ht
        rw [e2]
        simp only [e5]
        have hb12 := hb.1
        have hbv := okB_get hb (-1 - n).toNat
        subst e
        have hcl : c.length ≤ N := by simp only [List.length_append] at hl; omega
        have hlen : (pre ++ (c ++ r)).length = pre.length + c.length + r.length := by simp only [List.length_append]; omega
        refine Ev.neg g (Ev.pos (by omega) (Ev.bnd (spec_l1Part_ev s hs pre c r e2 (by omega)) (Ev.pos (by omega) ?_)))
        have h := ih (pre ++ c) r (b.set (-1 - n).toNat c) m N hN hp e3 (by simpa using hl) (okB_set hb _ _ hcl e1)
        rw [List.append_assoc, List.length_append] at h
        by_cases g3 : b.getD (-1 - n).toNat [] = []
        · rw [if_pos (.inl g3)]
          exact Ev.neg (by rw [g3]; simp) h
        · refine Ev.pos (List.length_pos_iff.2 g3) (Ev.bnd (spec_l1Same_ev _ _ (by omega)) ?_)
          by_cases g4 : b.getD (-1 - n).toNat [] = c
          · rw [if_pos (.inr g4)]
            exact Ev.pos (decide_eq_true g4) h
          · rw [if_neg (by rintro (q | q); exact g3 q; exact g4 q)]
            exact Ev.neg (by rw [decide_eq_false g4]; simp) (Ev.eq (Ev.ret _) rfl)
theorem set_getD_self (b : List (List Int)) (v : Nat) : b.set v (b.getD v []) = b := by
  by_cases g : v < b.length
  · have e : b.getD v [] = b[v] := by simp [List.getD_eq_getElem?_getD, List.getElem?_eq_getElem g]
    rw [e, List.set_getElem_self]
  · rw [List.set_eq_of_length_le (by omega)]
theorem impl_match_ev (s : List Int) (hs : goodSign s = true) (p : List Int) : ∀ (pre t : List Int) (b : List (List Int)) (m : Nat) (N : Nat), N ≤ 1000 → eat s p m = some [] → eat s t m = some [] → (pre ++ t).length ≤ N → okB s N b →
    Ev (fun k => impl_Sign_match.go k s (pre ++ t) p b pre.length) (mout (mtch s p t b)) := by
  induction p with
  | nil =>
    intro pre t b m N hN hp ht hl hb
    cases m with
    | succ m => simp [eat] at hp
    | zero =>
      rw [eat_zero] at ht
      simp only [Option.some.injEq] at ht
      subst ht
      simp only [impl_Sign_match.go]
      exact Ev.eq (Ev.ret _) (by simp [mout, mtch])
  | cons n p ih =>
    intro pre t b m N hN hp ht hl hb
    cases m with
    | zero => simp [eat] at hp
    | succ m =>
      obtain ⟨htk, hp⟩ := eat_cons hp
      simp only [impl_Sign_match.go, mtch]
      have hpos : pre.length < (pre ++ t).length := by
        cases t with
        | nil => simp [eat] at ht
        | cons c t => simp
      refine Ev.pos hpos ?_
      by_cases g : 0 ≤ n
      · rw [if_pos g]
        refine Ev.pos g ?_
        cases t with
        | nil => simp [eat] at ht
        | cons c t =>
          rw [rd_mid]
          by_cases g2 : n = c
          · subst g2
            have h := ih (pre ++ [n]) t b (m + ar s n) N hN hp (eat_cons ht).2 (by simpa using hl) hb
            exact Ev.eq (r := mout (mtch s p t b)) (Ev.pos rfl (by simpa using h)) (by simp)
          · exact Ev.eq (r := ([], false)) (Ev.neg (fun q => g2 q.symm) (Ev.ret _)) (by simp [g2, mout])
      · rw [if_neg g]
        obtain ⟨htn, htk2⟩ := tok_neg htk (by omega)
        rw [htn] at hp
        obtain ⟨c, r, e, e1, e2, e3, e4, e5⟩ := eat_first ht
        rw [e2]
        simp only [e5]
        have hb12 := hb.1
        have hbv := okB_get hb (-1 - n).toNat
        subst e
        have hcl : c.length ≤ N := by simp only [List.length_append] at hl; omega
        have hlen : (pre ++ (c ++ r)).length = pre.length + c.length + r.length := by simp only [List.length_append]; omega
        refine Ev.neg g (Ev.pos (by omega) (Ev.bnd (impl_end_ev s hs pre (c ++ r) r (by omega) e2) (Ev.pos (by omega) ?_)))
        have h := ih (pre ++ c) r (b.set (-1 - n).toNat c) m N hN hp e3 (by simpa using hl) (okB_set hb _ _ hcl e1)
        rw [List.append_assoc, List.length_append] at h
        have ms := mid_slice pre c r
        rw [Int.toNat_natCast] at ms
        have en : (((pre ++ (c ++ r)).length : Int) - (r.length : Int)).toNat = pre.length + c.length := by omega
        rw [ms, en]
        by_cases g3 : b.getD (-1 - n).toNat [] = []
        · rw [if_pos (.inl g3)]
          exact Ev.pos (by rw [g3]; rfl) h
        · refine Ev.neg (fun q => g3 (List.eq_nil_of_length_eq_zero q)) (Ev.bnd (impl_Equal_ev _ _ (by omega)) ?_)
          by_cases g4 : b.getD (-1 - n).toNat [] = c
          · rw [if_pos (.inr g4)]
            have e9 := set_getD_self b (-1 - n).toNat
            rw [g4] at e9
            rw [e9] at h
            exact Ev.pos (decide_eq_true g4) (by rw [e9]; exact h)
          · rw [if_neg (by rintro (q | q); exact g3 q; exact g4 q)]
            exact Ev.neg (by rw [decide_eq_false g4]; simp) (Ev.eq (Ev.ret _) rfl)
/-- What stands for a variable. -/
def sub (b : List (List Int)) (v : Nat) : List Int := if b.getD v [] = [] then [-1 - (v : Int)] else b.getD v []
def app (b : List (List Int)) : List Int → List Int
  | [] => []
  | n :: t => (if n < 0 then sub b (-1 - n).toNat else [n]) ++ app b t
theorem isItself_eq (l : List Int) (i : Nat) (hi : i ≤ 1000) : impl_isItself.f l (i : Int) = some (decide (l = [-1 - (i : Int)])) := by
  unfold impl_isItself.f
  by_cases g : l.length = 1
  · obtain ⟨x, rfl⟩ := List.length_eq_one_iff.1 g
    rw [if_pos (by simp), if_pos (by simp), w64 (by omega) (by omega)]
    congr 1
    have : rd [x] 0 = x := rfl
    rw [this]
    by_cases h : x = -1 - (i : Int)
    · simp [h]
    · have h2 : ¬ ([x] = [-1 - (i : Int)]) := by simpa using h
      rw [decide_eq_false h2]
      simpa using h
  · rw [if_neg (by omega), decide_eq_false]
    intro e
    rw [e] at g
    simp at g
theorem bare_eq (m : Nat) : ∀ (i : Nat) (b : List (List Int)), i + m ≤ 1000 → ∃ b', impl_bare.go m i b = some b' ∧ b'.length = b.length ∧ (∀ v, sub b' v = sub b v) ∧ ∀ N s, okB s N b → okB s N b' := by
  induction m with
  | zero => intro i b h; exact ⟨b, rfl, rfl, fun _ => rfl, fun _ _ h => h⟩
  | succ m ih =>
    intro i b h
    simp only [impl_bare.go]
    rw [isItself_eq _ _ (by omega), Option.bind_some]
    by_cases g : b.getD i [] = [-1 - (i : Int)]
    · rw [decide_eq_true g, if_pos rfl]
      obtain ⟨b', e, el, es, eo⟩ := ih (i + 1) (b.set i []) (by omega)
      refine ⟨b', e, by rw [el, List.length_set], fun v => ?_, fun N s hb => eo N s ?_⟩
      · rw [es]
        by_cases hv : v = i
        · subst hv
          have e1 : sub b v = [-1 - (v : Int)] := by unfold sub; rw [g, if_neg (by simp)]
          have e2 : (b.set v []).getD v [] = [] := by
            by_cases hb : v < b.length
            · simp [List.getD_eq_getElem?_getD, hb]
            · rw [List.getD_eq_getElem?_getD, List.getElem?_eq_none (by rw [List.length_set]; omega)]; rfl
          rw [e1]
          unfold sub
          rw [if_pos e2]
        · have : (b.set i []).getD v [] = b.getD v [] := by
            rw [List.getD_eq_getElem?_getD, List.getD_eq_getElem?_getD, List.getElem?_set_ne (by omega)]
          unfold sub
          rw [this]
      · refine ⟨by rw [List.length_set]; exact hb.1, fun y hy => ?_⟩
        rcases List.mem_or_eq_of_mem_set hy with hy | rfl
        · exact hb.2 y hy
        · simp
    · rw [decide_eq_false g, if_neg (by simp)]
      exact ih (i + 1) b (by omega)
theorem app_congr {b b' : List (List Int)} (h : ∀ v, sub b' v = sub b v) (l : List Int) : app b' l = app b l := by
  induction l with
  | nil => rfl
  | cons n t ih => simp only [app, h, ih]
theorem rdL2_nat (b : List (List Int)) (n : Int) (h : n < 0) (h2 : -12 ≤ n) : rd_L2 b (wrap64 ((-1) - n)) = b.getD (-1 - n).toNat [] := by
  unfold rd_L2
  rw [w64 (by omega) (by omega)]
theorem sub_of (b : List (List Int)) (n : Int) (h : n < 0) : sub b (-1 - n).toNat = if b.getD (-1 - n).toNat [] = [] then [n] else b.getD (-1 - n).toNat [] := by
  unfold sub
  rw [show -1 - ((-1 - n).toNat : Int) = n by omega]
theorem spec_apply_l0 (s : List Int) (b : List (List Int)) (N : Nat) (hN : N ≤ 1000) (hb : okB s N b) (post : List Int) : ∀ (pre acc : List Int), (pre ++ post).length ≤ 1000 → (∀ x ∈ post, -12 ≤ x) → acc.length ≤ (N + 1) * pre.length →
    Ev (fun k => spec_l2Apply.l0 k b acc (pre ++ post) ((pre ++ post).length : Int) (pre.length : Int)) (acc ++ app b post) := by
  have hb12 := hb.1
  induction post with
  | nil =>
    intro pre acc hl hx ha
    refine Ev.succ ?_
    simp only [spec_l2Apply.l0]
    exact Ev.neg (by simp) (Ev.eq (Ev.ret _) (by simp [app]))
  | cons x post ih =>
    intro pre acc hl hx ha
    have hl' := hl
    simp only [List.length_append, List.length_cons] at hl
    have hx0 := hx x (by simp)
    have hbv := okB_get hb (-1 - x).toNat
    have hacc : acc.length ≤ 1001 * 1000 := Nat.le_trans ha (Nat.mul_le_mul (by omega) (by omega))
    have e0 : wrap64 ((pre.length : Int) + 1) = (pre.length : Int) + 1 := w64 (by omega) (by omega)
    have key : ∀ y : List Int, y.length ≤ N + 1 → Ev (fun k => spec_l2Apply.l0 k b (acc ++ y) (pre ++ x :: post) ((pre ++ x :: post).length : Int) ((pre.length : Int) + 1)) (acc ++ (y ++ app b post)) := by
      intro y hy
      have h := ih (pre ++ [x]) (acc ++ y) (by simpa using hl') (fun z hz => hx z (by simp [hz])) (by
        rw [List.length_append, List.length_append, List.length_singleton, Nat.mul_add]; omega)
      simpa using h
    refine Ev.succ ?_
    simp only [spec_l2Apply.l0, app]
    refine Ev.pos (by simp only [List.length_append, List.length_cons]; omega) (Ev.pos (by omega) (Ev.pos (by simp only [List.length_append, List.length_cons]; omega) ?_))
    rw [rd_mid, e0]
    by_cases g : x < 0
    · rw [rdL2_nat b x g hx0, if_pos g, sub_of b x g, w64 (x := (-1) - x) (by omega) (by omega)]
      refine Ev.pos g (Ev.pos (by omega) (Ev.pos (by omega) ?_))
      by_cases g2 : b.getD (-1 - x).toNat [] = []
      · rw [if_pos g2]
        exact Ev.neg (by rw [g2]; simp) (Ev.pos (by omega) (key [x] (by simp)))
      · rw [if_neg g2]
        have := List.length_pos_iff.2 g2
        exact Ev.pos (by omega) (Ev.pos (by omega) (key _ (by omega)))
    · rw [if_neg g]
      exact Ev.neg g (Ev.pos (by omega) (key [x] (by simp)))
theorem spec_apply_ev (s : List Int) (b : List (List Int)) (N : Nat) (hN : N ≤ 1000) (hb : okB s N b) (l : List Int) (hl : l.length ≤ 1000) (hx : ∀ x ∈ l, -12 ≤ x) : Ev (fun k => spec_l2Apply.f k b l) (app b l) := by
  simp only [spec_l2Apply.f]
  simpa using spec_apply_l0 s b N hN hb l [] [] (by simpa using hl) hx (by simp)
def cap (l : List Int) : List Int × Bool := if l.length ≤ 40 then (l, true) else ([], false)
theorem impl_apply_l0 (s : List Int) (b : List (List Int)) (N : Nat) (hN : N ≤ 1000) (hb : okB s N b) (post : List Int) : ∀ (pre acc : List Int), (pre ++ post).length ≤ 1000 → (∀ x ∈ post, -12 ≤ x) → acc.length ≤ 40 →
    Ev (fun k => impl_apply.l0 k b acc (pre ++ post) ((pre ++ post).length : Int) (pre.length : Int)) (cap (acc ++ app b post)) := by
  have hb12 := hb.1
  induction post with
  | nil =>
    intro pre acc hl hx ha
    refine Ev.succ ?_
    simp only [impl_apply.l0]
    exact Ev.neg (by simp) (Ev.eq (Ev.ret _) (by rw [app, List.append_nil]; unfold cap; rw [if_pos ha]))
  | cons x post ih =>
    intro pre acc hl hx ha
    have hl' := hl
    simp only [List.length_append, List.length_cons] at hl
    have hx0 := hx x (by simp)
    have hbv := okB_get hb (-1 - x).toNat
    have e0 : wrap64 ((pre.length : Int) + 1) = (pre.length : Int) + 1 := w64 (by omega) (by omega)
    have key : ∀ y : List Int, Ev (fun k => if ((acc ++ y).length : Int) > 40 then some (([] : List Int), false) else impl_apply.l0 k b (acc ++ y) (pre ++ x :: post) ((pre ++ x :: post).length : Int) ((pre.length : Int) + 1)) (cap (acc ++ (y ++ app b post))) := by
      intro y
      by_cases g : (acc ++ y).length ≤ 40
      · have h := ih (pre ++ [x]) (acc ++ y) (by simpa using hl') (fun z hz => hx z (by simp [hz])) g
        refine Ev.neg (by omega) ?_
        simpa only [List.append_assoc, List.singleton_append, List.length_append, List.length_singleton, Int.natCast_add, Int.cast_ofNat_Int] using h
      · refine Ev.pos (by omega) (Ev.eq (Ev.ret _) ?_)
        unfold cap; rw [if_neg (by rw [← List.append_assoc, List.length_append]; omega)]
    refine Ev.succ ?_
    simp only [impl_apply.l0, app]
    refine Ev.pos (by simp only [List.length_append, List.length_cons]; omega) (Ev.pos (by omega) (Ev.pos (by simp only [List.length_append, List.length_cons]; omega) ?_))
    rw [rd_mid]
    by_cases g : x < 0
    · rw [rdL2_nat b x g hx0, if_pos g, sub_of b x g, w64 (x := (-1) - x) (by omega) (by omega)]
      refine Ev.pos g (Ev.pos (by omega) (Ev.pos (by omega) (Ev.succ ?_)))
      simp only [impl_apply.j1]
      rw [e0, rdL2_nat b x g hx0, w64 (x := (-1) - x) (by omega) (by omega)]
      by_cases g2 : b.getD (-1 - x).toNat [] = []
      · rw [if_pos g2]
        exact Ev.neg (by rw [g2]; simp) (Ev.pos (by omega) (Ev.bnd1 rfl (key [x])))
      · rw [if_neg g2]
        have := List.length_pos_iff.2 g2
        exact Ev.pos (decide_eq_true (by omega)) (Ev.pos (by omega) (Ev.pos (by omega) (Ev.pos (by omega) (Ev.bnd1 rfl (key _)))))
    · rw [if_neg g]
      refine Ev.neg g (Ev.succ ?_)
      simp only [impl_apply.j1]
      rw [e0]
      exact Ev.neg (by simp) (Ev.pos (by omega) (Ev.bnd1 rfl (key [x])))
theorem impl_apply_ev (s : List Int) (b : List (List Int)) (N : Nat) (hN : N ≤ 1000) (hb : okB s N b) (l : List Int) (hl : l.length ≤ 1000) (hx : ∀ x ∈ l, -12 ≤ x) : Ev (fun k => impl_apply.f k b l) (cap (app b l)) := by
  simp only [impl_apply.f]
  simpa using impl_apply_l0 s b N hN hb l [] [] (by simpa using hl) hx (by simp)
theorem app_eat (s : List Int) (b : List (List Int)) (N : Nat) (hb : okB s N b) (l : List Int) : ∀ n, eat s l n = some [] → eat s (app b l) n = some [] := by
  induction l with
  | nil => intro n h; exact h
  | cons x l ih =>
    intro n h
    cases n with
    | zero => simp [eat] at h
    | succ n =>
      obtain ⟨ht, h⟩ := eat_cons h
      simp only [app]
      by_cases g : x < 0
      · rw [if_pos g, sub_of b x g]
        obtain ⟨htn, _⟩ := tok_neg ht g
        rw [htn] at h
        by_cases g2 : b.getD (-1 - x).toNat [] = []
        · rw [if_pos g2, List.singleton_append]
          simp only [eat]
          rw [if_pos ht, htn]
          exact ih _ h
        · rw [if_neg g2, Nat.add_comm, eat_app s _ 1 n _ ((okB_get hb _).2 g2)]
          exact ih _ h
      · rw [if_neg g, List.singleton_append]
        simp only [eat]
        rw [if_pos ht]
        exact ih _ h

/-! Counts, variables, order. -/
theorem count_l0 (x : Int) (post : List Int) : ∀ (pre : List Int) (c : Nat), (pre ++ post).length ≤ 1000000 → c ≤ pre.length →
    Ev (fun k => spec_l1Count.l0 k x (c : Int) (pre ++ post) ((pre ++ post).length : Int) (pre.length : Int)) ((c + post.count x : Nat) : Int) ∧ Ev (fun k => impl_count.l0 k x (c : Int) (pre ++ post) ((pre ++ post).length : Int) (pre.length : Int)) ((c + post.count x : Nat) : Int) := by
  induction post with
  | nil =>
    intro pre c hl hc
    constructor
    · refine Ev.succ ?_
      simp only [spec_l1Count.l0]
      exact Ev.neg (by simp) (Ev.eq (Ev.ret _) (by simp))
    · refine Ev.succ ?_
      simp only [impl_count.l0]
      exact Ev.neg (by simp) (Ev.eq (Ev.ret _) (by simp))
  | cons y post ih =>
    intro pre c hl hc
    have hl' := hl
    simp only [List.length_append, List.length_cons] at hl
    have e0 : wrap64 ((pre.length : Int) + 1) = (pre.length : Int) + 1 := w64 (by omega) (by omega)
    have e1 : wrap64 ((c : Int) + 1) = ((c + 1 : Nat) : Int) := by rw [w64 (by omega) (by omega)]; omega
    obtain ⟨i1, i2⟩ := ih (pre ++ [y]) (c + 1) (by simpa using hl') (by rw [List.length_append, List.length_singleton]; omega)
    obtain ⟨j1, j2⟩ := ih (pre ++ [y]) c (by simpa using hl') (by rw [List.length_append, List.length_singleton]; omega)
    have hp : (pre ++ [y]) ++ post = pre ++ y :: post := by simp
    have hn : ((pre ++ [y]).length : Int) = (pre.length : Int) + 1 := by simp
    rw [hp, hn] at i1 i2 j1 j2
    constructor
    · refine Ev.succ ?_
      simp only [spec_l1Count.l0]
      refine Ev.pos (by simp only [List.length_append, List.length_cons]; omega) (Ev.pos (by omega) (Ev.pos (by simp only [List.length_append, List.length_cons]; omega) ?_))
      rw [rd_mid, e0, e1]
      by_cases g : y = x
      · refine Ev.pos g (Ev.eq i1 ?_)
        rw [g, List.count_cons_self]; omega
      · refine Ev.neg g (Ev.eq j1 ?_)
        rw [List.count_cons_of_ne g]
    · refine Ev.succ ?_
      simp only [impl_count.l0]
      refine Ev.pos (by simp only [List.length_append, List.length_cons]; omega) (Ev.pos (by omega) (Ev.pos (by simp only [List.length_append, List.length_cons]; omega) ?_))
      rw [rd_mid, e0, e1]
      by_cases g : y = x
      · refine Ev.pos g (Ev.eq i2 ?_)
        rw [g, List.count_cons_self]; omega
      · refine Ev.neg g (Ev.eq j2 ?_)
        rw [List.count_cons_of_ne g]
theorem spec_l1Count_ev (l : List Int) (x : Int) (h : l.length ≤ 1000000) : Ev (fun k => spec_l1Count.f k l x) ((l.count x : Nat) : Int) := by
  simp only [spec_l1Count.f]
  simpa using (count_l0 x l [] 0 (by simpa using h) (by simp)).1
theorem impl_count_ev (l : List Int) (x : Int) (h : l.length ≤ 1000000) : Ev (fun k => impl_count.f k l x) ((l.count x : Nat) : Int) := by
  simp only [impl_count.f]
  simpa using (count_l0 x l [] 0 (by simpa using h) (by simp)).2
theorem put_l0 (v : Int) (post : List Int) : ∀ (pre : List Int), (pre ++ post).length ≤ 1000000 →
    ∃ r, Ev (fun k => spec_l1Put.l0 k (pre ++ post) v (pre.length : Int)) r ∧ (∀ y, y ∈ r ↔ y = v ∨ y ∈ pre ++ post) ∧ r.length ≤ (pre ++ post).length + 1 := by
  induction post with
  | nil =>
    intro pre hl
    simp only [List.length_append, List.length_nil] at hl
    refine ⟨([] ++ (pre ++ []).take ((pre.length : Int)).toNat ++ [v]) ++ (pre ++ []).drop ((pre.length : Int)).toNat, Ev.succ ?_, fun y => by simp [or_comm], by simp⟩
    simp only [spec_l1Put.l0]
    exact Ev.neg (by simp) (Ev.bnd1 rfl (Ev.pos (by omega) (Ev.pos (by simp) (Ev.bnd1 rfl (Ev.pos (by simp; omega) (Ev.bnd1 rfl (Ev.pos (by simp; omega) (Ev.bnd1 rfl (Ev.bnd1 rfl (Ev.pos (by simp; omega) (Ev.ret _)))))))))))
  | cons x post ih =>
    intro pre hl
    have hl' := hl
    simp only [List.length_append, List.length_cons] at hl
    have e0 : wrap64 ((pre.length : Int) + 1) = (pre.length : Int) + 1 := w64 (by omega) (by omega)
    by_cases g : x < v
    · obtain ⟨r, h1, h2, h3⟩ := ih (pre ++ [x]) (by simpa using hl')
      refine ⟨r, Ev.succ ?_, fun y => by rw [h2]; simp, by simpa using h3⟩
      simp only [spec_l1Put.l0]
      refine Ev.pos (by simp only [List.length_append, List.length_cons]; omega) (Ev.pos (by omega) ?_)
      rw [rd_mid, e0]
      exact Ev.pos g (by simpa using h1)
    · by_cases g2 : x = v
      · refine ⟨pre ++ x :: post, Ev.succ ?_, fun y => ⟨fun h => .inr h, fun h => ?_⟩, by omega⟩
        · simp only [spec_l1Put.l0]
          refine Ev.pos (by simp only [List.length_append, List.length_cons]; omega) (Ev.pos (by omega) ?_)
          rw [rd_mid]
          exact Ev.neg g (Ev.pos g2 (Ev.ret _))
        · rcases h with rfl | h
          · simp [g2]
          · exact h
      · refine ⟨([] ++ (pre ++ x :: post).take ((pre.length : Int)).toNat ++ [v]) ++ (pre ++ x :: post).drop ((pre.length : Int)).toNat, Ev.succ ?_, fun y => ?_, by simp; omega⟩
        · simp only [spec_l1Put.l0]
          refine Ev.pos (by simp only [List.length_append, List.length_cons]; omega) (Ev.pos (by omega) ?_)
          rw [rd_mid]
          exact Ev.neg g (Ev.neg g2 (Ev.bnd1 rfl (Ev.pos (by simp only [List.length_append, List.length_cons]; omega) (Ev.bnd1 rfl (Ev.pos (by simp; omega) (Ev.bnd1 rfl (Ev.pos (by simp; omega) (Ev.bnd1 rfl (Ev.bnd1 rfl (Ev.pos (by simp; omega) (Ev.ret _)))))))))))
        · simp only [Int.toNat_natCast, List.nil_append, List.take_left', List.drop_left', List.mem_append, List.mem_cons, List.not_mem_nil, or_false]
          constructor
          · rintro ((h | h) | h | h)
            · exact .inr (.inl h)
            · exact .inl h
            · exact .inr (.inr (.inl h))
            · exact .inr (.inr (.inr h))
          · rintro (h | h | h | h)
            · exact .inl (.inr h)
            · exact .inl (.inl h)
            · exact .inr (.inl h)
            · exact .inr (.inr h)
theorem vars_l0 (post : List Int) : ∀ (pre acc : List Int), (pre ++ post).length ≤ 100000 → acc.length ≤ pre.length → (∀ x ∈ post, -12 ≤ x) →
    ∃ vs, Ev (fun k => spec_l1Vars.l0 k acc (pre ++ post) ((pre ++ post).length : Int) (pre.length : Int)) vs ∧ (∀ v, v ∈ vs ↔ v ∈ acc ∨ (0 ≤ v ∧ -1 - v ∈ post)) ∧ vs.length ≤ (pre ++ post).length := by
  induction post with
  | nil =>
    intro pre acc hl ha hx
    refine ⟨acc, Ev.succ ?_, fun v => by simp, by simpa using ha⟩
    simp only [spec_l1Vars.l0]
    exact Ev.neg (by simp) (Ev.ret _)
  | cons x post ih =>
    intro pre acc hl ha hx
    have hl' := hl
    simp only [List.length_append, List.length_cons] at hl
    have hx0 := hx x (by simp)
    have e0 : wrap64 ((pre.length : Int) + 1) = (pre.length : Int) + 1 := w64 (by omega) (by omega)
    by_cases g : x < 0
    · obtain ⟨r, p1, p2, p3⟩ := put_l0 (-1 - x) acc [] (by simp only [List.nil_append]; omega)
      rw [List.nil_append] at p1 p2 p3
      obtain ⟨vs, h1, h2, h3⟩ := ih (pre ++ [x]) r (by simpa using hl') (by rw [List.length_append, List.length_singleton]; omega) (fun y hy => hx y (by simp [hy]))
      refine ⟨vs, Ev.succ ?_, fun v => ?_, by simpa using h3⟩
      · simp only [spec_l1Vars.l0]
        refine Ev.pos (by simp only [List.length_append, List.length_cons]; omega) (Ev.pos (by omega) (Ev.pos (by simp only [List.length_append, List.length_cons]; omega) ?_))
        rw [rd_mid, e0, w64 (x := (-1) - x) (by omega) (by omega)]
        refine Ev.pos g (Ev.bnd (a := r) ?_ (by simpa using h1))
        simp only [spec_l1Put.f]
        simpa using p1
      · rw [h2, p2, List.mem_cons]
        constructor
        · rintro ((h | h) | h)
          · exact .inr ⟨by omega, .inl (by omega)⟩
          · exact .inl h
          · exact .inr ⟨h.1, .inr h.2⟩
        · rintro (h | ⟨h0, h | h⟩)
          · exact .inl (.inr h)
          · exact .inl (.inl (by omega))
          · exact .inr ⟨h0, h⟩
    · obtain ⟨vs, h1, h2, h3⟩ := ih (pre ++ [x]) acc (by simpa using hl') (by rw [List.length_append, List.length_singleton]; omega) (fun y hy => hx y (by simp [hy]))
      refine ⟨vs, Ev.succ ?_, fun v => ?_, by simpa using h3⟩
      · simp only [spec_l1Vars.l0]
        refine Ev.pos (by simp only [List.length_append, List.length_cons]; omega) (Ev.pos (by omega) (Ev.pos (by simp only [List.length_append, List.length_cons]; omega) ?_))
        rw [rd_mid, e0]
        exact Ev.neg g (by simpa using h1)
      · rw [h2, List.mem_cons]
        constructor
        · rintro (h | h)
          · exact .inl h
          · exact .inr ⟨h.1, .inr h.2⟩
        · rintro (h | ⟨h0, h | h⟩)
          · exact .inl h
          · omega
          · exact .inr ⟨h0, h⟩
/-- The variables of a term. -/
theorem vars_ev (l : List Int) (hl : l.length ≤ 100000) (hx : ∀ x ∈ l, -12 ≤ x) : ∃ vs, Ev (fun k => spec_l1Vars.f k l) vs ∧ (∀ v, v ∈ vs ↔ (0 ≤ v ∧ -1 - v ∈ l)) ∧ vs.length ≤ l.length := by
  obtain ⟨vs, h1, h2, h3⟩ := vars_l0 l [] [] (by simpa using hl) (by simp) hx
  refine ⟨vs, ?_, fun v => by rw [h2]; simp, by simpa using h3⟩
  simp only [spec_l1Vars.f]
  simpa using h1
theorem has_l0 (x : Int) (post : List Int) : ∀ (pre : List Int), (pre ++ post).length ≤ 1000000 → Ev (fun k => spec_l1Has.l0 k x (pre ++ post) ((pre ++ post).length : Int) (pre.length : Int)) (decide (x ∈ post)) := by
  induction post with
  | nil =>
    intro pre hl
    refine Ev.succ ?_
    simp only [spec_l1Has.l0]
    exact Ev.neg (by simp) (Ev.eq (Ev.ret _) (by simp))
  | cons y post ih =>
    intro pre hl
    have h := ih (pre ++ [y]) (by simpa using hl)
    simp only [List.length_append, List.length_cons] at hl
    refine Ev.succ ?_
    simp only [spec_l1Has.l0]
    refine Ev.pos (by simp only [List.length_append, List.length_cons]; omega) (Ev.pos (by omega) (Ev.pos (by simp only [List.length_append, List.length_cons]; omega) ?_))
    rw [rd_mid, w64 (by omega) (by omega)]
    by_cases g : y = x
    · exact Ev.pos g (Ev.eq (Ev.ret _) (by simp [g]))
    · refine Ev.neg g (Ev.eq (by simpa using h) ?_)
      exact decide_eq_decide.2 ⟨fun q => List.mem_cons_of_mem _ q, fun q => (List.mem_cons.1 q).resolve_left (fun e => g e.symm)⟩
theorem spec_l1Has_ev (l : List Int) (x : Int) (hl : l.length ≤ 1000000) : Ev (fun k => spec_l1Has.f k l x) (decide (x ∈ l)) := by
  simp only [spec_l1Has.f]
  simpa using has_l0 x l [] (by simpa using hl)
theorem index_l0 (x : Int) (post : List Int) : ∀ (pre : List Int), (pre ++ post).length ≤ 1000000 → ∃ r, Ev (fun k => slices_Index_int_int.l0 k (pre ++ post) x ((pre ++ post).length : Int) (pre.length : Int)) r ∧ decide (r ≥ 0) = decide (x ∈ post) := by
  induction post with
  | nil =>
    intro pre hl
    refine ⟨-1, Ev.succ ?_, by simp⟩
    simp only [slices_Index_int_int.l0]
    exact Ev.neg (by simp) (Ev.ret _)
  | cons y post ih =>
    intro pre hl
    obtain ⟨r, h, e⟩ := ih (pre ++ [y]) (by simpa using hl)
    simp only [List.length_append, List.length_cons] at hl
    by_cases g : x = y
    · refine ⟨(pre.length : Int), Ev.succ ?_, by simp [g]⟩
      simp only [slices_Index_int_int.l0]
      refine Ev.pos (by simp only [List.length_append, List.length_cons]; omega) (Ev.pos (by omega) (Ev.pos (by simp only [List.length_append, List.length_cons]; omega) ?_))
      rw [rd_mid]
      exact Ev.pos g (Ev.ret _)
    · refine ⟨r, Ev.succ ?_, by rw [e]; simp [g]⟩
      simp only [slices_Index_int_int.l0]
      refine Ev.pos (by simp only [List.length_append, List.length_cons]; omega) (Ev.pos (by omega) (Ev.pos (by simp only [List.length_append, List.length_cons]; omega) ?_))
      rw [rd_mid, w64 (by omega) (by omega)]
      exact Ev.neg g (by simpa using h)
theorem contains_ev (l : List Int) (x : Int) (hl : l.length ≤ 1000000) : Ev (fun k => slices_Contains_int_int.f k l x) (decide (x ∈ l)) := by
  obtain ⟨r, h, e⟩ := index_l0 x l [] (by simpa using hl)
  simp only [slices_Contains_int_int.f, slices_Index_int_int.f]
  refine Ev.bnd (by simpa using h) (Ev.eq (Ev.ret _) e)
theorem spec_has_ev (part : List Int) (hp : part.length ≤ 1000000) (vs : List Int) (h : ∀ v ∈ vs, 0 ≤ v ∧ v ≤ 1000) : Ev (fun k => spec_l7By.has k part vs) (decide (∀ v ∈ vs, -1 - v ∈ part)) := by
  induction vs with
  | nil => simp only [spec_l7By.has]; exact Ev.eq (Ev.ret _) (by simp)
  | cons v vs ih =>
    have hv := h v (by simp)
    simp only [spec_l7By.has]
    refine Ev.pos (by omega) (Ev.bnd (spec_l1Has_ev part _ hp) ?_)
    by_cases g : -1 - v ∈ part
    · exact Ev.pos (decide_eq_true g) (Ev.eq (ih (fun y hy => h y (by simp [hy]))) (by simp [g]))
    · exact Ev.neg (by simp [g]) (Ev.eq (Ev.ret _) (by simp [g]))
theorem impl_has_ev (part : List Int) (hp : part.length ≤ 1000000) (out : List Int) : Ev (fun k => impl_Sign_rewrite.has k part out) (decide (∀ n ∈ out, n < 0 → n ∈ part)) := by
  induction out with
  | nil => simp only [impl_Sign_rewrite.has]; exact Ev.eq (Ev.ret _) (by simp)
  | cons n out ih =>
    simp only [impl_Sign_rewrite.has]
    by_cases g0 : n < 0
    · refine Ev.pos g0 (Ev.bnd (contains_ev part _ hp) ?_)
      by_cases g : n ∈ part
      · exact Ev.pos (decide_eq_true g) (Ev.eq ih (by simp [g]))
      · exact Ev.neg (by simp [g]) (Ev.eq (Ev.ret _) (by simp [g, g0]))
    · exact Ev.neg g0 (Ev.eq ih (by simp [g0]))
def covers (a b : List Int) : Prop := ∀ j : Nat, j < 12 → b.count (-1 - (j : Int)) ≤ a.count (-1 - (j : Int))
noncomputable instance (a b : List Int) : Decidable (covers a b) := Classical.propDecidable _
theorem weighs_l0 (a b : List Int) (ha : a.length ≤ 1000000) (hb : b.length ≤ 1000000) (post : List Int) : ∀ pre : List Int, (pre ++ post).length ≤ 1000000 → (∀ v ∈ post, 0 ≤ v ∧ v ≤ 1000) →
    Ev (fun k => spec_l3Weighs.l0 k a b (pre ++ post) ((pre ++ post).length : Int) (pre.length : Int)) (decide (∀ v ∈ post, b.count (-1 - v) ≤ a.count (-1 - v))) := by
  induction post with
  | nil =>
    intro pre hl hv
    refine Ev.succ ?_
    simp only [spec_l3Weighs.l0]
    exact Ev.neg (by simp) (Ev.eq (Ev.ret _) (by simp))
  | cons v post ih =>
    intro pre hl hv
    have h := ih (pre ++ [v]) (by simpa using hl) (fun y hy => hv y (by simp [hy]))
    have hv0 := hv v (by simp)
    simp only [List.length_append, List.length_cons] at hl
    refine Ev.succ ?_
    simp only [spec_l3Weighs.l0]
    refine Ev.pos (by simp only [List.length_append, List.length_cons]; omega) (Ev.pos (by omega) (Ev.pos (by simp only [List.length_append, List.length_cons]; omega) ?_))
    rw [rd_mid, w64 (x := (pre.length : Int) + 1) (by omega) (by omega), w64 (x := (-1) - v) (by omega) (by omega)]
    refine Ev.bnd (spec_l1Count_ev a _ ha) (Ev.bnd (spec_l1Count_ev b _ hb) ?_)
    by_cases g : b.count (-1 - v) ≤ a.count (-1 - v)
    · exact Ev.neg (by omega) (Ev.eq (by simpa using h) (by simp [g]))
    · exact Ev.pos (by omega) (Ev.eq (Ev.ret _) (by simp [g]))
theorem weighs_ev (a b : List Int) (ha : a.length ≤ 100000) (hb : b.length ≤ 100000) (hx : ∀ x ∈ b, -12 ≤ x) : Ev (fun k => spec_l3Weighs.f k a b) (decide (covers a b)) := by
  obtain ⟨vs, h1, h2, h3⟩ := vars_ev b hb hx
  simp only [spec_l3Weighs.f]
  have hv : ∀ v ∈ vs, 0 ≤ v ∧ v ≤ 1000 := fun v hv => by
    have := (h2 v).1 hv
    have := hx _ this.2
    omega
  refine Ev.bnd h1 (Ev.eq (by simpa using weighs_l0 a b (by omega) (by omega) vs [] (by simp only [List.nil_append]; omega) hv) ?_)
  rw [decide_eq_decide]
  constructor
  · intro h j hj
    by_cases g : -1 - (j : Int) ∈ b
    · exact h _ ((h2 _).2 ⟨by omega, g⟩)
    · rw [List.count_eq_zero_of_not_mem g]; omega
  · intro h v hv
    have q := (h2 v).1 hv
    have q2 := hx _ q.2
    have := h v.toNat (by omega)
    rwa [show ((v.toNat : Nat) : Int) = v by omega] at this
theorem coversVars_l0 (a b : List Int) (ha : a.length ≤ 1000000) (hb : b.length ≤ 1000000) (m : Nat) : ∀ i : Nat, i + m = 12 → ∃ r : Bool, Ev (fun k => impl_coversVars.l0 k a b (i : Int)) r ∧ (r = true ↔ ∀ j : Nat, j < 12 → i ≤ j → b.count (-1 - (j : Int)) ≤ a.count (-1 - (j : Int))) := by
  induction m with
  | zero =>
    intro i hi
    refine ⟨true, Ev.succ ?_, by simp; intro j h1 h2; omega⟩
    simp only [impl_coversVars.l0]
    exact Ev.neg (by omega) (Ev.ret _)
  | succ m ih =>
    intro i hi
    obtain ⟨r, h, e⟩ := ih (i + 1) (by omega)
    have pref : ∀ {r : Bool}, (Ev (fun k => if ((a.count (-1 - (i : Int)) : Nat) : Int) < ((b.count (-1 - (i : Int)) : Nat) : Int) then some false else impl_coversVars.l0 k a b ((i : Int) + 1)) r) → Ev (fun k => impl_coversVars.l0 k a b (i : Int)) r := by
      intro r h
      refine Ev.succ ?_
      simp only [impl_coversVars.l0]
      rw [w64 (x := (i : Int) + 1) (by omega) (by omega), w64 (x := (-1) - (i : Int)) (by omega) (by omega)]
      exact Ev.pos (by omega) (Ev.bnd (impl_count_ev a _ ha) (Ev.bnd (impl_count_ev b _ hb) h))
    by_cases g : b.count (-1 - (i : Int)) ≤ a.count (-1 - (i : Int))
    · refine ⟨r, pref (Ev.neg (by omega) (by simpa using h)), ?_⟩
      rw [e]
      constructor
      · intro q j h1 h2
        by_cases e : j = i
        · rw [e]; exact g
        · exact q j h1 (by omega)
      · intro q j h1 h2
        exact q j h1 (by omega)
    · exact ⟨false, pref (Ev.pos (by omega) (Ev.ret _)), by simp only [Bool.false_eq_true, false_iff]; exact fun q => g (q i (by omega) (by omega))⟩
theorem coversVars_ev (a b : List Int) (ha : a.length ≤ 1000000) (hb : b.length ≤ 1000000) : Ev (fun k => impl_coversVars.f k a b) (decide (covers a b)) := by
  simp only [impl_coversVars.f]
  obtain ⟨r, h, e⟩ := coversVars_l0 a b ha hb 12 0 rfl
  refine Ev.eq (by simpa using h) ?_
  have : r = true ↔ covers a b := by
    rw [e]
    unfold covers
    exact ⟨fun h j hj => h j hj (Nat.zero_le _), fun h j hj _ => h j hj⟩
  by_cases g : covers a b
  · rw [decide_eq_true g]; exact this.2 g
  · rw [decide_eq_false g]; exact Bool.eq_false_iff.2 (fun q => g (this.1 q))
/-- Which of two rows of one length is the greater: at the first number that differs. -/
def cmp : List Int → List Int → Bool
  | x :: a, y :: b => if x = y then cmp a b else decide (0 ≤ x ∧ 0 ≤ y ∧ y < x)
  | _, _ => false
theorem cmp_l0 (post : List Int) : ∀ (pre pre2 post2 : List Int), post2.length = post.length → pre2.length = pre.length → (pre ++ post).length ≤ 1000000 →
    Ev (fun k => spec_l3Greater.l0 k (pre ++ post) (pre2 ++ post2) ((pre ++ post).length : Int) (pre.length : Int)) (cmp post post2) ∧ Ev (fun k => impl_isGreater.l0 k (pre2 ++ post2) (pre ++ post) ((pre ++ post).length : Int) (pre.length : Int)) (cmp post post2) := by
  induction post with
  | nil =>
    intro pre pre2 post2 h2 hp hl
    have e2 : post2 = [] := List.eq_nil_of_length_eq_zero h2
    subst e2
    constructor
    · refine Ev.succ ?_
      simp only [spec_l3Greater.l0]
      exact Ev.neg (by simp) (Ev.eq (Ev.ret _) rfl)
    · refine Ev.succ ?_
      simp only [impl_isGreater.l0]
      exact Ev.neg (by simp) (Ev.eq (Ev.ret _) rfl)
  | cons x post ih =>
    intro pre pre2 post2 h2 hp hl
    obtain ⟨y, post2, rfl⟩ : ∃ y t, post2 = y :: t := by cases post2 with | nil => simp at h2 | cons y t => exact ⟨y, t, rfl⟩
    obtain ⟨i1, i2⟩ := ih (pre ++ [x]) (pre2 ++ [y]) post2 (by simpa using h2) (by simpa using hp) (by simpa using hl)
    simp only [List.length_append, List.length_cons] at hl
    have e0 : wrap64 ((pre.length : Int) + 1) = (pre.length : Int) + 1 := w64 (by omega) (by omega)
    have ey : rd (pre2 ++ y :: post2) (pre.length : Int) = y := by rw [← hp]; exact rd_mid _ _ _
    have hp1 : (pre ++ [x]) ++ post = pre ++ x :: post := by simp
    have hp2 : (pre2 ++ [y]) ++ post2 = pre2 ++ y :: post2 := by simp
    have hn : ((pre ++ [x]).length : Int) = (pre.length : Int) + 1 := by simp
    rw [hp1, hp2, hn] at i1 i2
    have fin : ∀ g : ¬ x = y, Ev (fun _ => if x ≥ 0 then (if y ≥ 0 then some (decide (x > y)) else some false) else some false) (decide (0 ≤ x ∧ 0 ≤ y ∧ y < x)) := by
      intro g
      by_cases g1 : x ≥ 0
      · by_cases g2 : y ≥ 0
        · refine Ev.pos g1 (Ev.pos g2 (Ev.eq (Ev.ret _) ?_))
          rw [decide_eq_decide]; omega
        · exact Ev.pos g1 (Ev.neg g2 (Ev.eq (Ev.ret _) (decide_eq_false (fun q => g2 q.2.1)).symm))
      · exact Ev.neg g1 (Ev.eq (Ev.ret _) (decide_eq_false (fun q => g1 q.1)).symm)
    constructor
    · refine Ev.succ ?_
      simp only [spec_l3Greater.l0]
      refine Ev.pos (by simp only [List.length_append, List.length_cons]; omega) (Ev.pos (by omega) (Ev.pos (by simp only [List.length_append, List.length_cons]; omega) (Ev.pos (by simp only [List.length_append, List.length_cons] at h2 ⊢; omega) ?_)))
      rw [rd_mid, ey, e0]
      simp only [cmp]
      by_cases g : x = y
      · rw [if_pos g]; exact Ev.pos g i1
      · rw [if_neg g]; exact Ev.neg g (fin g)
    · refine Ev.succ ?_
      simp only [impl_isGreater.l0]
      refine Ev.pos (by simp only [List.length_append, List.length_cons]; omega) (Ev.pos (by omega) (Ev.pos (by simp only [List.length_append, List.length_cons]; omega) (Ev.pos (by simp only [List.length_append, List.length_cons] at h2 ⊢; omega) ?_)))
      rw [rd_mid, ey, e0]
      simp only [cmp]
      by_cases g : x = y
      · rw [if_pos g]; exact Ev.pos g i2
      · rw [if_neg g]; exact Ev.neg g (fin g)
noncomputable def gt (a b : List Int) : Bool := decide (covers a b) && (decide (b.length < a.length) || (decide (a.length = b.length) && cmp a b))
theorem spec_l3Greater_ev (a b : List Int) (ha : a.length ≤ 100000) (hb : b.length ≤ 100000) (hx : ∀ x ∈ b, -12 ≤ x) : Ev (fun k => spec_l3Greater.f k a b) (gt a b) := by
  simp only [spec_l3Greater.f]
  refine Ev.bnd (weighs_ev a b ha hb hx) ?_
  by_cases g : covers a b
  · refine Ev.pos (decide_eq_true g) (Ev.succ ?_)
    simp only [spec_l3Greater.j0, gt]
    rw [decide_eq_true g, Bool.true_and]
    by_cases g1 : a.length < b.length
    · refine Ev.pos (decide_eq_true (by omega)) (Ev.eq (Ev.ret _) ?_)
      rw [decide_eq_false (by omega), decide_eq_false (by omega)]; rfl
    · refine Ev.neg (by rw [decide_eq_false (by omega)]; simp) ?_
      by_cases g2 : b.length < a.length
      · exact Ev.pos (by omega) (Ev.eq (Ev.ret _) (by rw [decide_eq_true g2]; rfl))
      · refine Ev.neg (by omega) (Ev.eq (by simpa using (cmp_l0 a [] [] b (by omega) rfl (by simp only [List.nil_append]; omega)).1) ?_)
        rw [decide_eq_false g2, decide_eq_true (by omega)]; rfl
  · refine Ev.neg (by rw [decide_eq_false g]; simp) (Ev.succ ?_)
    simp only [spec_l3Greater.j0, gt]
    exact Ev.pos trivial (Ev.eq (Ev.ret _) (by rw [decide_eq_false g]; rfl))
theorem impl_isGreater_ev (a b : List Int) (ha : a.length ≤ 100000) (hb : b.length ≤ 100000) : Ev (fun k => impl_isGreater.f k a b) (gt a b) := by
  simp only [impl_isGreater.f]
  by_cases g1 : a.length < b.length
  · refine Ev.pos (by omega) (Ev.succ ?_)
    simp only [impl_isGreater.j0, gt]
    refine Ev.pos trivial (Ev.eq (Ev.ret _) ?_)
    rw [decide_eq_false (p := b.length < a.length) (by omega), decide_eq_false (p := a.length = b.length) (by omega)]
    simp
  · refine Ev.neg (by omega) (Ev.bnd (coversVars_ev a b (by omega) (by omega)) (Ev.succ ?_))
    simp only [impl_isGreater.j0, gt]
    by_cases g : covers a b
    · rw [decide_eq_true g, Bool.true_and]
      refine Ev.neg (by simp) ?_
      by_cases g2 : b.length < a.length
      · exact Ev.pos (by omega) (Ev.eq (Ev.ret _) (by rw [decide_eq_true g2]; rfl))
      · refine Ev.neg (by omega) (Ev.eq (by simpa using (cmp_l0 a [] [] b (by omega) rfl (by simp only [List.nil_append]; omega)).2) ?_)
        rw [decide_eq_false g2, decide_eq_true (by omega)]; rfl
    · rw [decide_eq_false g]
      exact Ev.pos rfl (Ev.eq (Ev.ret _) rfl)

/-! Literals over a signature. -/
def isLit (s : List Int) (x : S65) : Bool := isTerm s x.f1 && isTerm s x.f2
theorem spec_l4Lit_ev (s : List Int) (hs : goodSign s = true) (x : S65) : Ev (fun k => spec_l4Lit.f k s x.f0 x.f1 x.f2) (isLit s x) := by
  simp only [spec_l4Lit.f]
  refine Ev.bnd (spec_l1Term_ev s hs x.f1) ?_
  unfold isLit
  cases isTerm s x.f1 with
  | true => exact Ev.pos rfl (Ev.bnd (spec_l1Term_ev s hs x.f2) (Ev.eq (Ev.ret _) rfl))
  | false => exact Ev.neg (by simp) (Ev.ret _)
theorem impl_isLit_ev (s : List Int) (hs : goodSign s = true) (x : S65) : Ev (fun k => impl_Sign_isLit.f k s x.f0 x.f1 x.f2) (isLit s x) := by
  simp only [impl_Sign_isLit.f]
  refine Ev.bnd (impl_isTerm_ev s hs x.f1) ?_
  unfold isLit
  cases isTerm s x.f1 with
  | true => exact Ev.pos rfl (Ev.bnd (impl_isTerm_ev s hs x.f2) (Ev.eq (Ev.ret _) rfl))
  | false => exact Ev.neg (by simp) (Ev.ret _)
/-- A search through a row whose word takes rounds. -/
theorem anyO_ev {α : Type} (f : Nat → α → Option Bool) (p : α → Bool) (l : List α) (h : ∀ x ∈ l, Ev (fun k => f k x) (!p x)) : Ev (fun k => anyO (fun x => f k x) l) (!l.all p) := by
  induction l with
  | nil => exact Ev.ret _
  | cons x t ih =>
    simp only [anyO]
    refine Ev.bnd (h x (by simp)) ?_
    cases hp : p x with
    | true => exact Ev.neg (by simp) (Ev.eq (ih (fun y hy => h y (by simp [hy]))) (by simp [hp]))
    | false => exact Ev.pos rfl (Ev.eq (Ev.ret _) (by simp [hp]))

/-! Literals and clauses over a signature. -/
def isClause (s : List Int) (l : List S65) : Bool := decide (l.length ≤ 8) && l.all (isLit s)
theorem spec_l1End_tot (s : List Int) (hsl : s.length ≤ 1048576) (l : List Int) : ∀ (pre : List Int) (n : Int), (pre ++ l).length ≤ 1000000000 → ∃ r, Ev (fun k => spec_l1End.l0 k (pre ++ l) (pre.length : Int) n s) r := by
  induction l with
  | nil =>
    intro pre n hl
    by_cases g : n > 0
    · refine ⟨-1, Ev.succ ?_⟩
      simp only [spec_l1End.l0]
      refine Ev.pos g (Ev.pos (by simp) (Ev.succ ?_))
      simp only [spec_l1End.j1]
      exact Ev.pos trivial (Ev.ret _)
    · refine ⟨(pre.length : Int), Ev.succ ?_⟩
      simp only [spec_l1End.l0]
      exact Ev.neg g (Ev.ret _)
  | cons x l ih =>
    intro pre n hl
    have hl' := hl
    simp only [List.length_append, List.length_cons] at hl
    by_cases g : n > 0
    · by_cases g1 : -12 ≤ x ∧ x ≤ (s.length : Int) - 1
      · by_cases g2 : x ≥ 0
        · obtain ⟨r, hr⟩ := ih (pre ++ [x]) (wrap64 (wrap64 (n - 1) + rd s x)) (by simpa using hl')
          refine ⟨r, Ev.succ ?_⟩
          simp only [spec_l1End.l0]
          refine Ev.pos g (Ev.neg (by simp only [List.length_append, List.length_cons]; omega) (Ev.pos (by omega) (Ev.pos (by simp only [List.length_append, List.length_cons]; omega) ?_)))
          rw [rd_mid, w64 (x := (s.length : Int) - 1) (by omega) (by omega)]
          refine Ev.bnd1 (spec_in_eq _ _ _) (Ev.succ ?_)
          simp only [spec_l1End.j1]
          refine Ev.neg (by rw [decide_eq_true g1]; simp) (Ev.pos (by omega) (Ev.pos (by simp only [List.length_append, List.length_cons]; omega) ?_))
          rw [rd_mid, w64 (x := (pre.length : Int) + 1) (by omega) (by omega)]
          exact Ev.pos g2 (Ev.pos g2 (Ev.pos (by omega) (by simpa using hr)))
        · obtain ⟨r, hr⟩ := ih (pre ++ [x]) (wrap64 (n - 1)) (by simpa using hl')
          refine ⟨r, Ev.succ ?_⟩
          simp only [spec_l1End.l0]
          refine Ev.pos g (Ev.neg (by simp only [List.length_append, List.length_cons]; omega) (Ev.pos (by omega) (Ev.pos (by simp only [List.length_append, List.length_cons]; omega) ?_)))
          rw [rd_mid, w64 (x := (s.length : Int) - 1) (by omega) (by omega)]
          refine Ev.bnd1 (spec_in_eq _ _ _) (Ev.succ ?_)
          simp only [spec_l1End.j1]
          refine Ev.neg (by rw [decide_eq_true g1]; simp) (Ev.pos (by omega) (Ev.pos (by simp only [List.length_append, List.length_cons]; omega) ?_))
          rw [rd_mid, w64 (x := (pre.length : Int) + 1) (by omega) (by omega)]
          exact Ev.neg g2 (by simpa using hr)
      · refine ⟨-1, Ev.succ ?_⟩
        simp only [spec_l1End.l0]
        refine Ev.pos g (Ev.neg (by simp only [List.length_append, List.length_cons]; omega) (Ev.pos (by omega) (Ev.pos (by simp only [List.length_append, List.length_cons]; omega) ?_)))
        rw [rd_mid, w64 (x := (s.length : Int) - 1) (by omega) (by omega)]
        refine Ev.bnd1 (spec_in_eq _ _ _) (Ev.succ ?_)
        simp only [spec_l1End.j1]
        exact Ev.pos (by rw [decide_eq_false g1]; rfl) (Ev.ret _)
    · refine ⟨(pre.length : Int), Ev.succ ?_⟩
      simp only [spec_l1End.l0]
      exact Ev.neg g (Ev.ret _)
/-- The reference's word about a term over any row of numbers: it is the word about terms where the row is a signature. -/
theorem spec_l1Term_tot (s : List Int) (hsl : s.length ≤ 1048576) (l : List Int) : ∃ b, Ev (fun k => spec_l1Term.f k s l) b ∧ (goodSign s = true → b = isTerm s l) := by
  by_cases hs : goodSign s = true
  · exact ⟨_, spec_l1Term_ev s hs l, fun _ => rfl⟩
  · simp only [spec_l1Term.f]
    by_cases g : (1 : Int) ≤ (l.length : Int) ∧ (l.length : Int) ≤ 40
    · obtain ⟨r, h⟩ := spec_l1End_tot s hsl l [] 1 (by simp only [List.nil_append]; omega)
      refine ⟨_, Ev.bnd1 (spec_in_eq _ _ _) (Ev.pos (decide_eq_true g) (Ev.bnd (a := r) ?_ (Ev.ret _))), fun h => absurd h hs⟩
      simp only [spec_l1End.f]
      simpa using h
    · exact ⟨_, Ev.bnd1 (spec_in_eq _ _ _) (Ev.neg (by rw [decide_eq_false g]; simp) (Ev.ret _)), fun h => absurd h hs⟩
theorem spec_l4Lit_tot (s : List Int) (hsl : s.length ≤ 1048576) (x : S65) : ∃ b, Ev (fun k => spec_l4Lit.f k s x.f0 x.f1 x.f2) b ∧ (goodSign s = true → b = isLit s x) := by
  obtain ⟨b1, h1, e1⟩ := spec_l1Term_tot s hsl x.f1
  obtain ⟨b2, h2, e2⟩ := spec_l1Term_tot s hsl x.f2
  simp only [spec_l4Lit.f]
  cases b1 with
  | true => exact ⟨b2, Ev.bnd h1 (Ev.pos rfl (Ev.bnd h2 (Ev.ret _))), fun h => by unfold isLit; rw [← e1 h, ← e2 h]; rfl⟩
  | false => exact ⟨false, Ev.bnd h1 (Ev.neg (by simp) (Ev.ret _)), fun h => by unfold isLit; rw [← e1 h]; rfl⟩
theorem spec_l4Clause_l0 (s : List Int) (hsl : s.length ≤ 1048576) (x1 : List S65) (post : List S65) : ∀ pre : List S65, (pre ++ post).length ≤ 1048576 →
    ∃ b, Ev (fun k => spec_l4Clause.l0 k x1 (pre ++ post) ((pre ++ post).length : Int) (pre.length : Int) s) b ∧ (goodSign s = true → b = (post.all (isLit s) && decide (x1.length ≤ 8))) := by
  induction post with
  | nil =>
    intro pre hl
    refine ⟨decide ((x1.length : Int) ≤ 8), Ev.succ ?_, fun _ => ?_⟩
    · simp only [spec_l4Clause.l0]
      exact Ev.neg (by simp) (Ev.ret _)
    · rw [List.all_nil, Bool.true_and]; congr 1; simp only [eq_iff_iff]; omega
  | cons x post ih =>
    intro pre hl
    have hl' := hl
    simp only [List.length_append, List.length_cons] at hl
    obtain ⟨b1, h1, e1⟩ := spec_l4Lit_tot s hsl x
    have pref : ∀ {g : Nat → Option Bool} {r : Bool}, Ev (fun k => (spec_l4Lit.f k s x.f0 x.f1 x.f2).bind fun t => if t = true then g k else some false) r → Ev (fun k => if (pre.length : Int) < ((pre ++ x :: post).length : Int) then (if 0 ≤ (pre.length : Int) then (if (pre.length : Int) < ((pre ++ x :: post).length : Int) then ((spec_l4Lit.f k s ((rd_T65 (pre ++ x :: post) (pre.length : Int)).f0) ((rd_T65 (pre ++ x :: post) (pre.length : Int)).f1) ((rd_T65 (pre ++ x :: post) (pre.length : Int)).f2)).bind fun t => if t = true then g k else some false) else none) else none) else some (decide ((x1.length : Int) ≤ 8))) r := by
      intro g r h
      refine Ev.pos (by simp only [List.length_append, List.length_cons]; omega) (Ev.pos (by omega) (Ev.pos (by simp only [List.length_append, List.length_cons]; omega) ?_))
      rw [rdLB_mid]
      exact h
    cases b1 with
    | true =>
      obtain ⟨b2, h2, e2⟩ := ih (pre ++ [x]) (by simpa using hl')
      refine ⟨b2, Ev.succ ?_, fun h => by rw [e2 h, List.all_cons, ← e1 h, Bool.true_and]⟩
      simp only [spec_l4Clause.l0]
      rw [w64 (x := (pre.length : Int) + 1) (by omega) (by omega)]
      exact pref (Ev.bnd h1 (Ev.pos rfl (by simpa using h2)))
    | false =>
      refine ⟨false, Ev.succ ?_, fun h => by rw [List.all_cons, ← e1 h, Bool.false_and, Bool.false_and]⟩
      simp only [spec_l4Clause.l0]
      exact pref (Ev.bnd h1 (Ev.neg (by simp) (Ev.ret _)))
theorem spec_l4Clause_tot (s : List Int) (hsl : s.length ≤ 1048576) (l : List S65) (hl : l.length ≤ 1048576) : ∃ b, Ev (fun k => spec_l4Clause.f k s l) b ∧ (goodSign s = true → b = isClause s l) := by
  obtain ⟨b, h, e⟩ := spec_l4Clause_l0 s hsl l l [] (by simpa using hl)
  simp only [spec_l4Clause.f]
  exact ⟨b, by simpa using h, fun hs => by rw [e hs, isClause, Bool.and_comm]⟩
theorem impl_isClause_ev (s : List Int) (hs : goodSign s = true) (l : List S65) : Ev (fun k => impl_Sign_isClause.f k s l) (isClause s l) := by
  simp only [impl_Sign_isClause.f, isClause]
  by_cases g : l.length ≤ 8
  · refine Ev.pos (by omega) (Ev.bnd (a := !l.all (isLit s)) ?_ (Ev.eq (Ev.ret _) ?_))
    · simp only [impl_Sign_isClause_1_any.f]
      refine anyO_ev _ _ _ (fun x _ => ?_)
      simp only [impl_Sign_isClause_1.f]
      exact Ev.bnd (impl_isLit_ev s hs x) (Ev.ret _)
    · rw [decide_eq_true g, Bool.not_not, Bool.true_and]
  · exact Ev.neg (by omega) (Ev.eq (Ev.ret _) (by rw [decide_eq_false g, Bool.false_and]))

/-! Good clauses. -/
def goodClause (s : List Int) (c : List S65) : Bool := goodSign s && isClause s c
theorem spec_GoodClause_ev (s : List Int) (hs : s.length ≤ 1048576) (c : List S65) (hc : c.length ≤ 1048576) : Ev (fun k => spec_GoodClause.f k s c) (goodClause s c) := by
  obtain ⟨b, h, e⟩ := spec_l4Clause_tot s hs c hc
  simp only [spec_GoodClause.f, goodClause]
  refine Ev.bnd (spec_GoodSign_ev s (by omega)) ?_
  by_cases g : goodSign s = true
  · refine Ev.pos g (Ev.bnd h (Ev.eq (Ev.ret _) ?_))
    rw [e g, g, Bool.true_and]
  · exact Ev.neg g (Ev.eq (Ev.ret _) (by rw [Bool.eq_false_iff.2 g, Bool.false_and]))
theorem impl_GoodClause_ev (s : List Int) (c : List S65) : Ev (fun k => impl_GoodClause.f k s c) (goodClause s c) := by
  simp only [impl_GoodClause.f, goodClause]
  refine Ev.bnd1 (impl_GoodSign_eq s) ?_
  by_cases g : goodSign s = true
  · refine Ev.pos g (Ev.bnd (impl_isClause_ev s g c) (Ev.eq (Ev.ret _) ?_))
    rw [g, Bool.true_and]
  · exact Ev.neg g (Ev.eq (Ev.ret _) (by rw [Bool.eq_false_iff.2 g, Bool.false_and]))

/-! What good terms, literals and clauses are. -/
theorem isTerm_of {s l : List Int} (h : isTerm s l = true) : l.length ≤ 40 ∧ eat s l 1 = some [] := by
  unfold isTerm at h
  simp only [Bool.and_eq_true, decide_eq_true_eq, beq_iff_eq] at h
  exact ⟨h.1.2, h.2⟩
theorem isLit_of {s : List Int} {x : S65} (h : isLit s x = true) : isTerm s x.f1 = true ∧ isTerm s x.f2 = true := by
  unfold isLit at h
  rwa [Bool.and_eq_true] at h
theorem isClause_of {s : List Int} {c : List S65} (h : isClause s c = true) : c.length ≤ 8 ∧ ∀ x ∈ c, isLit s x = true := by
  unfold isClause at h
  rw [Bool.and_eq_true, decide_eq_true_eq, List.all_eq_true] at h
  exact h

/-! One step of rewriting. -/
def isUnitL (s : List Int) (x : S65) : Bool := isLit s x && x.f0
def areUnits (s : List Int) (l : List S65) : Bool := decide (l.length ≤ 10) && l.all (isUnitL s)
theorem spec_l7Units_l0 (s : List Int) (hs : goodSign s = true) (x1 : List S65) (post : List S65) : ∀ pre : List S65, (pre ++ post).length ≤ 1048576 →
    Ev (fun k => spec_l7Units.l0 k x1 (pre ++ post) ((pre ++ post).length : Int) (pre.length : Int) s) (decide (x1.length ≤ 10) && post.all (isUnitL s)) := by
  have hsl := goodSign_len hs
  induction post with
  | nil =>
    intro pre hl
    refine Ev.succ ?_
    simp only [spec_l7Units.l0]
    have h := spec_GoodSign_ev s (by omega)
    rw [hs] at h
    refine Ev.neg (by simp) (Ev.bnd h (Ev.pos rfl (Ev.eq (Ev.ret _) ?_)))
    rw [List.all_nil, Bool.and_true, decide_eq_decide]; omega
  | cons x post ih =>
    intro pre hl
    have h := ih (pre ++ [x]) (by simpa using hl)
    simp only [List.length_append, List.length_cons] at hl
    refine Ev.succ ?_
    simp only [spec_l7Units.l0]
    refine Ev.pos (by simp only [List.length_append, List.length_cons]; omega) (Ev.pos (by omega) (Ev.pos (by simp only [List.length_append, List.length_cons]; omega) ?_))
    rw [rdLB_mid, w64 (x := (pre.length : Int) + 1) (by omega) (by omega)]
    refine Ev.bnd (spec_l4Lit_ev s hs x) ?_
    rw [List.all_cons, isUnitL]
    cases isLit s x with
    | false => exact Ev.neg (by simp) (Ev.eq (Ev.ret _) (by simp))
    | true =>
      refine Ev.pos rfl ?_
      cases hf : x.f0 with
      | false => exact Ev.neg (by simp) (Ev.eq (Ev.ret _) (by simp))
      | true => exact Ev.pos rfl (by simpa using h)
theorem spec_l7Units_ev (s : List Int) (hs : goodSign s = true) (l : List S65) (hl : l.length ≤ 1048576) : Ev (fun k => spec_l7Units.f k s l) (areUnits s l) := by
  simp only [spec_l7Units.f, areUnits]
  simpa using spec_l7Units_l0 s hs l l [] (by simpa using hl)
theorem impl_areUnits_ev (s : List Int) (hs : goodSign s = true) (l : List S65) : Ev (fun k => impl_Sign_areUnits.f k s l) (areUnits s l) := by
  simp only [impl_Sign_areUnits.f, areUnits]
  by_cases g : l.length ≤ 10
  · refine Ev.pos (by omega) (Ev.bnd (a := !l.all (isUnitL s)) ?_ (Ev.eq (Ev.ret _) ?_))
    · simp only [impl_Sign_areUnits_1_any.f]
      refine anyO_ev _ _ _ (fun x _ => ?_)
      simp only [impl_Sign_areUnits_1.f, isUnitL]
      cases hf : x.f0 with
      | false => exact Ev.neg (by simp) (Ev.eq (Ev.ret _) (by simp))
      | true =>
        have h := impl_isLit_ev s hs x
        rw [hf] at h
        exact Ev.pos rfl (Ev.bnd h (Ev.eq (Ev.ret _) (by simp)))
    · rw [decide_eq_true g, Bool.not_not, Bool.true_and]
  · exact Ev.neg (by omega) (Ev.eq (Ev.ret _) (by rw [decide_eq_false g, Bool.false_and]))
theorem isTerm_mk {s l : List Int} (h : l.length ≤ 40) (h2 : eat s l 1 = some []) : isTerm s l = true := by
  unfold isTerm
  simp only [Bool.and_eq_true, decide_eq_true_eq, beq_iff_eq]
  refine ⟨⟨?_, h⟩, h2⟩
  cases l with
  | nil => simp [eat] at h2
  | cons x l => simp
/-- A part rewritten by one side of a unit. -/
noncomputable def byT (s part p tt : List Int) : Option (List Int) := match mtch s p part (List.replicate 12 []) with
  | none => none
  | some b => if (∀ n ∈ app b tt, n < 0 → n ∈ part) ∧ gt part (app b tt) = true then some (app b tt) else none
def pick (y : List Int × Bool) : Option (List Int) := if y.2 = true then some y.1 else none
theorem okB_start (s : List Int) (N : Nat) : okB s N (List.replicate 12 []) := by
  refine ⟨by simp, fun x hx => ?_⟩
  have := List.eq_of_mem_replicate hx
  subst this
  simp
theorem app_len (s : List Int) (b : List (List Int)) (N : Nat) (hb : okB s N b) (l : List Int) : (app b l).length ≤ (N + 1) * l.length := by
  induction l with
  | nil => simp [app]
  | cons n t ih =>
    simp only [app, List.length_append, List.length_cons]
    have : (if n < 0 then sub b (-1 - n).toNat else [n]).length ≤ N + 1 := by
      by_cases g : n < 0
      · rw [if_pos g]
        unfold sub
        by_cases g2 : b.getD (-1 - n).toNat [] = []
        · rw [if_pos g2]; simp
        · rw [if_neg g2]; have := (okB_get hb (-1 - n).toNat).1; omega
      · rw [if_neg g]; simp
    rw [Nat.mul_add]; omega
theorem tok_low {s : List Int} {x : Int} (h : tok s x = true) : -12 ≤ x := by
  unfold tok at h
  simp only [decide_eq_true_eq] at h
  exact h.1
theorem by_ev (s : List Int) (hs : goodSign s = true) (part p tt : List Int) (h1 : isTerm s part = true) (h2 : isTerm s p = true) (h3 : isTerm s tt = true) :
    ∃ y z, Ev (fun k => spec_l7By.f k s part p tt) y ∧ Ev (fun k => impl_Sign_rewrite.f k s part p tt) z ∧ pick y = byT s part p tt ∧ pick z = byT s part p tt := by
  obtain ⟨l1, e1⟩ := isTerm_of h1
  obtain ⟨l2, e2⟩ := isTerm_of h2
  obtain ⟨l3, e3⟩ := isTerm_of h3
  have hm := spec_match_ev s hs p [] part (List.replicate 12 []) 1 40 (by omega) e2 e1 (by simpa using l1) (okB_start s 40)
  have hi := impl_match_ev s hs p [] part (List.replicate 12 []) 1 40 (by omega) e2 e1 (by simpa using l1) (okB_start s 40)
  simp only [List.nil_append, List.length_nil] at hm hi
  unfold byT
  cases e : mtch s p part (List.replicate 12 []) with
  | none =>
    rw [e] at hm hi
    refine ⟨([], false), ([], false), ?_, ?_, rfl, rfl⟩
    · simp only [spec_l7By.f]
      exact Ev.pos (by omega) (Ev.bnd hm (Ev.neg (by simp [mout]) (Ev.ret _)))
    · simp only [impl_Sign_rewrite.f]
      exact Ev.pos (by omega) (Ev.bnd hi (Ev.neg (by simp [mout]) (Ev.ret _)))
  | some b =>
    rw [e] at hm hi
    have hb := mtch_ok s p part _ 1 40 b e2 e1 l1 (okB_start s 40) e
    have htt : ∀ x ∈ tt, -12 ≤ x := fun x hx => tok_low (eat_tok s tt 1 e3 x hx)
    have hout := app_eat s b 40 hb tt 1 e3
    have hlo : ∀ x ∈ app b tt, -12 ≤ x := fun x hx => tok_low (eat_tok s _ 1 hout x hx)
    have hln := app_len s b 40 hb tt
    have hln2 : (app b tt).length ≤ 2000 := Nat.le_trans hln (Nat.le_trans (Nat.mul_le_mul_left _ l3) (by omega))
    obtain ⟨vs, v1, v2, v3⟩ := vars_ev (app b tt) (by omega) hlo
    have hv : ∀ v ∈ vs, 0 ≤ v ∧ v ≤ 1000 := fun v hv => by
      have q := (v2 v).1 hv
      have := hlo _ q.2
      omega
    have hq : decide (∀ v ∈ vs, -1 - v ∈ part) = decide (∀ n ∈ app b tt, n < 0 → n ∈ part) := by
      rw [decide_eq_decide]
      constructor
      · intro h n hn h0
        have := h (-1 - n) ((v2 _).2 ⟨by omega, by rwa [show -1 - (-1 - n) = n by omega]⟩)
        rwa [show -1 - (-1 - n) = n by omega] at this
      · intro h v hv
        have q := (v2 v).1 hv
        exact h _ q.2 (by omega)
    obtain ⟨b', b1, b2, b3, b4⟩ := bare_eq 12 0 b (by omega)
    have hb' := b4 40 s hb
    have hap := impl_apply_ev s b' 40 (by omega) hb' tt (by omega) htt
    rw [app_congr b3] at hap
    refine ⟨if (∀ n ∈ app b tt, n < 0 → n ∈ part) then (app b tt, gt part (app b tt)) else ([], false), if (∀ n ∈ app b tt, n < 0 → n ∈ part) ∧ gt part (app b tt) = true then (app b tt, true) else ([], false), ?_, ?_, ?_, ?_⟩
    · simp only [spec_l7By.f]
      have hh := spec_has_ev part (by omega) vs hv
      rw [hq] at hh
      refine Ev.pos (by omega) (Ev.bnd hm (Ev.pos rfl (Ev.bnd (spec_apply_ev s b 40 (by omega) hb tt (by omega) htt) (Ev.bnd v1 (Ev.bnd hh ?_)))))
      by_cases q : ∀ n ∈ app b tt, n < 0 → n ∈ part
      · rw [if_pos q]
        exact Ev.pos (decide_eq_true q) (Ev.bnd (spec_l3Greater_ev part _ (by omega) (by omega) hlo) (Ev.ret _))
      · rw [if_neg q]
        exact Ev.neg (by rw [decide_eq_false q]; simp) (Ev.ret _)
    · simp only [impl_Sign_rewrite.f]
      refine Ev.pos (by omega) (Ev.bnd hi (Ev.pos rfl (Ev.bnd1 b1 (Ev.bnd hap ?_))))
      by_cases hc : (app b tt).length ≤ 40
      · unfold cap
        rw [if_pos hc]
        refine Ev.pos rfl (Ev.bnd (impl_isGreater_ev part (app b tt) (by omega) (by omega)) ?_)
        by_cases hg : gt part (app b tt) = true
        · refine Ev.pos hg (Ev.bnd (impl_has_ev part (by omega) (app b tt)) ?_)
          by_cases q : ∀ n ∈ app b tt, n < 0 → n ∈ part
          · exact Ev.eq (Ev.pos (decide_eq_true q) (Ev.ret _)) (if_pos ⟨q, hg⟩).symm
          · exact Ev.eq (Ev.neg (by rw [decide_eq_false q]; simp) (Ev.ret _)) (if_neg (fun h => q h.1)).symm
        · exact Ev.eq (Ev.neg hg (Ev.ret _)) (if_neg (fun h => hg h.2)).symm
      · unfold cap
        rw [if_neg hc, if_neg (fun h => ?_)]
        · exact Ev.neg (by simp) (Ev.ret _)
        · have hg := h.2
          unfold gt at hg
          rw [decide_eq_false (p := (app b tt).length < part.length) (by omega), decide_eq_false (p := part.length = (app b tt).length) (by omega)] at hg
          simp at hg
    · by_cases q : ∀ n ∈ app b tt, n < 0 → n ∈ part
      · rw [if_pos q]
        unfold pick
        by_cases hg : gt part (app b tt) = true
        · rw [if_pos hg]; exact (if_pos ⟨q, hg⟩).symm
        · rw [if_neg hg]; exact (if_neg (fun h => hg h.2)).symm
      · rw [if_neg q]
        exact (if_neg (fun h => q h.1)).symm
    · by_cases q : (∀ n ∈ app b tt, n < 0 → n ∈ part) ∧ gt part (app b tt) = true
      · rw [if_pos q]; exact (if_pos q).symm
      · rw [if_neg q]; exact (if_neg q).symm
noncomputable def sidesT (s part : List Int) (x : S65) : Option (List Int) := match byT s part x.f1 x.f2 with
  | some y => some y
  | none => byT s part x.f2 x.f1
theorem side_ev (F : Nat → List Int → List Int → Option (List Int × Bool)) (p q : List Int) (y1 y2 : List Int × Bool) (h1 : Ev (fun k => F k p q) y1) (h2 : Ev (fun k => F k q p) y2) :
    Ev (fun k => (F k p q).bind fun y => if y.2 = true then some (some y.1) else (F k q p).bind fun y => if y.2 = true then some (some y.1) else some none) (match pick y1 with | some y => some y | none => pick y2) := by
  refine Ev.bnd h1 ?_
  unfold pick
  by_cases g : y1.2 = true
  · rw [if_pos g]
    exact Ev.pos g (Ev.ret _)
  · rw [if_neg g]
    refine Ev.neg g (Ev.bnd h2 ?_)
    by_cases g2 : y2.2 = true
    · exact Ev.pos g2 (Ev.eq (Ev.ret _) (if_pos g2).symm)
    · exact Ev.neg g2 (Ev.eq (Ev.ret _) (if_neg g2).symm)
theorem sides_ev (s : List Int) (hs : goodSign s = true) (part : List Int) (x : S65) (h1 : isTerm s part = true) (hx : isLit s x = true) :
    Ev (fun k => spec_l7Step.sides k s part x) (sidesT s part x) ∧ Ev (fun k => impl_Sign_step.sides k s part x) (sidesT s part x) := by
  unfold isLit at hx
  rw [Bool.and_eq_true] at hx
  obtain ⟨y1, z1, a1, b1, c1, d1⟩ := by_ev s hs part x.f1 x.f2 h1 hx.1 hx.2
  obtain ⟨y2, z2, a2, b2, c2, d2⟩ := by_ev s hs part x.f2 x.f1 h1 hx.2 hx.1
  constructor
  · have h := side_ev (fun k p q => spec_l7By.f k s part p q) x.f1 x.f2 y1 y2 a1 a2
    rw [c1, c2] at h
    exact h
  · have h := side_ev (fun k p q => impl_Sign_rewrite.f k s part p q) x.f1 x.f2 z1 z2 b1 b2
    rw [d1, d2] at h
    exact h
noncomputable def unitsT (s part : List Int) : List S65 → Nat → Option (List Int × Nat)
  | [], _ => none
  | x :: t, u => match sidesT s part x with
    | some y => some (y, u)
    | none => unitsT s part t (u + 1)
theorem units_ev (s : List Int) (hs : goodSign s = true) (part : List Int) (h1 : isTerm s part = true) (l : List S65) : ∀ u, (∀ x ∈ l, isLit s x = true) →
    Ev (fun k => spec_l7Step.units k s part l u) (unitsT s part l u) ∧ Ev (fun k => impl_Sign_step.units k s part l u) (unitsT s part l u) := by
  induction l with
  | nil => intro u hx; exact ⟨Ev.ret _, Ev.ret _⟩
  | cons x l ih =>
    intro u hx
    obtain ⟨a, b⟩ := sides_ev s hs part x h1 (hx x (by simp))
    obtain ⟨c, d⟩ := ih (u + 1) (fun y hy => hx y (by simp [hy]))
    constructor
    · simp only [spec_l7Step.units, unitsT]
      refine Ev.bnd a ?_
      cases sidesT s part x with
      | some y => exact Ev.ret _
      | none => exact c
    · simp only [impl_Sign_step.units, unitsT]
      refine Ev.bnd b ?_
      cases sidesT s part x with
      | some y => exact Ev.ret _
      | none => exact d
/-! slices.Concat -/
theorem grow_eq (n : Int) (h0 : 0 ≤ n) (h1 : n ≤ 1000000) : slices_Grow_int_int.f n = some [] := by
  unfold slices_Grow_int_int.f
  rw [if_neg (by omega), w64 (by omega) (by omega)]
  by_cases g : n > 0
  · rw [if_pos g, if_pos h0, if_pos (by simp only [List.length_nil]; omega), Option.bind_some, if_pos (by omega)]; rfl
  · rw [if_neg g]
theorem rdL2_mid (pre : List (List Int)) (x : List Int) (post : List (List Int)) : rd_L2 (pre ++ x :: post) (pre.length : Int) = x := by
  unfold rd_L2; simp
theorem concat_l1 (x0 : List (List Int)) (post : List (List Int)) : ∀ (pre : List (List Int)) (acc : List Int), (pre ++ post).length ≤ 100 → (∀ x ∈ post, x.length ≤ 1000) → acc.length ≤ 1000 * pre.length →
    Ev (fun k => slices_Concat_int_int.l1 k acc (pre ++ post) ((pre ++ post).length : Int) (pre.length : Int)) (acc ++ post.flatten) := by
  induction post with
  | nil =>
    intro pre acc hl hx ha
    refine Ev.succ ?_
    simp only [slices_Concat_int_int.l1]
    exact Ev.neg (by simp) (Ev.eq (Ev.ret _) (by simp))
  | cons x post ih =>
    intro pre acc hl hx ha
    have hx0 := hx x (by simp)
    have h := ih (pre ++ [x]) (acc ++ x) (by simpa using hl) (fun y hy => hx y (by simp [hy])) (by rw [List.length_append, List.length_append, List.length_singleton, Nat.mul_add]; omega)
    simp only [List.length_append, List.length_cons] at hl
    refine Ev.succ ?_
    simp only [slices_Concat_int_int.l1]
    refine Ev.pos (by simp only [List.length_append, List.length_cons]; omega) (Ev.pos (by omega) (Ev.pos (by simp only [List.length_append, List.length_cons]; omega) ?_))
    rw [rdL2_mid, w64 (by omega) (by omega)]
    refine Ev.pos (by omega) ?_
    simpa using h
theorem concat_l0 (x0 : List (List Int)) (hx0 : x0.length ≤ 100) (hx1 : ∀ x ∈ x0, x.length ≤ 1000) (post : List (List Int)) : ∀ (pre : List (List Int)) (n : Int), (pre ++ post).length ≤ 100 → (∀ x ∈ post, x.length ≤ 1000) → 0 ≤ n → n ≤ 1000 * pre.length →
    Ev (fun k => slices_Concat_int_int.l0 k x0 n (pre ++ post) ((pre ++ post).length : Int) (pre.length : Int)) x0.flatten := by
  induction post with
  | nil =>
    intro pre n hl hx h0 ha
    refine Ev.succ ?_
    simp only [slices_Concat_int_int.l0]
    have h := concat_l1 x0 x0 [] [] (by simpa using hx0) hx1 (by simp)
    simp only [List.length_append, List.length_nil] at hl
    exact Ev.neg (by simp) (Ev.bnd1 (grow_eq n h0 (by omega)) (by simpa using h))
  | cons x post ih =>
    intro pre n hl hx h0 ha
    have hx2 := hx x (by simp)
    have hl' := hl
    simp only [List.length_append, List.length_cons] at hl
    have h := ih (pre ++ [x]) (n + x.length) (by simpa using hl') (fun y hy => hx y (by simp [hy])) (by omega) (by rw [List.length_append, List.length_singleton]; omega)
    refine Ev.succ ?_
    simp only [slices_Concat_int_int.l0]
    refine Ev.pos (by simp only [List.length_append, List.length_cons]; omega) (Ev.pos (by omega) (Ev.pos (by simp only [List.length_append, List.length_cons]; omega) ?_))
    rw [rdL2_mid, w64 (x := (pre.length : Int) + 1) (by omega) (by omega), w64 (x := n + (x.length : Int)) (by omega) (by omega)]
    exact Ev.neg (by omega) (by simpa using h)
theorem concat_ev (l : List (List Int)) (h : l.length ≤ 100) (h1 : ∀ x ∈ l, x.length ≤ 1000) : Ev (fun k => slices_Concat_int_int.f k l) l.flatten := by
  simp only [slices_Concat_int_int.f]
  simpa using concat_l0 l h h1 l [] 0 (by simpa using h) h1 (by omega) (by simp)
theorem end_drop (pre c r : List Int) : (pre ++ (c ++ r)).drop (((pre ++ (c ++ r)).length : Int) - (r.length : Int)).toNat = r := by
  have e : (((pre ++ (c ++ r)).length : Int) - (r.length : Int)).toNat = (pre ++ c).length := by simp only [List.length_append]; omega
  rw [e, ← List.append_assoc, List.drop_left' rfl]
theorem replace_ev (s : List Int) (hs : goodSign s = true) (pre c r y : List Int) (hr : eat s (c ++ r) 1 = some r) (hl : (pre ++ (c ++ r)).length ≤ 1000) (hy : y.length ≤ 1000) :
    Ev (fun k => spec_l1Replace.f k s (pre ++ (c ++ r)) (pre.length : Int) y) (pre ++ (y ++ r)) ∧ Ev (fun k => impl_Sign_replace.f k s (pre ++ (c ++ r)) (pre.length : Int) y) (pre ++ (y ++ r)) := by
  have hl2 := hl
  simp only [List.length_append] at hl2
  have ht : (pre ++ (c ++ r)).take ((pre.length : Int)).toNat = pre := by rw [Int.toNat_natCast, List.take_left' rfl]
  have h := spec_l1End_ev s hs pre (c ++ r) (by omega)
  rw [hr] at h
  simp only at h
  constructor
  · simp only [spec_l1Replace.f]
    rw [ht]
    refine Ev.pos (by omega) (Ev.pos (by simp only [List.length_append]; omega) (Ev.bnd1 (own_eq pre (by omega)) (Ev.pos (by omega) (Ev.bnd1 rfl (Ev.bnd h (Ev.pos (by simp only [List.length_append]; omega) (Ev.pos (by simp only [List.length_append]; omega) ?_)))))))
    rw [end_drop]
    exact Ev.pos (by simp only [List.length_append]; omega) (Ev.eq (Ev.ret _) (by simp))
  · simp only [impl_Sign_replace.f]
    rw [ht]
    refine Ev.pos (by omega) (Ev.pos (by simp only [List.length_append]; omega) (Ev.bnd (impl_end_ev s hs pre (c ++ r) r (by omega) hr) (Ev.pos (by simp only [List.length_append]; omega) (Ev.pos (by simp only [List.length_append]; omega) ?_))))
    rw [end_drop]
    refine Ev.bnd (concat_ev [pre, y, r] (by simp) (fun x hx => ?_)) (Ev.eq (Ev.ret _) (by simp))
    simp only [List.mem_cons, List.not_mem_nil, or_false] at hx
    rcases hx with rfl | rfl | rfl <;> omega
def cutAt (s t : List Int) (a : Nat) : List Int := match eat s (t.drop a) 1 with
  | some r => (t.drop a).take ((t.drop a).length - r.length)
  | none => []
noncomputable def atT (s t : List Int) (l2 : List S65) : Nat → List Int × Int × Int × Bool
  | 0 => ([], 0, 0, false)
  | a + 1 => match unitsT s (cutAt s t a) l2 0 with
    | some y => (t.take a ++ (y.1 ++ t.drop (a + (cutAt s t a).length)), (a : Int), (y.2 : Int), true)
    | none => atT s t l2 a
/-- A term's part at a place. -/
theorem cutAt_of {s t : List Int} (ht : isTerm s t = true) {a : Nat} (ha : a < t.length) : ∃ pre r, pre.length = a ∧ t = pre ++ (cutAt s t a ++ r) ∧ t.take a = pre ∧ t.drop (a + (cutAt s t a).length) = r ∧ isTerm s (cutAt s t a) = true ∧ eat s (cutAt s t a ++ r) 1 = some r := by
  obtain ⟨hl, he⟩ := isTerm_of ht
  obtain ⟨m, hm⟩ := eat_at s t 1 a he ha
  obtain ⟨c, r, e, e1, e2, e3, e4, e5⟩ := eat_first hm
  have hc : cutAt s t a = c := by unfold cutAt; rw [e2]; exact e5
  have hcl : c.length ≤ t.length := by have := congrArg List.length e; rw [List.length_drop, List.length_append] at this; omega
  refine ⟨t.take a, r, by rw [List.length_take]; omega, ?_, rfl, ?_, ?_, ?_⟩
  · rw [hc, ← e, List.take_append_drop]
  · rw [hc, ← List.drop_drop, e, List.drop_left' rfl]
  · rw [hc]; exact isTerm_mk (by omega) e1
  · rw [hc, ← e]; exact e2
theorem byT_len {s part p tt y : List Int} (h : byT s part p tt = some y) : y.length ≤ part.length ∧ gt part y = true := by
  unfold byT at h
  split at h
  · simp at h
  · split at h
    · rename_i g
      simp only [Option.some.injEq] at h
      subst h
      refine ⟨?_, g.2⟩
      have hg := g.2
      unfold gt at hg
      rw [Bool.and_eq_true, Bool.or_eq_true, Bool.and_eq_true, decide_eq_true_eq, decide_eq_true_eq, decide_eq_true_eq] at hg
      omega
    · simp at h
theorem sidesT_len {s part y : List Int} {x : S65} (h : sidesT s part x = some y) : y.length ≤ part.length ∧ gt part y = true := by
  unfold sidesT at h
  split at h
  · rename_i e
    simp only [Option.some.injEq] at h
    exact byT_len (h ▸ e)
  · exact byT_len h
theorem unitsT_len {s part : List Int} (l : List S65) : ∀ (u : Nat) {y : List Int × Nat}, unitsT s part l u = some y → y.1.length ≤ part.length ∧ gt part y.1 = true := by
  induction l with
  | nil => intro u y h; simp [unitsT] at h
  | cons x l ih =>
    intro u y h
    simp only [unitsT] at h
    split at h
    · rename_i e
      simp only [Option.some.injEq] at h
      subst h
      exact sidesT_len e
    · exact ih _ h
theorem at_ev (s : List Int) (hs : goodSign s = true) (t : List Int) (ht : isTerm s t = true) (l2 : List S65) (hx : ∀ x ∈ l2, isLit s x = true) (a : Nat) : a ≤ t.length →
    Ev (fun k => spec_l7Step.at k s t l2 a) (atT s t l2 a) ∧ Ev (fun k => impl_Sign_step.at k s t l2 a) (atT s t l2 a) := by
  induction a with
  | zero => intro ha; exact ⟨Ev.ret _, Ev.ret _⟩
  | succ a ih =>
    intro ha
    obtain ⟨i1, i2⟩ := ih (by omega)
    obtain ⟨hl, he⟩ := isTerm_of ht
    obtain ⟨pre, r, q1, q2, q3, q4, q5, q6⟩ := cutAt_of ht (show a < t.length by omega)
    obtain ⟨u1, u2⟩ := units_ev s hs (cutAt s t a) q5 l2 0 hx
    have hpl : (pre ++ (cutAt s t a ++ r)).length ≤ 40 := by rw [← q2]; exact hl
    have p1 := spec_l1Part_ev s hs pre (cutAt s t a) r q6 (by omega)
    have p2 := impl_part_ev s hs pre (cutAt s t a) r q6 (by omega)
    rw [← q2, q1] at p1 p2
    have hcl : (cutAt s t a).length ≤ 40 := (isTerm_of q5).1
    constructor
    · simp only [spec_l7Step.at, atT]
      refine Ev.bnd p1 (Ev.bnd u1 ?_)
      cases e : unitsT s (cutAt s t a) l2 0 with
      | none => exact i1
      | some y =>
        have hy := (unitsT_len l2 0 e).1
        have rr := (replace_ev s hs pre (cutAt s t a) r y.1 q6 (by omega) (by omega)).1
        rw [← q2, q1] at rr
        rw [q3, q4]
        exact Ev.bnd rr (Ev.ret _)
    · simp only [impl_Sign_step.at, atT]
      refine Ev.bnd p2 (Ev.bnd u2 ?_)
      cases e : unitsT s (cutAt s t a) l2 0 with
      | none => exact i2
      | some y =>
        have hy := (unitsT_len l2 0 e).1
        have rr := (replace_ev s hs pre (cutAt s t a) r y.1 q6 (by omega) (by omega)).2
        rw [← q2, q1] at rr
        rw [q3, q4]
        exact Ev.bnd rr (Ev.ret _)
theorem areUnits_of {s : List Int} {l : List S65} (h : areUnits s l = true) : l.length ≤ 10 ∧ ∀ x ∈ l, isLit s x = true := by
  unfold areUnits at h
  rw [Bool.and_eq_true, decide_eq_true_eq, List.all_eq_true] at h
  refine ⟨h.1, fun x hx => ?_⟩
  have := h.2 x hx
  unfold isUnitL at this
  rw [Bool.and_eq_true] at this
  exact this.1
noncomputable def stepT (s t : List Int) (l2 : List S65) : List Int × Int × Int × Bool := atT s t l2 t.length
theorem step_ev (s : List Int) (hs : goodSign s = true) (t : List Int) (ht : isTerm s t = true) (l2 : List S65) (hu : areUnits s l2 = true) :
    Ev (fun k => spec_l7Step.f k s t l2) (stepT s t l2) ∧ Ev (fun k => impl_Sign_step.f k s t l2) (stepT s t l2) := by
  obtain ⟨u1, u2⟩ := areUnits_of hu
  obtain ⟨hl, he⟩ := isTerm_of ht
  obtain ⟨a, b⟩ := at_ev s hs t ht l2 u2 t.length (Nat.le_refl _)
  constructor
  · simp only [spec_l7Step.f]
    exact Ev.pos (by omega) a
  · simp only [impl_Sign_step.f]
    exact Ev.pos (by omega) b
/-! Rewriting ends. -/
def dig (x : Int) : Nat := (x + 12).toNat
def vl : List Int → Nat
  | [] => 0
  | x :: l => dig x * 23 ^ l.length + vl l
theorem vl_lt (l : List Int) (h : ∀ x ∈ l, dig x < 23) : vl l < 23 ^ l.length := by
  induction l with
  | nil => simp [vl]
  | cons x l ih =>
    have h1 := ih (fun y hy => h y (by simp [hy]))
    have h2 := h x (by simp)
    simp only [vl, List.length_cons, Nat.pow_succ]
    generalize 23 ^ l.length = P at *
    have h3 : dig x * P ≤ 22 * P := Nat.mul_le_mul_right P (by omega)
    omega
theorem vl_append (a b : List Int) : vl (a ++ b) = vl a * 23 ^ b.length + vl b := by
  induction a with
  | nil => simp [vl]
  | cons x a ih =>
    simp only [List.cons_append, vl, ih, List.length_append, Nat.pow_add, Nat.add_mul, Nat.mul_assoc]
    omega
theorem vl_cmp (a : List Int) : ∀ b : List Int, a.length = b.length → (∀ y ∈ b, dig y < 23) → cmp a b = true → vl b < vl a := by
  induction a with
  | nil => intro b hl hy h; cases b <;> simp [cmp] at h
  | cons x a ih =>
    intro b hl hy h
    cases b with
    | nil => simp [cmp] at h
    | cons y b =>
      simp only [List.length_cons] at hl
      simp only [cmp] at h
      have hbl := vl_lt b (fun z hz => hy z (by simp [hz]))
      simp only [vl]
      rw [show a.length = b.length by omega]
      split at h
      · rename_i e
        have := ih b (by omega) (fun z hz => hy z (by simp [hz])) h
        rw [e]; omega
      · rw [decide_eq_true_eq] at h
        have h2 : dig y + 1 ≤ dig x := by unfold dig; omega
        generalize 23 ^ b.length = P at *
        have h3 : (dig y + 1) * P ≤ dig x * P := Nat.mul_le_mul_right P h2
        rw [Nat.add_mul] at h3
        omega
theorem tok_dig {s : List Int} (hs : goodSign s = true) {x : Int} (h : tok s x = true) : dig x < 23 := by
  have := goodSign_len hs
  unfold tok at h
  simp only [decide_eq_true_eq] at h
  unfold dig
  omega
theorem byT_eat {s part p tt y : List Int} (h1 : isTerm s part = true) (h2 : isTerm s p = true) (h3 : isTerm s tt = true) (h : byT s part p tt = some y) : eat s y 1 = some [] := by
  obtain ⟨l1, e1⟩ := isTerm_of h1
  obtain ⟨l2, e2⟩ := isTerm_of h2
  obtain ⟨l3, e3⟩ := isTerm_of h3
  unfold byT at h
  split at h
  · simp at h
  · rename_i b e
    split at h
    · simp only [Option.some.injEq] at h
      rw [← h]
      exact app_eat s b 40 (mtch_ok s p part _ 1 40 b e2 e1 l1 (okB_start s 40) e) tt 1 e3
    · simp at h
theorem unitsT_eat {s part : List Int} (h1 : isTerm s part = true) (l : List S65) : ∀ (u : Nat) {y : List Int × Nat}, (∀ x ∈ l, isLit s x = true) → unitsT s part l u = some y → eat s y.1 1 = some [] := by
  induction l with
  | nil => intro u y hx h; simp [unitsT] at h
  | cons x l ih =>
    intro u y hx h
    simp only [unitsT] at h
    have hx0 := hx x (by simp)
    unfold isLit at hx0
    rw [Bool.and_eq_true] at hx0
    split at h
    · rename_i z e
      simp only [Option.some.injEq] at h
      subst h
      unfold sidesT at e
      split at e
      · rename_i e'
        simp only [Option.some.injEq] at e
        exact byT_eat h1 hx0.1 hx0.2 (e ▸ e')
      · exact byT_eat h1 hx0.2 hx0.1 e
    · exact ih _ (fun y hy => hx y (by simp [hy])) h
theorem atT_good (s : List Int) (hs : goodSign s = true) (t : List Int) (ht : isTerm s t = true) (l2 : List S65) (hx : ∀ x ∈ l2, isLit s x = true) (a : Nat) : a ≤ t.length → (atT s t l2 a).2.2.2 = true →
    isTerm s (atT s t l2 a).1 = true ∧ ((atT s t l2 a).1.length < t.length ∨ ((atT s t l2 a).1.length = t.length ∧ vl (atT s t l2 a).1 < vl t)) := by
  induction a with
  | zero => intro _ h; simp [atT] at h
  | succ a ih =>
    intro ha h
    obtain ⟨pre, r, q1, q2, q3, q4, q5, q6⟩ := cutAt_of ht (show a < t.length by omega)
    simp only [atT] at h ⊢
    cases e : unitsT s (cutAt s t a) l2 0 with
    | none =>
      rw [e] at h
      exact ih (by omega) h
    | some y =>
      obtain ⟨hy, hg⟩ := unitsT_len l2 0 e
      have hye := unitsT_eat q5 l2 0 hx e
      obtain ⟨hl, he⟩ := isTerm_of ht
      obtain ⟨cl, ce⟩ := isTerm_of q5
      have e2 := congrArg List.length q2
      simp only [List.length_append] at e2
      simp only
      rw [q3, q4]
      have hlen : (pre ++ (y.1 ++ r)).length = pre.length + y.1.length + r.length := by simp only [List.length_append]; omega
      refine ⟨isTerm_mk (by omega) (eat_put s pre 1 _ _ r ce hye (by rw [← q2]; exact he)), ?_⟩
      by_cases g : y.1.length < (cutAt s t a).length
      · exact .inl (by omega)
      · refine .inr ⟨by omega, ?_⟩
        unfold gt at hg
        rw [Bool.and_eq_true, decide_eq_false g, Bool.false_or, Bool.and_eq_true, decide_eq_true_eq, decide_eq_true_eq] at hg
        have hv := vl_cmp _ y.1 hg.2.1 (fun z hz => tok_dig hs (eat_tok s _ 1 hye z hz)) hg.2.2
        have e3 : vl t = vl (pre ++ (cutAt s t a ++ r)) := congrArg vl q2
        rw [e3, vl_append, vl_append, vl_append, vl_append, List.length_append, List.length_append, hg.2.1]
        have := Nat.mul_lt_mul_of_pos_right hv (show 0 < 23 ^ r.length from Nat.pow_pos (by omega))
        omega
def msr (t : List Int) : Nat := t.length * 23 ^ 40 + vl t
theorem msr_lt {s t t' : List Int} (hs : goodSign s = true) (h1 : isTerm s t' = true) (h : t'.length < t.length ∨ (t'.length = t.length ∧ vl t' < vl t)) : msr t' < msr t := by
  unfold msr
  obtain ⟨hl, he⟩ := isTerm_of h1
  rcases h with h | ⟨h, h2⟩
  · have h3 := vl_lt t' (fun z hz => tok_dig hs (eat_tok s _ 1 he z hz))
    have h4 : 23 ^ t'.length ≤ 23 ^ 40 := Nat.pow_le_pow_right (by omega) hl
    have h5 : (t'.length + 1) * 23 ^ 40 ≤ t.length * 23 ^ 40 := Nat.mul_le_mul_right _ h
    rw [Nat.add_mul] at h5
    generalize 23 ^ 40 = P at *
    omega
  · rw [h]
    exact Nat.add_lt_add_left h2 _
theorem normal_ev (s : List Int) (hs : goodSign s = true) (l2 : List S65) (hu : areUnits s l2 = true) (N : Nat) : ∀ (t : List Int) (c : Int), isTerm s t = true → msr t < N →
    ∃ r : List Int × Int, isTerm s r.1 = true ∧ Ev (fun k => spec_l7Normal.l0 k l2 t c s) r ∧ Ev (fun k => impl_Sign_normal.l0 k t l2 c s) r := by
  induction N with
  | zero => intro t c ht hm; exact absurd hm (Nat.not_lt_zero _)
  | succ N ih =>
    intro t c ht hm
    obtain ⟨a, b⟩ := step_ev s hs t ht l2 hu
    by_cases g : (stepT s t l2).2.2.2 = true
    · obtain ⟨g1, g2⟩ := atT_good s hs t ht l2 (areUnits_of hu).2 t.length (Nat.le_refl _) g
      have hlt := msr_lt hs g1 g2
      obtain ⟨r, h1, h2, h3⟩ := ih (stepT s t l2).1 (wrap64 (c + 1)) g1 (Nat.lt_of_lt_of_le hlt (Nat.le_of_lt_succ hm))
      refine ⟨r, h1, Ev.succ ?_, Ev.succ ?_⟩
      · simp only [spec_l7Normal.l0]
        exact Ev.bnd a (Ev.pos g h2)
      · simp only [impl_Sign_normal.l0]
        exact Ev.bnd b (Ev.pos g h3)
    · refine ⟨(t, c), ht, Ev.succ ?_, Ev.succ ?_⟩
      · simp only [spec_l7Normal.l0]
        exact Ev.bnd a (Ev.neg g (Ev.ret _))
      · simp only [impl_Sign_normal.l0]
        exact Ev.bnd b (Ev.neg g (Ev.ret _))
theorem normal_f_ev (s : List Int) (hs : goodSign s = true) (l2 : List S65) (hu : areUnits s l2 = true) (t : List Int) (ht : isTerm s t = true) :
    ∃ r : List Int × Int, isTerm s r.1 = true ∧ Ev (fun k => spec_l7Normal.f k s t l2) r ∧ Ev (fun k => impl_Sign_normal.f k s t l2) r := by
  obtain ⟨r, h1, h2, h3⟩ := normal_ev s hs l2 hu (msr t + 1) t 0 ht (Nat.lt_succ_self _)
  have hl := (isTerm_of ht).1
  refine ⟨r, h1, ?_, ?_⟩
  · simp only [spec_l7Normal.f]
    exact Ev.bnd1 (own_eq t (by omega)) h2
  · simp only [impl_Sign_normal.f]
    exact Ev.bnd1 (a := t) (by unfold slices_Clone_int_int_83.f; rw [if_pos (by omega)]) h3

/-! New names for variables: the reference's and the program's. -/
def totL (l : List (List Int)) : Nat := (l.map List.length).sum
theorem totL_cons (x : List Int) (t : List (List Int)) : totL (x :: t) = x.length + totL t := by simp [totL]
theorem rnT_len (t : List Int) : ∀ met : List Int, (rnT met t).2.length = t.length ∧ (rnT met t).1.length ≤ met.length + t.length := by
  induction t with
  | nil => intro met; exact ⟨rfl, by simp [rnT]⟩
  | cons n t ih =>
    intro met
    rw [rnT]
    split
    · have := ih met
      exact ⟨by simp only [List.length_cons]; omega, by simp only [List.length_cons]; omega⟩
    · have := ih (if n ∈ met then met else met ++ [n])
      have h2 : (if n ∈ met then met else met ++ [n]).length ≤ met.length + 1 := by
        split
        · omega
        · rw [List.length_append, List.length_singleton]; omega
      exact ⟨by simp only [List.length_cons]; omega, by simp only [List.length_cons]; omega⟩
theorem rnT_neg (t : List Int) : ∀ met : List Int, (∀ m ∈ met, m < 0) → ∀ m ∈ (rnT met t).1, m < 0 := by
  induction t with
  | nil => intro met h; exact h
  | cons n t ih =>
    intro met h
    rw [rnT]
    split
    · exact ih met h
    · rename_i hn
      refine ih _ (fun m hm => ?_)
      split at hm
      · exact h m hm
      · rcases List.mem_append.1 hm with hm | hm
        · exact h m hm
        · rw [List.mem_singleton] at hm; omega
theorem rnL_len (l : List (List Int)) : ∀ met, (rnL met l).length = l.length := by
  induction l with
  | nil => intro met; rfl
  | cons x t ih => intro met; simp [rnL, ih]
theorem rnL_small (N : Nat) (l : List (List Int)) : ∀ met, (∀ x ∈ l, x.length ≤ N) → ∀ y ∈ rnL met l, y.length ≤ N := by
  induction l with
  | nil => intro met _ y hy; simp [rnL] at hy
  | cons x t ih =>
    intro met h y hy
    rw [rnL] at hy
    rcases List.mem_cons.1 hy with rfl | hy
    · rw [(rnT_len x met).1]; exact h x (by simp)
    · exact ih _ (fun z hz => h z (by simp [hz])) y hy
theorem ren_l2 (n : Int) (x3 : List Int) (x4 : List (List Int)) (x7 : List Int) (x12 : List (List Int)) (x13 x14 : Int) (x18 : List Int) (x19 x20 : Int) (h7 : x7.length ≤ 1000000) (r : List (List Int)) (post : List Int) : ∀ pre : List Int, n ∉ pre → (pre ++ post).length ≤ 1000000 →
    Ev (fun k => spec_l2Rename.l1 k x3 x4 (x7 ++ [if n ∈ post then -1 - (((pre ++ post).idxOf n : Nat) : Int) else n]) x12 x13 x14 x18 x19 (wrap64 (x20 + 1))) r →
    Ev (fun k => spec_l2Rename.l2 k x3 x4 x7 n x12 x13 x14 x18 x19 x20 (pre ++ post) ((pre ++ post).length : Int) (pre.length : Int)) r := by
  induction post with
  | nil =>
    intro pre hn hl h
    refine Ev.succ ?_
    simp only [spec_l2Rename.l2]
    rw [if_neg (by simp)] at h
    exact Ev.neg (by simp) (Ev.pos (by omega) h)
  | cons m post ih =>
    intro pre hn hl h
    have hl' := hl
    simp only [List.length_append, List.length_cons] at hl
    refine Ev.succ ?_
    simp only [spec_l2Rename.l2]
    rw [w64 (x := -1 - (pre.length : Int)) (by omega) (by omega), w64 (x := (pre.length : Int) + 1) (by omega) (by omega), rd_mid]
    refine Ev.pos (by simp only [List.length_append, List.length_cons]; omega) (Ev.pos (by omega) (Ev.pos (by simp only [List.length_append, List.length_cons]; omega) ?_))
    by_cases e : m = n
    · subst e
      rw [if_pos (by simp), List.idxOf_append, if_neg hn, List.idxOf_cons_self, Nat.zero_add] at h
      exact Ev.pos rfl (Ev.pos (by omega) h)
    · refine Ev.neg e ?_
      have hpp : pre ++ m :: post = (pre ++ [m]) ++ post := by simp
      have := ih (pre ++ [m]) (by simp only [List.mem_append, List.mem_singleton, not_or]; exact ⟨hn, fun q => e q.symm⟩) (by rw [← hpp]; exact hl') (by
        rw [← hpp]
        have e2 : (n ∈ m :: post) = (n ∈ post) := by rw [List.mem_cons]; exact propext ⟨fun q => q.elim (fun q => absurd q.symm e) id, .inr⟩
        simp only [e2] at h
        exact h)
      rw [← hpp] at this
      simpa using this
theorem ren_l1 (l : List (List Int)) (idx : Int) (out : List (List Int)) (hout : out.length ≤ 1000000) (r : List (List Int)) (post : List Int) : ∀ (pre met acc : List Int), (∀ m ∈ met, m < 0) → met.length + post.length ≤ 900000 → acc.length = pre.length → (pre ++ post).length ≤ 900000 →
    Ev (fun k => spec_l2Rename.l0 k (rnT met post).1 (out ++ [acc ++ (rnT met post).2]) l (l.length : Int) (wrap64 (idx + 1))) r →
    Ev (fun k => spec_l2Rename.l1 k met out acc l (l.length : Int) idx (pre ++ post) ((pre ++ post).length : Int) (pre.length : Int)) r := by
  induction post with
  | nil =>
    intro pre met acc hm hb ha hl h
    refine Ev.succ ?_
    simp only [spec_l2Rename.l1]
    simp only [rnT, List.append_nil] at h
    exact Ev.neg (by simp) (Ev.pos (by omega) h)
  | cons n post ih =>
    intro pre met acc hm hb ha hl h
    have hl' := hl
    simp only [List.length_append, List.length_cons] at hl hb
    have hpp : pre ++ n :: post = (pre ++ [n]) ++ post := by simp
    have next : ∀ (met' : List Int) (y : Int), (∀ m ∈ met', m < 0) → met'.length ≤ met.length + 1 → Ev (fun k => spec_l2Rename.l0 k (rnT met' post).1 (out ++ [acc ++ y :: (rnT met' post).2]) l (l.length : Int) (wrap64 (idx + 1))) r →
        Ev (fun k => spec_l2Rename.l1 k met' out (acc ++ [y]) l (l.length : Int) idx (pre ++ n :: post) ((pre ++ n :: post).length : Int) (wrap64 ((pre.length : Int) + 1))) r := fun met' y h1 h2 h3 => by
      have := ih (pre ++ [n]) met' (acc ++ [y]) h1 (by omega) (by simp [ha]) (by rw [← hpp]; exact hl') (by simpa using h3)
      rw [← hpp] at this
      rw [w64 (by omega) (by omega)]
      simpa using this
    refine Ev.succ ?_
    simp only [spec_l2Rename.l1]
    rw [rd_mid]
    refine Ev.pos (by simp only [List.length_append, List.length_cons]; omega) (Ev.pos (by omega) (Ev.pos (by simp only [List.length_append, List.length_cons]; omega) ?_))
    rw [rnT] at h
    by_cases g : 0 ≤ n
    · rw [if_pos g] at h
      have hnm : n ∉ met := fun q => by have := hm n q; omega
      refine Ev.neg (by omega) (Ev.succ ?_)
      simp only [spec_l2Rename.j2]
      refine Ev.neg (by simp) (Ev.succ ?_)
      simp only [spec_l2Rename.j3]
      have := ren_l2 n met out acc l (l.length : Int) idx (pre ++ n :: post) ((pre ++ n :: post).length : Int) (pre.length : Int) (by omega) r met [] (by simp) (by simp only [List.nil_append]; omega) (by rw [if_neg hnm]; exact next met n hm (by omega) h)
      simpa using this
    · rw [if_neg g] at h
      refine Ev.pos (by omega) (Ev.bnd (spec_l1Has_ev met n (by omega)) (Ev.succ ?_))
      simp only [spec_l2Rename.j2]
      by_cases q : n ∈ met
      · rw [if_pos q] at h
        refine Ev.neg (by simp [q]) (Ev.succ ?_)
        simp only [spec_l2Rename.j3]
        have := ren_l2 n met out acc l (l.length : Int) idx (pre ++ n :: post) ((pre ++ n :: post).length : Int) (pre.length : Int) (by omega) r met [] (by simp) (by simp only [List.nil_append]; omega) (by rw [if_pos q]; exact next met _ hm (by omega) h)
        simpa using this
      · rw [if_neg q] at h
        refine Ev.pos (by simp [q]) (Ev.pos (by omega) (Ev.succ ?_))
        simp only [spec_l2Rename.j3]
        have := ren_l2 n (met ++ [n]) out acc l (l.length : Int) idx (pre ++ n :: post) ((pre ++ n :: post).length : Int) (pre.length : Int) (by omega) r (met ++ [n]) [] (by simp) (by simp only [List.nil_append, List.length_append, List.length_singleton]; omega) (by
          rw [if_pos (by simp)]
          refine next (met ++ [n]) _ (fun m hm' => ?_) (by rw [List.length_append, List.length_singleton]; omega) h
          rcases List.mem_append.1 hm' with hm' | hm'
          · exact hm m hm'
          · rw [List.mem_singleton] at hm'; omega)
        simpa using this
theorem rdL2_mid9 (pre : List (List Int)) (x : List Int) (post : List (List Int)) : rd_L2 (pre ++ x :: post) (pre.length : Int) = x := by
  unfold rd_L2; simp
theorem ren_l0 (post : List (List Int)) : ∀ (pre out : List (List Int)) (met : List Int), (∀ m ∈ met, m < 0) → met.length + totL post ≤ 900000 → out.length = pre.length → (pre ++ post).length ≤ 900000 → 
    Ev (fun k => spec_l2Rename.l0 k met out (pre ++ post) ((pre ++ post).length : Int) (pre.length : Int)) (out ++ rnL met post) := by
  induction post with
  | nil =>
    intro pre out met hm hb ho hl
    refine Ev.succ ?_
    simp only [spec_l2Rename.l0]
    exact Ev.neg (by simp) (Ev.eq (Ev.ret _) (by simp [rnL]))
  | cons x post ih =>
    intro pre out met hm hb ho hl
    have hl' := hl
    rw [totL_cons] at hb
    simp only [List.length_append, List.length_cons] at hl
    have hpp : pre ++ x :: post = (pre ++ [x]) ++ post := by simp
    have h := ih (pre ++ [x]) (out ++ [(rnT met x).2]) (rnT met x).1 (rnT_neg x met hm) (by have := (rnT_len x met).2; omega) (by simp [ho]) (by rw [← hpp]; exact hl')
    rw [← hpp] at h
    refine Ev.succ ?_
    simp only [spec_l2Rename.l0]
    rw [rdL2_mid9]
    refine Ev.pos (by simp only [List.length_append, List.length_cons]; omega) (Ev.pos (by omega) (Ev.pos (by simp only [List.length_append, List.length_cons]; omega) ?_))
    have := ren_l1 (pre ++ x :: post) (pre.length : Int) out (by omega) (out ++ rnL met (x :: post)) x [] met [] hm (by omega) rfl (by simp only [List.nil_append]; omega) (by
      rw [w64 (by omega) (by omega)]
      simpa [rnL] using h)
    simpa using this
theorem spec_l2Rename_ev (l : List (List Int)) (h1 : l.length ≤ 900000) (h2 : totL l ≤ 900000) : Ev (fun k => spec_l2Rename.f k l) (rnL [] l) := by
  simp only [spec_l2Rename.f]
  simpa using ren_l0 l [] [] [] (by simp) (by simpa using h2) rfl (by simpa using h1)
theorem spec_l4Rename_ev (l : List S65) (h1 : l.length ≤ 1000) (h2 : totL (flatT l) ≤ 900000) : Ev (fun k => spec_l4Rename.f k l) (zipN l (rnL [] (flatT l)) l.length) := by
  simp only [spec_l4Rename.f]
  refine Ev.pos (by omega) (Ev.bnd (spec_l2Rename_ev _ (by rw [flat_len]; omega) h2) (Ev.pos (by rw [rnL_len, flat_len]) (Ev.ret _)))
theorem with_l0 (l : List S65) (u : List (List Int)) (h1 : l.length ≤ 1000) (hu : u.length = 2 * l.length) (d : Nat) : ∀ j : Nat, j + d = l.length → Ev (fun k => impl_withTerms.l0 k u (zipN l u j) l (l.length : Int) (j : Int)) (zipN l u l.length) := by
  induction d with
  | zero =>
    intro j hj
    obtain rfl : j = l.length := by omega
    refine Ev.succ ?_
    simp only [impl_withTerms.l0]
    exact Ev.neg (by omega) (Ev.ret _)
  | succ d ih =>
    intro j hj
    have h := ih (j + 1) (by omega)
    refine Ev.succ ?_
    simp only [impl_withTerms.l0]
    rw [w64 (x := 2 * (j : Int)) (by omega) (by omega), w64 (x := 2 * (j : Int) + 1) (by omega) (by omega), w64 (x := (j : Int) + 1) (by omega) (by omega)]
    refine Ev.pos (by omega) (Ev.pos (by omega) (Ev.pos (by omega) (Ev.pos (by omega) (Ev.pos (by omega) (Ev.pos (by omega) (Ev.pos (by omega) (Ev.pos (by rw [zipN_len]; omega) ?_)))))))
    exact h
theorem impl_withTerms_ev (l : List S65) (u : List (List Int)) (h1 : l.length ≤ 1000) (hu : u.length = 2 * l.length) : Ev (fun k => impl_withTerms.f k l u) (zipN l u l.length) := by
  simp only [impl_withTerms.f]
  exact with_l0 l u h1 hu l.length 0 (by omega)
theorem impl_rename_eq (l : List (List Int)) (h1 : l.length ≤ 2097152) (h2 : ∀ x ∈ l, x.length ≤ 1048576 ∧ ∀ n ∈ x, -9223372036854775808 ≤ n ∧ n ≤ 9223372036854775807) : impl_rename.f l = some (rnL [] l) := by
  unfold impl_rename.f
  rw [if_pos]
  refine ⟨h1, List.all_eq_true.2 (fun x hx => ?_)⟩
  rw [Bool.and_eq_true, decide_eq_true_iff, List.all_eq_true]
  exact ⟨(h2 x hx).1, fun n hn => decide_eq_true ((h2 x hx).2 n hn)⟩
theorem flat_mem (l : List S65) : ∀ t ∈ flatT l, ∃ x ∈ l, t = x.f1 ∨ t = x.f2 := by
  induction l with
  | nil => intro t ht; simp [flatT] at ht
  | cons y l ih =>
    intro t ht
    simp only [flatT, List.mem_cons] at ht
    rcases ht with rfl | rfl | ht
    · exact ⟨y, by simp, .inl rfl⟩
    · exact ⟨y, by simp, .inr rfl⟩
    · obtain ⟨x, hx, h⟩ := ih t ht
      exact ⟨x, by simp [hx], h⟩
theorem totL_le (N : Nat) (l : List (List Int)) (h : ∀ x ∈ l, x.length ≤ N) : totL l ≤ l.length * N := by
  induction l with
  | nil => simp [totL]
  | cons x t ih =>
    have h1 := ih (fun y hy => h y (by simp [hy]))
    have h2 := h x (by simp)
    rw [totL_cons, List.length_cons, Nat.add_mul, Nat.one_mul]
    omega
theorem rdL2_le (N : Nat) (t : List (List Int)) (h : ∀ x ∈ t, x.length ≤ N) (i : Int) : (rd_L2 t i).length ≤ N := by
  unfold rd_L2
  rw [List.getD_eq_getElem?_getD]
  rcases hq : t[i.toNat]? with _ | x
  · simp
  · exact h x (List.mem_of_getElem? hq)
theorem zipN_small (N : Nat) (l : List S65) (t : List (List Int)) (h : ∀ x ∈ t, x.length ≤ N) (n : Nat) : ∀ y ∈ zipN l t n, y.f1.length ≤ N ∧ y.f2.length ≤ N := by
  induction n with
  | zero => intro y hy; simp [zipN] at hy
  | succ n ih =>
    intro y hy
    rw [zipN] at hy
    rcases List.mem_append.1 hy with hy | hy
    · exact ih y hy
    · rw [List.mem_singleton] at hy
      subst hy
      exact ⟨rdL2_le N t h _, rdL2_le N t h _⟩

/-! A clause's new names. -/
/-- Literals that are as a law's argument may have them. -/
def wfLit (x : S65) : Prop := (∀ n ∈ x.f1, -9223372036854775808 ≤ n ∧ n ≤ 9223372036854775807) ∧ ∀ n ∈ x.f2, -9223372036854775808 ≤ n ∧ n ≤ 9223372036854775807
def renT (l : List S65) : List S65 := zipN l (rnL [] (flatT l)) l.length
theorem flat_small {s : List Int} {c : List S65} (h : isClause s c = true) : c.length ≤ 8 ∧ (∀ t ∈ flatT c, t.length ≤ 40) ∧ totL (flatT c) ≤ 900000 := by
  have h1 := isClause_of h
  have h2 : ∀ t ∈ flatT c, t.length ≤ 40 := fun t ht => by
    obtain ⟨x, hx, e⟩ := flat_mem c t ht
    have hl := isLit_of (h1.2 x hx)
    rcases e with rfl | rfl
    · exact (isTerm_of hl.1).1
    · exact (isTerm_of hl.2).1
  refine ⟨h1.1, h2, ?_⟩
  have := totL_le 40 _ h2
  rw [flat_len] at this
  have : 2 * c.length * 40 ≤ 16 * 40 := Nat.mul_le_mul_right _ (by omega)
  omega
theorem spec_ren_ev {s : List Int} {c : List S65} (h : isClause s c = true) : Ev (fun k => spec_l4Rename.f k c) (renT c) := by
  obtain ⟨h1, h2, h3⟩ := flat_small h
  exact spec_l4Rename_ev c (by omega) h3
theorem ren_len (c : List S65) : (renT c).length = c.length := zipN_len _ _ _
theorem ren_small {s : List Int} {c : List S65} (h : isClause s c = true) : ∀ y ∈ renT c, y.f1.length ≤ 1000000 ∧ y.f2.length ≤ 1000000 := fun y hy => by
  obtain ⟨h1, h2, h3⟩ := flat_small h
  have := zipN_small 40 c _ (rnL_small 40 _ [] h2) c.length y hy
  omega

/-! Result literals, marked and held. -/
def upsL : Int → List S65 → List S65
  | _, [] => []
  | a, x :: t => ⟨a % 3 == 0, ups (a + 1) x.f1.length, ups (a + 1 + x.f1.length) x.f2.length⟩ :: upsL (a + lsz x) t
theorem upsL_len (l : List S65) : ∀ a, (upsL a l).length = l.length := by
  induction l with
  | nil => intro a; rfl
  | cons x t ih => intro a; simp [upsL, ih]
theorem ltot_cons (x : S65) (t : List S65) : ltot (x :: t) = lsz x + ltot t := by simp [ltot]
theorem mkLS_ev (l : List S65) : ∀ a : Int, 0 ≤ a → a + ltot l ≤ 4611686018427387904 → (∀ x ∈ l, smLit x) → Ev (fun k => mkLS k l a) (a + ltot l, upsL a l) := by
  induction l with
  | nil => intro a h0 h1 hk; exact Ev.eq (Ev.ret _) (by simp [ltot, upsL])
  | cons x t ih =>
    intro a h0 h1 hk
    rw [ltot_cons] at h1 ⊢
    have hx := hk x (by simp)
    unfold smLit at hx
    have hs : lsz x = 1 + x.f1.length + x.f2.length := rfl
    have h := ih (a + lsz x) (by omega) (by omega) (fun y hy => hk y (by simp [hy]))
    simp only [mkLS]
    refine Ev.pos ⟨h0, by omega⟩ (Ev.bnd (markIntS x.f1 (a + 1) (by omega) (by omega) (by omega)) (Ev.bnd (markIntS x.f2 (a + 1 + x.f1.length) (by omega) (by omega) (by omega)) ?_))
    have e : a + 1 + (x.f1.length : Int) + (x.f2.length : Int) = a + (lsz x : Int) := by omega
    simp only [e]
    refine Ev.bnd h (Ev.eq (Ev.ret _) ?_)
    simp only [upsL, Prod.mk.injEq]
    exact ⟨by omega, trivial⟩
theorem heldLitS_l0 (l : List S65) : ∀ (pre : List S65) (a : Int), 0 ≤ a → a + ltot l ≤ 4611686018427387904 → (∀ x ∈ l, smLit x) → pre.length + l.length ≤ 1048576 →
    Ev (fun k => laws_heldLitS.l0 k (pre ++ upsL a l) a (pre.length : Int)) (a + ltot l) := by
  induction l with
  | nil =>
    intro pre a h0 h1 hk hl
    refine Ev.succ ?_
    simp only [laws_heldLitS.l0]
    exact Ev.neg (by simp [upsL]) (Ev.eq (Ev.ret _) (by simp [ltot]))
  | cons x t ih =>
    intro pre a h0 h1 hk hl
    rw [ltot_cons] at h1 ⊢
    have hx := hk x (by simp)
    unfold smLit at hx
    have hs : lsz x = 1 + x.f1.length + x.f2.length := rfl
    rw [List.length_cons] at hl
    have h := ih (pre ++ [(⟨a % 3 == 0, ups (a + 1) x.f1.length, ups (a + 1 + x.f1.length) x.f2.length⟩ : S65)]) (a + lsz x) (by omega) (by omega) (fun y hy => hk y (by simp [hy])) (by rw [List.length_append, List.length_singleton]; omega)
    refine Ev.succ ?_
    simp only [laws_heldLitS.l0, upsL]
    refine Ev.pos (by simp only [List.length_append, List.length_cons, upsL_len]; omega) (Ev.pos (by omega) ?_)
    simp only [rdLB_mid]
    rw [w64 (x := a + 1) (by omega) (by omega), w64 (x := (pre.length : Int) + 1) (by omega) (by omega)]
    refine Ev.neg (by rw [Int.tmod_eq_emod_of_nonneg h0]; simp) (Ev.bnd (heldIntS x.f1.length (a + 1) (by omega) (by omega) (by omega)) (Ev.neg (by omega) (Ev.bnd (heldIntS x.f2.length (a + 1 + x.f1.length) (by omega) (by omega) (by omega)) (Ev.neg (by omega) ?_))))
    have e : a + 1 + (x.f1.length : Int) + (x.f2.length : Int) = a + (lsz x : Int) := by omega
    rw [e]
    exact Ev.eq (by simpa using h) (by omega)
theorem heldLitS_ev (l : List S65) (a : Int) (h0 : 0 ≤ a) (h1 : a + ltot l ≤ 4611686018427387904) (hl : l.length ≤ 1048576) (hk : ∀ x ∈ l, smLit x) : Ev (fun k => laws_heldLitS.f k (upsL a l) a) (a + ltot l) := by
  simp only [laws_heldLitS.f]
  simpa using heldLitS_l0 l [] a h0 h1 hk (by simpa using hl)

/-! Literals with the same sides. -/
def sidesT2 (x y : S65) : Bool := (decide (x.f1 = y.f1) && decide (x.f2 = y.f2)) || (decide (x.f1 = y.f2) && decide (x.f2 = y.f1))
def smL2 (x : S65) : Prop := x.f1.length ≤ 1000000 ∧ x.f2.length ≤ 1000000
theorem spec_sameTerms_ev (x y : S65) (hx : smL2 x) : Ev (fun k => spec_l4SameTerms.f k x.f0 x.f1 x.f2 y.f0 y.f1 y.f2) (sidesT2 x y) := by
  simp only [spec_l4SameTerms.f, sidesT2]
  have e1 := spec_l1Same_ev x.f1 y.f1 hx.1
  have e2 := spec_l1Same_ev x.f2 y.f2 hx.2
  have e3 := spec_l1Same_ev x.f1 y.f2 hx.1
  have e4 := spec_l1Same_ev x.f2 y.f1 hx.2
  refine Ev.bnd e1 ?_
  by_cases g1 : x.f1 = y.f1
  · refine Ev.pos (decide_eq_true g1) (Ev.bnd e2 ?_)
    by_cases g2 : x.f2 = y.f2
    · exact Ev.pos (decide_eq_true g2) (Ev.eq (Ev.ret _) (by rw [decide_eq_true g1, decide_eq_true g2]; rfl))
    · refine Ev.neg (by rw [decide_eq_false g2]; simp) (Ev.bnd e3 ?_)
      by_cases g3 : x.f1 = y.f2
      · exact Ev.pos (decide_eq_true g3) (Ev.bnd e4 (Ev.eq (Ev.ret _) (by rw [decide_eq_false g2, decide_eq_true g3, Bool.and_false, Bool.false_or, Bool.true_and])))
      · exact Ev.neg (by rw [decide_eq_false g3]; simp) (Ev.eq (Ev.ret _) (by rw [decide_eq_false g2, decide_eq_false g3, Bool.and_false, Bool.false_and]; rfl))
  · refine Ev.neg (by rw [decide_eq_false g1]; simp) (Ev.bnd e3 ?_)
    by_cases g3 : x.f1 = y.f2
    · exact Ev.pos (decide_eq_true g3) (Ev.bnd e4 (Ev.eq (Ev.ret _) (by rw [decide_eq_false g1, decide_eq_true g3, Bool.false_and, Bool.false_or, Bool.true_and])))
    · exact Ev.neg (by rw [decide_eq_false g3]; simp) (Ev.eq (Ev.ret _) (by rw [decide_eq_false g1, decide_eq_false g3, Bool.false_and, Bool.false_and]; rfl))
theorem impl_sameSides_ev (x y : S65) (hx : smL2 x) : Ev (fun k => impl_sameSides.f k x.f0 x.f1 x.f2 y.f0 y.f1 y.f2) (sidesT2 x y) := by
  simp only [impl_sameSides.f, sidesT2]
  have e1 := impl_Equal_ev x.f1 y.f1 hx.1
  have e2 := impl_Equal_ev x.f2 y.f2 hx.2
  have e3 := impl_Equal_ev x.f1 y.f2 hx.1
  have e4 := impl_Equal_ev x.f2 y.f1 hx.2
  refine Ev.bnd e1 ?_
  by_cases g1 : x.f1 = y.f1
  · refine Ev.pos (decide_eq_true g1) (Ev.bnd e2 ?_)
    by_cases g2 : x.f2 = y.f2
    · exact Ev.pos (decide_eq_true g2) (Ev.eq (Ev.ret _) (by rw [decide_eq_true g1, decide_eq_true g2]; rfl))
    · refine Ev.neg (by rw [decide_eq_false g2]; simp) (Ev.bnd e3 ?_)
      by_cases g3 : x.f1 = y.f2
      · exact Ev.pos (decide_eq_true g3) (Ev.bnd e4 (Ev.eq (Ev.ret _) (by rw [decide_eq_false g2, decide_eq_true g3, Bool.and_false, Bool.false_or, Bool.true_and])))
      · exact Ev.neg (by rw [decide_eq_false g3]; simp) (Ev.eq (Ev.ret _) (by rw [decide_eq_false g2, decide_eq_false g3, Bool.and_false, Bool.false_and]; rfl))
  · refine Ev.neg (by rw [decide_eq_false g1]; simp) (Ev.bnd e3 ?_)
    by_cases g3 : x.f1 = y.f2
    · exact Ev.pos (decide_eq_true g3) (Ev.bnd e4 (Ev.eq (Ev.ret _) (by rw [decide_eq_false g1, decide_eq_true g3, Bool.false_and, Bool.false_or, Bool.true_and])))
    · exact Ev.neg (by rw [decide_eq_false g3]; simp) (Ev.eq (Ev.ret _) (by rw [decide_eq_false g1, decide_eq_false g3, Bool.false_and, Bool.false_and]; rfl))
theorem anyO_ev2 {α : Type} (f : Nat → α → Option Bool) (p : α → Bool) (l : List α) (h : ∀ x ∈ l, Ev (fun k => f k x) (p x)) : Ev (fun k => anyO (fun x => f k x) l) (l.any p) := by
  have := anyO_ev f (fun x => !p x) l (fun x hx => Ev.eq (h x hx) (by simp))
  refine Ev.eq this ?_
  rw [List.any_eq_not_all_not]

/-! A clause in memory of its own. -/
theorem own_eqB (l : List Int) (h : l.length ≤ 1048576) : spec_l1Own.f l = some l := by
  unfold spec_l1Own.f
  rw [Option.bind_some, if_pos (by simp; omega), List.nil_append]
theorem l4Own_l0 (post : List S65) : ∀ pre : List S65, (pre ++ post).length ≤ 1048576 → (∀ x ∈ post, smLit x) → Ev (fun k => spec_l4Own.l0 k pre (pre ++ post) ((pre ++ post).length : Int) (pre.length : Int)) (pre ++ post) := by
  induction post with
  | nil =>
    intro pre hl hk
    refine Ev.succ ?_
    simp only [spec_l4Own.l0]
    exact Ev.neg (by simp) (Ev.eq (Ev.ret _) (by simp))
  | cons x post ih =>
    intro pre hl hk
    have hx := hk x (by simp)
    unfold smLit at hx
    have h := ih (pre ++ [x]) (by simpa using hl) (fun y hy => hk y (by simp [hy]))
    simp only [List.length_append, List.length_cons] at hl
    refine Ev.succ ?_
    simp only [spec_l4Own.l0]
    rw [w64 (x := (pre.length : Int) + 1) (by omega) (by omega), rdLB_mid]
    refine Ev.pos (by simp only [List.length_append, List.length_cons]; omega) (Ev.pos (by omega) (Ev.pos (by simp only [List.length_append, List.length_cons]; omega) (Ev.bnd1 (own_eqB x.f1 (by omega)) (Ev.bnd1 (own_eqB x.f2 (by omega)) (Ev.pos (by omega) ?_)))))
    simpa using h
theorem l4Own_ev (l : List S65) (hl : l.length ≤ 1048576) (hk : ∀ x ∈ l, smLit x) : Ev (fun k => spec_l4Own.f k l) l := by
  simp only [spec_l4Own.f]
  simpa using l4Own_l0 l [] (by simpa using hl) hk

/-! The tidied clause. -/
def sameLit (x y : S65) : Bool := (x.f0 == y.f0) && sidesT2 x y
def dropLit (acc : List S65) (x : S65) : Bool := (!x.f0 && decide (x.f1 = x.f2)) || acc.any (sameLit x)
def tidT : List S65 → List S65 → List S65
  | acc, [] => acc
  | acc, x :: t => if dropLit acc x = true then tidT acc t else tidT (acc ++ [x]) t
theorem l4any_ev (x : S65) (hx : smL2 x) (l : List S65) : ∀ b, Ev (fun k => l4any k x l b) (b || l.any (sameLit x)) := by
  induction l with
  | nil => intro b; exact Ev.eq (Ev.ret _) (by simp)
  | cons y t ih =>
    intro b
    simp only [l4any]
    cases b with
    | true => exact Ev.pos rfl (Ev.eq (ih true) (by simp))
    | false =>
      refine Ev.neg (by simp) ?_
      by_cases g : (x.f0 == y.f0) = true
      · refine Ev.pos g (Ev.bnd (spec_sameTerms_ev x y hx) (Ev.eq (ih _) ?_))
        rw [List.any_cons, sameLit, g, Bool.true_and, Bool.false_or]
      · refine Ev.neg g (Ev.eq (ih false) ?_)
        rw [List.any_cons, sameLit, Bool.eq_false_iff.2 g, Bool.false_and, Bool.false_or, Bool.false_or]
theorem impl_tidy_any_ev (x : S65) (hx : smL2 x) (l : List S65) : Ev (fun k => impl_tidy_1_any.f k l x.f0 x.f1 x.f2) (l.any (sameLit x)) := by
  simp only [impl_tidy_1_any.f]
  refine anyO_ev2 _ _ _ (fun y _ => ?_)
  simp only [impl_tidy_1.f]
  by_cases g : (x.f0 == y.f0) = true
  · exact Ev.pos g (Ev.bnd (impl_sameSides_ev x y hx) (Ev.eq (Ev.ret _) (by rw [sameLit, g, Bool.true_and])))
  · exact Ev.neg g (Ev.eq (Ev.ret _) (by rw [sameLit, Bool.eq_false_iff.2 g, Bool.false_and]))
theorem l4tid_ev (l : List S65) (hl : ∀ x ∈ l, smL2 x) : ∀ acc, Ev (fun k => l4tid k acc l) (tidT acc l) := by
  induction l with
  | nil => intro acc; exact Ev.ret _
  | cons x t ih =>
    intro acc
    have hx := hl x (by simp)
    have ih := ih (fun y hy => hl y (by simp [hy]))
    simp only [l4tid, tidT]
    have hs : Ev (fun k => if x.f0 = true then some false else spec_l1Same.f k x.f1 x.f2) (!x.f0 && decide (x.f1 = x.f2)) := by
      by_cases g : x.f0 = true
      · exact Ev.pos g (Ev.eq (Ev.ret _) (by rw [g]; rfl))
      · exact Ev.neg g (Ev.eq (spec_l1Same_ev x.f1 x.f2 hx.1) (by rw [Bool.eq_false_iff.2 g]; rfl))
    refine Ev.bnd hs ?_
    by_cases g : (!x.f0 && decide (x.f1 = x.f2)) = true
    · exact Ev.pos g (Ev.eq (ih acc) (by rw [if_pos (show dropLit acc x = true by unfold dropLit; rw [g, Bool.true_or])]))
    · refine Ev.neg g (Ev.bnd (l4any_ev x hx acc false) ?_)
      rw [Bool.false_or]
      by_cases g2 : acc.any (sameLit x) = true
      · exact Ev.pos g2 (Ev.eq (ih acc) (by rw [if_pos (show dropLit acc x = true by unfold dropLit; rw [g2, Bool.or_true])]))
      · exact Ev.neg g2 (Ev.eq (ih _) (by rw [if_neg (show ¬ dropLit acc x = true by unfold dropLit; rw [Bool.eq_false_iff.2 g, Bool.eq_false_iff.2 g2]; simp)]))
theorem tidI_ev (l : List S65) (hl : ∀ x ∈ l, smL2 x) : ∀ acc, Ev (fun k => tidI k acc l) (tidT acc l) := by
  induction l with
  | nil => intro acc; exact Ev.ret _
  | cons x t ih =>
    intro acc
    have hx := hl x (by simp)
    have ih := ih (fun y hy => hl y (by simp [hy]))
    simp only [tidI, tidT]
    have hs : Ev (fun k => if x.f0 = true then some false else slices_Equal_int_int.f k x.f1 x.f2) (!x.f0 && decide (x.f1 = x.f2)) := by
      by_cases g : x.f0 = true
      · exact Ev.pos g (Ev.eq (Ev.ret _) (by rw [g]; rfl))
      · exact Ev.neg g (Ev.eq (impl_Equal_ev x.f1 x.f2 hx.1) (by rw [Bool.eq_false_iff.2 g]; rfl))
    refine Ev.bnd hs ?_
    by_cases g : (!x.f0 && decide (x.f1 = x.f2)) = true
    · exact Ev.pos g (Ev.eq (ih acc) (by rw [if_pos (show dropLit acc x = true by unfold dropLit; rw [g, Bool.true_or])]))
    · refine Ev.neg g (Ev.bnd (impl_tidy_any_ev x hx acc) ?_)
      by_cases g2 : acc.any (sameLit x) = true
      · exact Ev.pos g2 (Ev.eq (ih acc) (by rw [if_pos (show dropLit acc x = true by unfold dropLit; rw [g2, Bool.or_true])]))
      · refine Ev.neg g2 (Ev.bnd1 (a := (x.f0, x.f1, x.f2)) ?_ (Ev.eq (ih _) (by rw [if_neg (show ¬ dropLit acc x = true by unfold dropLit; rw [Bool.eq_false_iff.2 g, Bool.eq_false_iff.2 g2]; simp)])))
        simp only [impl_copyLit.f, slices_Clone_int_int_83.f]
        rw [if_pos (by have := hx.1; omega), if_pos (by have := hx.2; omega)]
        rfl
theorem tidT_mem (l : List S65) : ∀ acc, ∀ y ∈ tidT acc l, y ∈ acc ∨ y ∈ l := by
  induction l with
  | nil => intro acc y h; exact .inl h
  | cons x t ih =>
    intro acc y h
    rw [tidT] at h
    split at h
    · rcases ih acc y h with h | h
      · exact .inl h
      · exact .inr (List.mem_cons_of_mem _ h)
    · rcases ih _ y h with h | h
      · rcases List.mem_append.1 h with h | h
        · exact .inl h
        · rw [List.mem_singleton] at h; exact .inr (by simp [h])
      · exact .inr (List.mem_cons_of_mem _ h)
theorem tidT_len (l : List S65) : ∀ acc, (tidT acc l).length ≤ acc.length + l.length := by
  induction l with
  | nil => intro acc; exact Nat.le_refl _
  | cons x t ih =>
    intro acc
    rw [tidT]
    split
    · have := ih acc; simp only [List.length_cons]; omega
    · have := ih (acc ++ [x]); simp only [List.length_append, List.length_cons, List.length_nil] at this ⊢; omega
theorem spec_tidy_ev (l : List S65) (h1 : l.length ≤ 1048576) (hl : ∀ x ∈ l, smL2 x) : Ev (fun k => spec_l4Tidy.f k l) (tidT [] l) := by
  simp only [spec_l4Tidy.f]
  refine Ev.pos h1 (Ev.bnd (l4tid_ev l hl []) (l4Own_ev _ (by have := tidT_len l []; simp only [List.length_nil] at this; omega) (fun y hy => ?_)))
  have := (tidT_mem l [] y hy).resolve_left (by simp)
  have := hl y this
  unfold smL2 at this
  unfold smLit
  omega
theorem impl_tidy_ev (l : List S65) (h1 : l.length ≤ 1048576) (hl : ∀ x ∈ l, smL2 x) : Ev (fun k => impl_tidy.f k l) (tidT [] l) := by
  simp only [impl_tidy.f]
  exact Ev.pos h1 (tidI_ev l hl [])

/-! Normal clauses. -/
theorem w_add (a b : Int) : wrap64 (wrap64 a + b) = wrap64 (a + b) := by unfold wrap64; omega
theorem w_add2 (a b : Int) : wrap64 (wrap64 a + wrap64 b) = wrap64 (a + b) := by unfold wrap64; omega
theorem isLit_mk {s : List Int} {x : S65} (h1 : isTerm s x.f1 = true) (h2 : isTerm s x.f2 = true) : isLit s x = true := by
  unfold isLit
  rw [h1, h2]; rfl
theorem isClause_mk {s : List Int} {c : List S65} (h1 : c.length ≤ 8) (h2 : ∀ x ∈ c, isLit s x = true) : isClause s c = true := by
  unfold isClause
  rw [decide_eq_true h1, List.all_eq_true.2 h2]; rfl
theorem nc_ev (s : List Int) (hs : goodSign s = true) (u : List S65) (hu : areUnits s u = true) (c : List S65) : (∀ x ∈ c, isLit s x = true) →
    ∃ (d : List S65) (n : Int), (d.length = c.length ∧ d.map (fun x => x.f0) = c.map (fun x => x.f0)) ∧ (∀ x ∈ d, isLit s x = true) ∧
      (∀ a : Int, Ev (fun k => nrmL k s u (flatT c) (wrap64 a)) (flatT d, wrap64 (a + n))) ∧
      ∀ (pre out : List S65) (a : Int) (R : List S65 × Int), out.length = pre.length → (pre ++ c).length ≤ 1000000 → Ev (fun k => spec_l7Clause.l0 k u (out ++ d) (wrap64 (a + n)) (pre ++ c) ((pre ++ c).length : Int) ((pre ++ c).length : Int) s) R →
        Ev (fun k => spec_l7Clause.l0 k u out (wrap64 a) (pre ++ c) ((pre ++ c).length : Int) (pre.length : Int) s) R := by
  induction c with
  | nil =>
    intro _
    refine ⟨[], 0, ⟨rfl, rfl⟩, by simp, fun a => ?_, fun pre out a R _ _ h => ?_⟩
    · simp only [flatT, nrmL, Int.add_zero]
      exact Ev.ret _
    · simpa using h
  | cons x c ih =>
    intro hc
    obtain ⟨d, n, ⟨g1, g2⟩, g3, g4, g5⟩ := ih (fun y hy => hc y (by simp [hy]))
    obtain ⟨t1, t2⟩ := isLit_of (hc x (by simp))
    obtain ⟨p, p1, p2, p3⟩ := normal_f_ev s hs u hu x.f1 t1
    obtain ⟨q, q1, q2, q3⟩ := normal_f_ev s hs u hu x.f2 t2
    refine ⟨⟨x.f0, p.1, q.1⟩ :: d, p.2 + q.2 + n, ⟨by simp [g1], by simp [g2]⟩, fun y hy => ?_, fun a => ?_, fun pre out a R ho hl h => ?_⟩
    · rcases List.mem_cons.1 hy with rfl | hy
      · exact isLit_mk p1 q1
      · exact g3 y hy
    · simp only [flatT, nrmL]
      have h := g4 (a + p.2 + q.2)
      rw [show a + p.2 + q.2 + n = a + (p.2 + q.2 + n) by omega] at h
      refine Ev.bnd p3 (Ev.bnd (a := (q.1 :: flatT d, wrap64 (a + (p.2 + q.2 + n)))) ?_ (Ev.ret _))
      rw [w_add]
      refine Ev.bnd q3 ?_
      rw [w_add]
      exact Ev.bnd h (Ev.ret _)
    · have hpp : pre ++ x :: c = (pre ++ [x]) ++ c := by simp
      have h2 := g5 (pre ++ [x]) (out ++ [⟨x.f0, p.1, q.1⟩]) (a + p.2 + q.2) R (by simp [ho]) (by rw [← hpp]; exact hl) (by
        rw [← hpp, show a + p.2 + q.2 + n = a + (p.2 + q.2 + n) by omega]
        simpa using h)
      rw [← hpp] at h2
      simp only [List.length_append, List.length_cons] at hl
      refine Ev.succ ?_
      simp only [spec_l7Clause.l0]
      rw [rdLB_mid, w64 (x := (pre.length : Int) + 1) (by omega) (by omega)]
      simp only [w_add2]
      refine Ev.pos (by simp only [List.length_append, List.length_cons]; omega) (Ev.pos (by omega) (Ev.pos (by simp only [List.length_append, List.length_cons]; omega) (Ev.bnd p2 (Ev.bnd q2 (Ev.pos (by omega) ?_)))))
      rw [show a + (p.2 + q.2) = a + p.2 + q.2 by omega]
      simpa using h2
theorem rdL2_at (pre : List (List Int)) (x : List Int) (post : List (List Int)) (i : Int) (h : i = (pre.length : Int)) : rd_L2 (pre ++ x :: post) i = x := by
  rw [h]; exact rdL2_mid9 pre x post
theorem flat_app (a b : List S65) : flatT (a ++ b) = flatT a ++ flatT b := by
  induction a with
  | nil => rfl
  | cons x a ih => simp [flatT, ih]
theorem zip_flat (c d : List S65) (h : d.map (fun x => x.f0) = c.map (fun x => x.f0)) (n : Nat) : n ≤ d.length → zipN c (flatT d) n = d.take n := by
  have hl : d.length = c.length := by have := congrArg List.length h; simpa using this
  induction n with
  | zero => intro _; rfl
  | succ n ih =>
    intro hn
    have hd : n < d.length := hn
    have hc : n < c.length := by omega
    have e : d = d.take n ++ d[n] :: d.drop (n + 1) := by rw [← List.drop_eq_getElem_cons hd, List.take_append_drop]
    have ef : flatT d = flatT (d.take n) ++ d[n].f1 :: d[n].f2 :: flatT (d.drop (n + 1)) := (congrArg flatT e).trans (by rw [flat_app]; rfl)
    have hf : (flatT (d.take n)).length = 2 * n := by rw [flat_len, List.length_take]; omega
    have r1 : rd_L2 (flatT d) (2 * n : Int) = d[n].f1 := by
      rw [ef]; exact rdL2_at _ _ _ _ (by rw [hf]; omega)
    have r2 : rd_L2 (flatT d) (2 * n + 1 : Int) = d[n].f2 := by
      rw [ef, show flatT (d.take n) ++ d[n].f1 :: d[n].f2 :: flatT (d.drop (n + 1)) = (flatT (d.take n) ++ [d[n].f1]) ++ d[n].f2 :: flatT (d.drop (n + 1)) by simp]
      exact rdL2_at _ _ _ _ (by rw [List.length_append, List.length_singleton, hf]; omega)
    have r0 : (rd_T65 c (n : Int)).f0 = d[n].f0 := by
      have e2 : c = c.take n ++ c[n] :: c.drop (n + 1) := by rw [← List.drop_eq_getElem_cons hc, List.take_append_drop]
      have e3 : rd_T65 c (n : Int) = c[n] := (congrArg (fun z => rd_T65 z (n : Int)) e2).trans (by
        have := rdLB_mid (c.take n) c[n] (c.drop (n + 1))
        rw [List.length_take, Nat.min_eq_left (by omega)] at this
        exact this)
      rw [e3]
      have h4 : (d.map (fun x => x.f0))[n]? = (c.map (fun x => x.f0))[n]? := by rw [h]
      rw [List.getElem?_map, List.getElem?_map, List.getElem?_eq_getElem hd, List.getElem?_eq_getElem hc] at h4
      exact (Option.some.inj h4).symm
    rw [zipN, ih (by omega), r0, r1, r2, List.take_add_one, List.getElem?_eq_getElem hd]
    rfl
theorem lit_wf {s : List Int} (hs : goodSign s = true) {x : S65} (h : isLit s x = true) : wfLit x := by
  have hl := goodSign_len hs
  obtain ⟨t1, t2⟩ := isLit_of h
  have e1 := (isTerm_of t1).2
  have e2 := (isTerm_of t2).2
  refine ⟨fun n hn => ?_, fun n hn => ?_⟩
  · have := eat_tok s _ 1 e1 n hn
    unfold tok at this
    rw [decide_eq_true_eq] at this
    omega
  · have := eat_tok s _ 1 e2 n hn
    unfold tok at this
    rw [decide_eq_true_eq] at this
    omega
theorem isClause_tid {s : List Int} {d : List S65} (h : isClause s d = true) : isClause s (tidT [] d) = true := by
  obtain ⟨h1, h2⟩ := isClause_of h
  refine isClause_mk ?_ (fun y hy => h2 y ((tidT_mem d [] y hy).resolve_left (by simp)))
  have := tidT_len d []
  simp only [List.length_nil] at this
  omega
theorem isClause_sm {s : List Int} {d : List S65} (h : isClause s d = true) : ∀ x ∈ d, smL2 x := fun x hx => by
  obtain ⟨t1, t2⟩ := isLit_of ((isClause_of h).2 x hx)
  have := (isTerm_of t1).1
  have := (isTerm_of t2).1
  exact ⟨by omega, by omega⟩
theorem out_ev {s : List Int} {d : List S65} (h : isClause s d = true) : Ev (fun k => spec_l6Out.f k d) (renT (tidT [] d)) := by
  have hl := (isClause_of h).1
  simp only [spec_l6Out.f]
  exact Ev.bnd (spec_tidy_ev d (by omega) (isClause_sm h)) (Ev.bnd (spec_ren_ev (isClause_tid h)) (Ev.ret _))
theorem concluded_ev {s : List Int} (hs : goodSign s = true) {d : List S65} (h : isClause s d = true) : Ev (fun k => impl_concluded.f k d) (renT (tidT [] d)) := by
  have hl := (isClause_of h).1
  have ht := isClause_of (isClause_tid h)
  simp only [impl_concluded.f]
  refine Ev.bnd (impl_tidy_ev d (by omega) (isClause_sm h)) (Ev.bnd1 (a := flatT (tidT [] d)) (by unfold impl_termsOf.f; rw [if_pos (by omega)]) (Ev.bnd1 (impl_rename_eq (flatT (tidT [] d)) (by rw [flat_len]; omega) (fun t hm => ?_)) (Ev.pos (by rw [rnL_len, flat_len]) (Ev.ret _))))
  obtain ⟨x, hx, e⟩ := flat_mem _ t hm
  have w := lit_wf hs (ht.2 x hx)
  obtain ⟨t1, t2⟩ := isLit_of (ht.2 x hx)
  have := (isTerm_of t1).1
  have := (isTerm_of t2).1
  rcases e with rfl | rfl
  · exact ⟨by omega, w.1⟩
  · exact ⟨by omega, w.2⟩
theorem normClause_ev (s : List Int) (hs : goodSign s = true) (u : List S65) (hu : areUnits s u = true) (c : List S65) (hc : isClause s c = true) :
    ∃ r : List S65 × Int, (r.1.length ≤ 1048576 ∧ ∀ x ∈ r.1, smLit x) ∧ Ev (fun k => spec_l7Clause.f k s c u) r ∧ Ev (fun k => impl_Sign_normalClause.f k s c u) r := by
  obtain ⟨h1, h2⟩ := isClause_of hc
  obtain ⟨d, n, ⟨g1, g2⟩, g3, g4, g5⟩ := nc_ev s hs u hu c h2
  have hd : isClause s d = true := isClause_mk (by omega) g3
  have ho := out_ev hd
  have hi := concluded_ev hs hd
  have ht := isClause_tid hd
  have hw : wrap64 0 = 0 := by unfold wrap64; omega
  refine ⟨(renT (tidT [] d), wrap64 (0 + n)), ⟨?_, fun x hx => ?_⟩, ?_, ?_⟩
  · have := (isClause_of ht).1
    show (renT (tidT [] d)).length ≤ 1048576
    rw [ren_len]; omega
  · have := ren_small ht x hx
    exact ⟨by omega, by omega⟩
  · simp only [spec_l7Clause.f]
    have h := g5 [] [] 0 (renT (tidT [] d), wrap64 (0 + n)) rfl (by simp only [List.nil_append]; omega) (by
      refine Ev.succ ?_
      simp only [spec_l7Clause.l0, List.nil_append]
      exact Ev.neg (by omega) (Ev.bnd ho (Ev.ret _)))
    rw [hw] at h
    simpa using h
  · simp only [impl_Sign_normalClause.f]
    have h : Ev (fun k => nrmL k s u (flatT c) 0) (flatT d, wrap64 (0 + n)) := by have h := g4 0; rwa [hw] at h
    refine Ev.bnd1 (a := flatT c) (by unfold impl_termsOf.f; rw [if_pos (by omega)]) (Ev.bnd h (Ev.bnd (impl_withTerms_ev c (flatT d) (by omega) (by rw [flat_len, g1])) ?_))
    rw [zip_flat c d g2 c.length (by omega), List.take_of_length_le (by omega)]
    exact Ev.bnd hi (Ev.ret _)
theorem NormalClause_ex (s : List Int) (hs : s.length ≤ 1048576) (c : List S65) (hl0 : c.length ≤ 1048576) (hk0 : ∀ x ∈ c, smLit x) (l : List S65) (hl : l.length ≤ 1048576) (hk : ∀ x ∈ l, smLit x) :
    ∃ r : List S65 × Int × Bool, (r.1.length ≤ 1048576 ∧ ∀ x ∈ r.1, smLit x) ∧ Ev (fun k => spec_NormalClause.f k s c l) r ∧ Ev (fun k => impl_NormalClause.f k s c l) r := by
  have g1 := spec_GoodClause_ev s hs c hl0
  have g2 := impl_GoodClause_ev s c
  by_cases g : goodClause s c = true
  · have g' := g
    unfold goodClause at g'
    rw [Bool.and_eq_true] at g'
    obtain ⟨gs, gc⟩ := g'
    have u1 := spec_l7Units_ev s gs l hl
    have u2 := impl_areUnits_ev s gs l
    rw [g] at g1 g2
    by_cases u : areUnits s l = true
    · rw [u] at u1 u2
      obtain ⟨r, h1, h2, h3⟩ := normClause_ev s gs l u c gc
      refine ⟨(r.1, r.2, true), h1, ?_, ?_⟩
      · simp only [spec_NormalClause.f]
        exact Ev.bnd g1 (Ev.pos rfl (Ev.bnd u1 (Ev.pos rfl (Ev.bnd h2 (Ev.ret _)))))
      · simp only [impl_NormalClause.f]
        exact Ev.bnd g2 (Ev.pos rfl (Ev.bnd u2 (Ev.pos rfl (Ev.bnd h3 (Ev.ret _)))))
    · refine ⟨([], 0, false), ⟨by simp, by simp⟩, ?_, ?_⟩
      · simp only [spec_NormalClause.f]
        exact Ev.bnd g1 (Ev.pos rfl (Ev.bnd u1 (Ev.neg u (Ev.ret _))))
      · simp only [impl_NormalClause.f]
        exact Ev.bnd g2 (Ev.pos rfl (Ev.bnd u2 (Ev.neg u (Ev.ret _))))
  · refine ⟨([], 0, false), ⟨by simp, by simp⟩, ?_, ?_⟩
    · simp only [spec_NormalClause.f]
      exact Ev.bnd g1 (Ev.neg g (Ev.ret _))
    · simp only [impl_NormalClause.f]
      exact Ev.bnd g2 (Ev.neg g (Ev.ret _))

theorem FnExactNormalClause : laws_FnExactNormalClause.Pure := by
  intro l0 l1 l2 h0 h1 h2
  have hm : (maxLen : Nat) ≤ 9223372036854775807 := by unfold maxLen; omega
  have hs0 : l0.length ≤ 9223372036854775807 := by have := h0.1; omega
  have hs1 : l1.length ≤ 9223372036854775807 := by have := h1.1; omega
  have hok1 : ∀ x ∈ l1, okLitA x := fun x hx => by
    obtain ⟨_, f1, f2⟩ := h1.2 x hx
    exact ⟨by have := f1.1; omega, by have := f2.1; omega⟩
  have hs2 : l2.length ≤ 9223372036854775807 := by have := h2.1; omega
  have hok2 : ∀ x ∈ l2, okLitA x := fun x hx => by
    obtain ⟨_, f1, f2⟩ := h2.2 x hx
    exact ⟨by have := f1.1; omega, by have := f2.1; omega⟩
  clear h0 h1 h2 hm
  suffices hF : ∃ k, laws_FnExactNormalClause.Facts k l0 l1 l2 by
    obtain ⟨k, h⟩ := hF
    exact ⟨k, laws_FnExactNormalClause.f_of h⟩
  have hz0 := szSign_eq l0 1048576 (by omega) (by omega) hs0
  by_cases g0 : (l0.length : Int) ≤ 1048576
  rotate_left
  · exact ⟨0, ⟨-1, by rw [hz0, if_neg g0], .inl (by omega)⟩⟩
  rw [if_pos g0] at hz0
  have hb0 : l0.length ≤ 1048576 := by omega
  obtain ⟨z1, hz1, hzr1, hzk1⟩ := szLitS_ev l1 (1048576 - (l0.length : Int)) (by omega) (by omega) hs1 hok1
  by_cases g1 : z1 < 0
  · obtain ⟨k, ehz1⟩ := (Evp.of hz1).some
    exact ⟨k, ⟨_, hz0, .inr ⟨by omega, ⟨_, ehz1, .inl g1⟩⟩⟩⟩
  obtain ⟨hb1, hkA1⟩ := hzk1 (by omega)
  have hl1 : (l1.map cvLit).length ≤ 1048576 := by rw [List.length_map]; exact hb1
  have hk1 := cvLit_sm hkA1
  obtain ⟨z2, hz2, hzr2, hzk2⟩ := szLitS_ev l2 z1 (by omega) (by omega) hs2 hok2
  by_cases g2 : z2 < 0
  · obtain ⟨k, ⟨ehz1, ehz2⟩⟩ := (Evp.and (Evp.of hz1) (Evp.of hz2)).some
    exact ⟨k, ⟨_, hz0, .inr ⟨by omega, ⟨_, ehz1, .inr ⟨by omega, ⟨_, ehz2, .inl g2⟩⟩⟩⟩⟩⟩
  obtain ⟨hb2, hkA2⟩ := hzk2 (by omega)
  have hl2 : (l2.map cvLit).length ≤ 1048576 := by rw [List.length_map]; exact hb2
  have hk2 := cvLit_sm hkA2
  obtain ⟨⟨r0, r1, r2⟩, hlen, es, ei⟩ := NormalClause_ex l0 hb0 (l1.map cvLit) hl1 hk1 (l2.map cvLit) hl2 hk2
  simp only at hlen
  have hT1 := ltot_le (l1.map cvLit) hl1 hk1
  have hT2 := ltot_le (l2.map cvLit) hl2 hk2
  have hT9 := ltot_le r0 hlen.1 hlen.2
  obtain ⟨k, ehz1, ehz2, t0, t1, t2, es, ei, q0, q0_, q1_, q2_, k0_, mi, hi⟩ := (Evp.and (Evp.of hz1) (Evp.and (Evp.of hz2) (Evp.and (Evp.of (toSign_ev l0 hb0)) (Evp.and (Evp.of (toLitS_ev l1 hb1 hkA1)) (Evp.and (Evp.of (toLitS_ev l2 hb2 hkA2)) (Evp.and (Evp.of es) (Evp.and (Evp.of ei) (Evp.and (Evp.of (eqLitS_self r0 hlen.1 hlen.2)) (Evp.and (Evp.of (eqSign_self l0 hb0)) (Evp.and (Evp.of (eqLitS_self _ hl1 hk1)) (Evp.and (Evp.of (eqLitS_self _ hl2 hk2)) (Evp.and (Evp.of (markSign_ev l0 1 (by omega) (by omega) (by omega))) (Evp.and (Evp.of (mkLS_ev r0 1 (by omega) (by omega) hlen.2)) (Evp.of (heldLitS_ev r0 1 (by omega) (by omega) hlen.1 hlen.2))))))))))))))).some
  exact ⟨k, ⟨_, hz0, .inr ⟨by omega, ⟨_, ehz1, .inr ⟨by omega, ⟨_, ehz2, .inr ⟨by omega, ⟨(l1.map cvLit), (l2.map cvLit), r0, r1, r2, (1 + (l0.length : Int)), ((1 + (l0.length : Int)) + ltot (l1.map cvLit)), (((1 + (l0.length : Int)) + ltot (l1.map cvLit)) + ltot (l2.map cvLit)), _, _, _, ⟨t0, t1, t2, es, ei, q0, q0_, q1_, q2_, (by omega), k0_, (by omega), ⟨⟨by omega, rfl, by omega⟩, okMarkL_of (l1.map cvLit) hk1, by omega⟩, (by omega), ⟨⟨by omega, rfl, by omega⟩, okMarkL_of (l2.map cvLit) hk2, by omega⟩, mi, hi, (by omega)⟩⟩⟩⟩⟩⟩⟩⟩⟩

end Go.Proofs.Ytlgnanbnicmdaab.Pure
