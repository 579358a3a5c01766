/- The program's SameClause returns what the reference's returns, for all arguments.
Conditions: none beyond what the row itself says. -/
import Derived.Test.YtlgnanbnicmdaaaQFnExactSameClausex11
namespace Go.Proofs.Ytlgnanbnicmdaaa.Pure
open Go.RowKit Go.Proofs.Ytlgnanbnicmdaaa.QFnExactSameClause Go.Proofs.YtlgnanbnicmdaaaW.PrintWords Go.Proofs.YtlgnanbnicmdaaaW.PrintLast Go.Proofs.YtlgnanbnicmdaaaW.PrintMore
set_option linter.unusedVariables false
set_option linter.unusedSimpArgs false

theorem w64 {x : Int} (h0 : -9223372036854775808 ≤ x) (h1 : x ≤ 9223372036854775807) : wrap64 x = x := by
  unfold wrap64; omega
theorem wf64 {a : Int} (h : (Lit.int .i64 a).wf = true) : -9223372036854775808 ≤ a ∧ a ≤ 9223372036854775807 := by
  simp only [Lit.wf, IntKind.min, IntKind.max, IntKind.signed, IntKind.bits, Bool.and_eq_true, decide_eq_true_eq, if_true] at h
  omega

theorem Ev.succ {α : Type} {g : Nat → Option α} {r : α} (h : Ev (fun k => g (k + 1)) r) : Ev g r := Ev.step (fun _ => rfl) h
theorem Ev.pos {α : Type} {c : Prop} [Decidable c] {a b : Nat → Option α} {r : α} (h : c) (e : Ev (fun k => a k) r) : Ev (fun k => if c then a k else b k) r := Ev.congr (fun _ => if_pos h) e
theorem Ev.neg {α : Type} {c : Prop} [Decidable c] {a b : Nat → Option α} {r : α} (h : ¬ c) (e : Ev (fun k => b k) r) : Ev (fun k => if c then a k else b k) r := Ev.congr (fun _ => if_neg h) e
theorem Ev.bnd {α β : Type} {g : Nat → Option α} {f : Nat → α → Option β} {a : α} {r : β} (h : Ev (fun k => g k) a) (k : Ev (fun n => f n a) r) : Ev (fun n => (g n).bind (fun x => f n x)) r := Ev.bind h k
theorem Ev.bnd1 {α β : Type} {g : Option α} {f : Nat → α → Option β} {a : α} {r : β} (h : g = some a) (k : Ev (fun n => f n a) r) : Ev (fun n => g.bind (fun x => f n x)) r := by
  rw [h]; exact k
theorem Ev.ret {α : Type} (r : α) : Ev (fun _ => some r) r := Ev.now r
theorem Ev.eq {α : Type} {g : Nat → Option α} {r r' : α} (h : Ev g r) (e : r = r') : Ev g r' := e ▸ h
theorem Ev.all {α : Type} {g : Nat → Option α} {r : α} (h : Ev (fun k => g k) r) : ∃ k, g k = some r := h.rounds
theorem rd_mid (pre : List Int) (x : Int) (post : List Int) : rd (pre ++ x :: post) (pre.length : Int) = x := by
  unfold rd; simp
theorem rd_nat (xs : List Int) (i : Nat) (h : i < xs.length) : rd xs (i : Int) = xs[i] := by
  unfold rd; simp [List.getD_eq_getElem?_getD, List.getElem?_eq_getElem h]

theorem toIntS_l0 (post : List Int) : ∀ (pre rest : List Int), rest.length = post.length → (pre ++ post).length ≤ 140737488351232 → Ev (fun k => laws_toIntS.l0 k (pre ++ post) (pre ++ rest) (pre.length : Int)) (pre ++ post) := by
  induction post with
  | nil =>
    intro pre rest hr hl
    obtain rfl : rest = [] := List.eq_nil_of_length_eq_zero hr
    refine Ev.succ ?_
    simp only [laws_toIntS.l0]
    exact Ev.neg (by simp) (Ev.ret _)
  | cons x post ih =>
    intro pre rest hr hl
    obtain ⟨y, rest, rfl⟩ : ∃ y t, rest = y :: t := by cases rest with | nil => simp at hr | cons y t => exact ⟨y, t, rfl⟩
    have h := ih (pre ++ [x]) rest (by simpa using hr) (by simpa using hl)
    simp only [List.length_append, List.length_cons, List.length_nil] at hl hr h
    refine Ev.succ ?_
    simp only [laws_toIntS.l0, List.length_append, List.length_cons]
    refine Ev.pos (by omega) (Ev.pos (by omega) (Ev.pos (by omega) ?_))
    rw [rd_mid, w64 (by omega) (by omega)]
    have e : (pre ++ y :: rest).set ((pre.length : Int)).toNat x = pre ++ [x] ++ rest := by simp
    rw [e]
    simpa using h
theorem toIntS (l : List Int) (h : l.length * 8 ≤ 140737488351232) : Ev (fun k => laws_toIntS.f k l) l := by
  simp only [laws_toIntS.f]
  refine Ev.pos (by omega) (Ev.pos (by omega) ?_)
  have := toIntS_l0 l [] (List.replicate l.length 0) (by simp) (by simp; omega)
  simpa using this

theorem eqIntS_l0 (pa : List Int) : ∀ (pa' pb pb' : List Int), pa'.length = pb'.length → pa.length = pb.length → (pa' ++ pa).length ≤ 140737488351232 → Ev (fun k => laws_eqIntS.l0 k (pa' ++ pa) (pb' ++ pb) (pa'.length : Int)) (decide (pa = pb)) := by
  induction pa with
  | nil =>
    intro pa' pb pb' h1 h2 hl
    obtain rfl : pb = [] := List.eq_nil_of_length_eq_zero h2.symm
    refine Ev.succ ?_
    simp only [laws_eqIntS.l0]
    exact Ev.neg (by simp) (Ev.eq (Ev.ret _) (by simp))
  | cons x pa ih =>
    intro pa' pb pb' h1 h2 hl
    obtain ⟨y, pb, rfl⟩ : ∃ y t, pb = y :: t := by cases pb with | nil => simp at h2 | cons y t => exact ⟨y, t, rfl⟩
    have h := ih (pa' ++ [x]) pb (pb' ++ [y]) (by simpa using h1) (by simpa using h2) (by simpa using hl)
    simp only [List.length_append, List.length_cons, List.length_nil] at hl h2 h
    refine Ev.succ ?_
    simp only [laws_eqIntS.l0, List.length_append, List.length_cons]
    refine Ev.pos (by omega) (Ev.pos (by omega) (Ev.pos (by omega) ?_))
    rw [rd_mid, show (pa'.length : Int) = (pb'.length : Int) by omega, rd_mid]
    by_cases e : x = y
    · subst e
      refine Ev.pos rfl ?_
      rw [w64 (by omega) (by omega)]
      refine Ev.eq (Ev.congr (fun k => ?_) h) (by simp)
      simp [h1]
    · exact Ev.neg e (Ev.eq (Ev.ret _) (by simp [e]))
theorem eqIntS (a b : List Int) (h : a.length ≤ 140737488351232) : Ev (fun k => laws_eqIntS.f k a b) (decide (a = b)) := by
  simp only [laws_eqIntS.f]
  by_cases e : a.length = b.length
  · exact Ev.pos (by omega) (by simpa using eqIntS_l0 a [] b [] rfl e (by simpa using h))
  · exact Ev.neg (by omega) (Ev.eq (Ev.ret _) (by simp only [false_eq_decide_iff]; intro h; exact e (by rw [h])))
theorem eqIntS_self (a : List Int) (h : a.length ≤ 140737488351232) : Ev (fun k => laws_eqIntS.f k a a) true := Ev.eq (eqIntS a a h) (by simp)

theorem spec_in_eq (a lo hi : Int) : spec_l1In.f a lo hi = some (decide (lo ≤ a ∧ a ≤ hi)) := by
  unfold spec_l1In.f
  by_cases h1 : a ≥ lo
  · rw [if_pos h1]
    by_cases h2 : a ≤ hi
    · rw [decide_eq_true h2, decide_eq_true ⟨h1, h2⟩]
    · rw [decide_eq_false h2, decide_eq_false (fun h => h2 h.2)]
  · rw [if_neg h1, decide_eq_false (fun h => h1 h.1)]
def inAll (lo hi : Int) (l : List Int) : Bool := l.all fun x => decide (lo ≤ x ∧ x ≤ hi)
theorem spec_l1All_l0 (lo hi : Int) (post : List Int) : ∀ pre : List Int, (pre ++ post).length ≤ 140737488351232 → Ev (fun k => spec_l1All.l0 k lo hi (pre ++ post) ((pre ++ post).length : Int) (pre.length : Int)) (inAll lo hi post) := by
  induction post with
  | nil =>
    intro pre hl
    refine Ev.succ ?_
    simp only [spec_l1All.l0]
    exact Ev.neg (by simp) (Ev.ret _)
  | cons x post ih =>
    intro pre hl
    have h := ih (pre ++ [x]) (by simpa using hl)
    simp only [List.length_append, List.length_cons] at hl
    refine Ev.succ ?_
    simp only [spec_l1All.l0]
    refine Ev.pos (by simp only [List.length_append, List.length_cons]; omega) (Ev.pos (by omega) (Ev.pos (by simp only [List.length_append, List.length_cons]; omega) ?_))
    rw [rd_mid]
    refine Ev.bnd1 (spec_in_eq _ _ _) ?_
    by_cases hx : lo ≤ x ∧ x ≤ hi
    · rw [decide_eq_true hx]
      refine Ev.pos rfl ?_
      rw [w64 (by omega) (by omega)]
      refine Ev.eq (by simpa using h) ?_
      simp [inAll, hx]
    · rw [decide_eq_false hx]
      exact Ev.neg (by simp) (Ev.eq (Ev.ret _) (by simp only [inAll, List.all_cons, decide_eq_false hx, Bool.false_and]))
theorem spec_l1All_ev (lo hi : Int) (l : List Int) (hl : l.length ≤ 140737488351232) : Ev (fun k => spec_l1All.f k l lo hi) (inAll lo hi l) := by
  simp only [spec_l1All.f]
  simpa using spec_l1All_l0 lo hi l [] (by simpa using hl)
theorem inAll_mem {lo hi : Int} {l : List Int} (h : inAll lo hi l = true) : ∀ x ∈ l, lo ≤ x ∧ x ≤ hi := by
  intro x hx
  unfold inAll at h
  simpa using List.all_eq_true.1 h x hx

theorem anyO_not {α : Type} (f : α → Option Bool) (p : α → Bool) (l : List α) (h : ∀ x ∈ l, f x = some (!p x)) : anyO f l = some (!l.all p) := by
  induction l with
  | nil => rfl
  | cons x t ih =>
    simp only [anyO]
    rw [h x (by simp), Option.bind_some]
    cases hp : p x with
    | true => simp [hp, ih (fun y hy => h y (by simp [hy]))]
    | false => simp [hp]

def goodSign (s : List Int) : Bool := decide (1 ≤ s.length ∧ s.length ≤ 10) && (inAll 0 3 s && (rd s 0 == 0))
theorem goodSign_len {s : List Int} (h : goodSign s = true) : 1 ≤ s.length ∧ s.length ≤ 10 := by
  unfold goodSign at h
  simp only [Bool.and_eq_true, decide_eq_true_eq] at h
  exact h.1
theorem goodSign_mem {s : List Int} (h : goodSign s = true) : ∀ x ∈ s, 0 ≤ x ∧ x ≤ 3 := by
  unfold goodSign at h
  simp only [Bool.and_eq_true] at h
  exact inAll_mem h.2.1
theorem goodSign_rd {s : List Int} (h : goodSign s = true) (x : Int) (h0 : 0 ≤ x) (h1 : x < s.length) : 0 ≤ rd s x ∧ rd s x ≤ 3 := by
  obtain ⟨n, rfl⟩ : ∃ n : Nat, x = n := ⟨x.toNat, by omega⟩
  have hn : n < s.length := by omega
  rw [rd_nat s n hn]
  exact goodSign_mem h _ (List.getElem_mem hn)
theorem spec_GoodSign_ev (s : List Int) (hl : s.length ≤ 140737488351232) : Ev (fun k => spec_GoodSign.f k s) (goodSign s) := by
  simp only [spec_GoodSign.f]
  refine Ev.bnd1 (spec_in_eq _ _ _) ?_
  by_cases g : 1 ≤ s.length ∧ s.length ≤ 10
  · have g' : (1 : Int) ≤ (s.length : Int) ∧ (s.length : Int) ≤ 10 := by omega
    refine Ev.pos (decide_eq_true g') (Ev.bnd (spec_l1All_ev 0 3 s hl) ?_)
    unfold goodSign
    rw [decide_eq_true g, Bool.true_and]
    cases ha : inAll 0 3 s with
    | true => exact Ev.pos rfl (Ev.pos (by omega) (Ev.eq (Ev.ret _) rfl))
    | false => exact Ev.neg (by simp) (Ev.eq (Ev.ret _) rfl)
  · have g' : ¬ ((1 : Int) ≤ (s.length : Int) ∧ (s.length : Int) ≤ 10) := by omega
    refine Ev.neg (by rw [decide_eq_false g']; simp) (Ev.eq (Ev.ret _) ?_)
    unfold goodSign
    rw [decide_eq_false g, Bool.false_and]
theorem impl_GoodSign_any (s : List Int) : impl_GoodSign_1_any.f s = some (!inAll 0 3 s) := by
  unfold impl_GoodSign_1_any.f inAll
  refine anyO_not _ _ _ (fun x _ => ?_)
  unfold impl_GoodSign_1.f
  by_cases h1 : x < 0
  · rw [if_pos h1, decide_eq_false (by omega)]; rfl
  · rw [if_neg h1]
    by_cases h2 : x ≤ 3
    · rw [decide_eq_true (show 0 ≤ x ∧ x ≤ 3 by omega), decide_eq_false (by omega)]; rfl
    · rw [decide_eq_false (show ¬ (0 ≤ x ∧ x ≤ 3) by omega), decide_eq_true (by omega)]; rfl
theorem impl_GoodSign_eq (s : List Int) : impl_GoodSign.f s = some (goodSign s) := by
  unfold impl_GoodSign.f goodSign
  by_cases g : 1 ≤ s.length ∧ s.length ≤ 10
  · rw [if_neg (by omega), if_neg (by omega), if_pos (by omega), decide_eq_true g, Bool.true_and]
    by_cases e : rd s 0 = 0
    · rw [if_pos e, impl_GoodSign_any, e]; simp
    · rw [if_neg e]; simp [e]
  · rw [decide_eq_false g, Bool.false_and]
    by_cases h1 : (s.length : Int) < 1
    · rw [if_pos h1]
    · rw [if_neg h1, if_pos (by omega)]

/-! Terms in prefix form. -/
/-- How many arguments a token takes. -/
def ar (s : List Int) (x : Int) : Nat := if x < 0 then 0 else (rd s x).toNat
/-- Whether a number may stand in a term. -/
def tok (s : List Int) (x : Int) : Bool := decide (-12 ≤ x ∧ x < s.length)
/-- What is left of a row when so many terms are read off it. -/
def eat (s : List Int) : List Int → Nat → Option (List Int)
  | l, 0 => some l
  | [], _ + 1 => none
  | x :: l, n + 1 => if tok s x = true then eat s l (n + ar s x) else none
def isTerm (s : List Int) (l : List Int) : Bool := decide (1 ≤ l.length ∧ l.length ≤ 40) && (eat s l 1 == some [])
def goodTerm (s : List Int) (l : List Int) : Bool := goodSign s && isTerm s l
theorem ar_le {s : List Int} (h : goodSign s = true) {x : Int} (ht : tok s x = true) : ar s x ≤ 3 := by
  unfold tok at ht
  simp only [decide_eq_true_eq] at ht
  unfold ar
  by_cases g : x < 0
  · rw [if_pos g]; omega
  · rw [if_neg g]
    have := goodSign_rd h x (by omega) (by omega)
    omega
theorem ar_rd {s : List Int} (h : goodSign s = true) {x : Int} (h0 : 0 ≤ x) (ht : tok s x = true) : rd s x = (ar s x : Int) := by
  unfold tok at ht
  simp only [decide_eq_true_eq] at ht
  unfold ar
  rw [if_neg (by omega)]
  have := goodSign_rd h x (by omega) (by omega)
  omega
theorem eat_suf (s : List Int) (l : List Int) : ∀ (n : Nat) (r : List Int), eat s l n = some r → ∃ c, l = c ++ r := by
  induction l with
  | nil =>
    intro n r h
    cases n with
    | zero => simp only [eat, Option.some.injEq] at h; exact ⟨[], by simp [h]⟩
    | succ n => simp [eat] at h
  | cons x l ih =>
    intro n r h
    cases n with
    | zero => simp only [eat, Option.some.injEq] at h; exact ⟨[], by simp [h]⟩
    | succ n =>
      simp only [eat] at h
      split at h
      · obtain ⟨c, e⟩ := ih _ _ h
        exact ⟨x :: c, by rw [e]; rfl⟩
      · simp at h
theorem eat_zero (s : List Int) (l : List Int) : eat s l 0 = some l := by cases l <;> rfl
theorem eat_split (s : List Int) (l : List Int) : ∀ (n m : Nat) (r : List Int), eat s l (n + m) = some r → ∃ mid, eat s l n = some mid ∧ eat s mid m = some r := by
  induction l with
  | nil =>
    intro n m r h
    cases n with
    | zero => exact ⟨[], eat_zero _ _, by simpa using h⟩
    | succ n => rw [show n + 1 + m = (n + m) + 1 by omega] at h; simp [eat] at h
  | cons x l ih =>
    intro n m r h
    cases n with
    | zero => exact ⟨x :: l, eat_zero _ _, by simpa using h⟩
    | succ n =>
      rw [show n + 1 + m = (n + m) + 1 by omega] at h
      simp only [eat] at h ⊢
      split at h
      · rename_i ht
        rw [if_pos ht]
        exact ih _ _ _ (by rw [← h]; congr 1; omega)
      · simp at h
theorem spec_l1End_l0 (s : List Int) (hs : goodSign s = true) (l : List Int) : ∀ (pre : List Int) (n : Nat), (pre ++ l).length ≤ 1000000000 → n ≤ 3 * pre.length + 3 →
    Ev (fun k => spec_l1End.l0 k (pre ++ l) (pre.length : Int) (n : Int) s) (match eat s l n with | some r => ((pre ++ l).length : Int) - r.length | none => -1) := by
  have hsl := goodSign_len hs
  induction l with
  | nil =>
    intro pre n hl hn
    refine Ev.succ ?_
    simp only [spec_l1End.l0]
    cases n with
    | zero => exact Ev.neg (by simp) (Ev.eq (Ev.ret _) (by simp [eat]))
    | succ n =>
      refine Ev.pos (by omega) (Ev.pos (by simp) (Ev.succ ?_))
      simp only [spec_l1End.j1]
      exact Ev.pos trivial (Ev.eq (Ev.ret _) (by simp [eat]))
  | cons x l ih =>
    intro pre n hl hn
    have hl' := hl
    simp only [List.length_append, List.length_cons] at hl
    refine Ev.succ ?_
    simp only [spec_l1End.l0]
    cases n with
    | zero => exact Ev.neg (by simp) (Ev.eq (Ev.ret _) (by simp only [eat, List.length_append, List.length_cons]; omega))
    | succ n =>
      refine Ev.pos (by omega) (Ev.neg (by simp only [List.length_append, List.length_cons]; omega) (Ev.pos (by omega) (Ev.pos (by simp only [List.length_append, List.length_cons]; omega) ?_)))
      rw [rd_mid, w64 (x := (s.length : Int) - 1) (by omega) (by omega)]
      refine Ev.bnd1 (spec_in_eq _ _ _) (Ev.succ ?_)
      simp only [spec_l1End.j1]
      by_cases g : -12 ≤ x ∧ x ≤ (s.length : Int) - 1
      · have ht : tok s x = true := by unfold tok; exact decide_eq_true (by omega)
        have har := ar_le hs ht
        have h := ih (pre ++ [x]) (n + ar s x) (by simpa using hl') (by simp only [List.length_append, List.length_cons, List.length_nil]; omega)
        refine Ev.neg (by rw [decide_eq_true g]; simp) (Ev.pos (by omega) (Ev.pos (by simp only [List.length_append, List.length_cons]; omega) ?_))
        have e : eat s (x :: l) (n + 1) = eat s l (n + ar s x) := by simp only [eat]; rw [if_pos ht]
        rw [e]
        have e0 : wrap64 ((pre.length : Int) + 1) = (pre.length : Int) + 1 := w64 (by omega) (by omega)
        have e1 : wrap64 (((n + 1 : Nat) : Int) - 1) = (n : Int) := by rw [w64 (by omega) (by omega)]; omega
        rw [rd_mid, e0, e1]
        have h' : Ev (fun k => spec_l1End.l0 k (pre ++ x :: l) ((pre.length : Int) + 1) ((n : Int) + (ar s x : Int)) s) (match eat s l (n + ar s x) with | some r => ((pre ++ x :: l).length : Int) - r.length | none => -1) := by simpa using h
        by_cases g0 : x ≥ 0
        · refine Ev.pos g0 (Ev.pos g0 (Ev.pos (by omega) ?_))
          rw [ar_rd hs g0 ht, w64 (by omega) (by omega)]
          exact h'
        · refine Ev.neg g0 ?_
          have e2 : ar s x = 0 := by unfold ar; rw [if_pos (by omega)]
          rw [e2] at h' ⊢
          simpa using h'
      · have ht : ¬ tok s x = true := by unfold tok; rw [decide_eq_true_eq]; omega
        refine Ev.pos (by rw [decide_eq_false g]; rfl) (Ev.eq (Ev.ret _) ?_)
        simp only [eat]
        rw [if_neg ht]
theorem spec_l1End_ev (s : List Int) (hs : goodSign s = true) (pre l : List Int) (hl : (pre ++ l).length ≤ 1000000000) :
    Ev (fun k => spec_l1End.f k s (pre ++ l) (pre.length : Int)) (match eat s l 1 with | some r => ((pre ++ l).length : Int) - r.length | none => -1) := by
  simp only [spec_l1End.f]
  exact spec_l1End_l0 s hs l pre 1 hl (by omega)
theorem spec_l1Term_ev (s : List Int) (hs : goodSign s = true) (l : List Int) : Ev (fun k => spec_l1Term.f k s l) (isTerm s l) := by
  simp only [spec_l1Term.f]
  refine Ev.bnd1 (spec_in_eq _ _ _) ?_
  unfold isTerm
  by_cases g : 1 ≤ l.length ∧ l.length ≤ 40
  · have g' : (1 : Int) ≤ (l.length : Int) ∧ (l.length : Int) ≤ 40 := by omega
    have h := spec_l1End_ev s hs [] l (by simp; omega)
    refine Ev.pos (decide_eq_true g') (Ev.bnd (by simpa using h) (Ev.eq (Ev.ret _) ?_))
    rw [decide_eq_true g, Bool.true_and]
    cases e : eat s l 1 with
    | none => simp
    | some r =>
      cases r with
      | nil => simp
      | cons y r => simp; omega
  · have g' : ¬ ((1 : Int) ≤ (l.length : Int) ∧ (l.length : Int) ≤ 40) := by omega
    refine Ev.neg (by rw [decide_eq_false g']; simp) (Ev.eq (Ev.ret _) ?_)
    rw [decide_eq_false g, Bool.false_and]
theorem impl_args_eq (s : List Int) (hs : goodSign s = true) (x : Int) (ht : tok s x = true) : impl_Sign_args.f s x = some (ar s x : Int) := by
  unfold impl_Sign_args.f
  by_cases g : x < 0
  · rw [if_pos g]; unfold ar; rw [if_pos g]; rfl
  · have ht' := ht
    unfold tok at ht'
    simp only [decide_eq_true_eq] at ht'
    rw [if_neg g, if_pos (by omega), if_pos (by omega), ar_rd hs (by omega) ht]
theorem impl_isTerm_l0 (s : List Int) (hs : goodSign s = true) (l : List Int) : ∀ (pre : List Int) (n : Nat), (pre ++ l).length ≤ 1000000 → n ≤ 3 * pre.length + 3 →
    Ev (fun k => impl_Sign_isTerm.l0 k (n : Int) (pre ++ l) ((pre ++ l).length : Int) (pre.length : Int) s) (eat s l n == some []) := by
  have hsl := goodSign_len hs
  induction l with
  | nil =>
    intro pre n hl hn
    refine Ev.succ ?_
    simp only [impl_Sign_isTerm.l0]
    refine Ev.neg (by simp) (Ev.eq (Ev.ret _) ?_)
    cases n with
    | zero => rfl
    | succ n => first | (simp [eat]; done) | (simp [eat]; omega)
  | cons x l ih =>
    intro pre n hl hn
    have hl' := hl
    simp only [List.length_append, List.length_cons] at hl
    refine Ev.succ ?_
    simp only [impl_Sign_isTerm.l0]
    refine Ev.pos (by simp only [List.length_append, List.length_cons]; omega) (Ev.pos (by omega) (Ev.pos (by simp only [List.length_append, List.length_cons]; omega) ?_))
    cases n with
    | zero => exact Ev.pos rfl (Ev.eq (Ev.ret _) (by simp [eat]))
    | succ n =>
      refine Ev.neg (by omega) ?_
      rw [rd_mid]
      by_cases g1 : x < -12
      · refine Ev.pos g1 (Ev.eq (Ev.ret _) ?_)
        have ht : ¬ tok s x = true := by unfold tok; rw [decide_eq_true_eq]; omega
        simp only [eat]
        rw [if_neg ht]; rfl
      · refine Ev.neg g1 ?_
        by_cases g2 : x ≥ (s.length : Int)
        · refine Ev.pos g2 (Ev.eq (Ev.ret _) ?_)
          have ht : ¬ tok s x = true := by unfold tok; rw [decide_eq_true_eq]; omega
          simp only [eat]
          rw [if_neg ht]; rfl
        · refine Ev.neg g2 ?_
          have ht : tok s x = true := by unfold tok; exact decide_eq_true (by omega)
          have har := ar_le hs ht
          have h := ih (pre ++ [x]) (n + ar s x) (by simpa using hl') (by simp only [List.length_append, List.length_cons, List.length_nil]; omega)
          refine Ev.bnd1 (impl_args_eq s hs x ht) ?_
          have e0 : wrap64 ((pre.length : Int) + 1) = (pre.length : Int) + 1 := w64 (by omega) (by omega)
          have e1 : wrap64 ((ar s x : Int) - 1) = (ar s x : Int) - 1 := w64 (by omega) (by omega)
          have e2 : wrap64 (((n + 1 : Nat) : Int) + ((ar s x : Int) - 1)) = (n : Int) + (ar s x : Int) := by rw [w64 (by omega) (by omega)]; omega
          rw [e0, e1, e2]
          refine Ev.eq (by simpa using h) ?_
          simp only [eat]
          rw [if_pos ht]
theorem impl_isTerm_ev (s : List Int) (hs : goodSign s = true) (l : List Int) : Ev (fun k => impl_Sign_isTerm.f k s l) (isTerm s l) := by
  simp only [impl_Sign_isTerm.f]
  unfold isTerm
  by_cases g : l.length > 40
  · refine Ev.pos (by omega) (Ev.eq (Ev.ret _) ?_)
    rw [decide_eq_false (by omega), Bool.false_and]
  · refine Ev.neg (by omega) ?_
    have h := impl_isTerm_l0 s hs l [] 1 (by simp; omega) (by omega)
    refine Ev.eq (by simpa using h) ?_
    cases l with
    | nil => simp [eat]
    | cons x l => rw [decide_eq_true (show 1 ≤ (x :: l).length ∧ (x :: l).length ≤ 40 by simp only [List.length_cons] at g ⊢; omega), Bool.true_and]

theorem szIntS_eq (l : List Int) (a : Int) (h0 : 0 ≤ a) (h1 : a ≤ 1048576) (hl : l.length ≤ 9223372036854775807) : laws_szIntS.f l a = some (if (l.length : Int) ≤ a then a - l.length else -1) := by
  unfold laws_szIntS.f
  rw [w64 (x := a - (l.length : Int)) (by omega) (by omega)]
  by_cases g : a - (l.length : Int) < 0
  · rw [if_pos g, if_neg (by omega)]
  · rw [if_neg g, if_pos (by omega)]
theorem szSign_eq (l : List Int) (a : Int) (h0 : 0 ≤ a) (h1 : a ≤ 1048576) (hl : l.length ≤ 9223372036854775807) : laws_szSign.f l a = some (if (l.length : Int) ≤ a then a - l.length else -1) := by
  unfold laws_szSign.f
  rw [szIntS_eq l a h0 h1 hl, Option.bind_some]
  by_cases g : (l.length : Int) ≤ a
  · rw [if_pos g, if_neg (by omega)]
  · rw [if_neg g]; rfl
theorem toSign_ev (l : List Int) (h : l.length ≤ 1048576) : Ev (fun k => laws_toSign.f k l) l := by
  simp only [laws_toSign.f]
  exact Ev.bnd (toIntS l (by omega)) (Ev.ret _)
theorem eqSign_self (l : List Int) (h : l.length ≤ 1048576) : Ev (fun k => laws_eqSign.f k l l) true := by
  simp only [laws_eqSign.f]
  exact Ev.bnd (eqIntS_self l (by omega)) (Ev.pos rfl (Ev.ret _))

/-! Literals as the laws hand them over. -/
def okLitA (x : S70) : Prop := x.f1.length ≤ 9223372036854775807 ∧ x.f2.length ≤ 9223372036854775807
def smLitA (x : S70) : Prop := x.f1.length ≤ 1048576 ∧ x.f2.length ≤ 1048576
def cvLit (x : S70) : S72 := ⟨x.f0, x.f1, x.f2⟩
def smLit (x : S72) : Prop := x.f1.length ≤ 1048576 ∧ x.f2.length ≤ 1048576
theorem rdLA_mid (pre : List S70) (x : S70) (post : List S70) : rd_T70 (pre ++ x :: post) (pre.length : Int) = x := by
  unfold rd_T70; simp
theorem rdLB_mid (pre : List S72) (x : S72) (post : List S72) : rd_T72 (pre ++ x :: post) (pre.length : Int) = x := by
  unfold rd_T72; simp
theorem szLit_eq (b : Bool) (f1 f2 : List Int) (a : Int) (h0 : 0 ≤ a) (h1 : a ≤ 1048576) (hf1 : f1.length ≤ 9223372036854775807) (hf2 : f2.length ≤ 9223372036854775807) : ∃ r, laws_szLit.f b f1 f2 a = some r ∧ r ≤ a ∧ (0 ≤ r → f1.length ≤ 1048576 ∧ f2.length ≤ 1048576) := by
  unfold laws_szLit.f
  rw [szIntS_eq f1 a h0 h1 hf1, Option.bind_some]
  by_cases g : (f1.length : Int) ≤ a
  · rw [if_pos g, if_neg (by omega), szIntS_eq f2 _ (by omega) (by omega) hf2, Option.bind_some]
    by_cases g2 : (f2.length : Int) ≤ a - f1.length
    · rw [if_pos g2, if_neg (by omega)]; exact ⟨_, rfl, by omega, fun _ => by omega⟩
    · rw [if_neg g2]; exact ⟨-1, rfl, by omega, by omega⟩
  · rw [if_neg g]; exact ⟨-1, rfl, by omega, by omega⟩
theorem szLitS_l0 (post : List S70) : ∀ (pre : List S70) (a : Int), 0 ≤ a → a ≤ 1048576 → (∀ x ∈ post, okLitA x) → (pre ++ post).length ≤ 1048576 →
    ∃ r, Ev (fun k => laws_szLitS.l0 k (pre ++ post) a (pre.length : Int)) r ∧ r ≤ a ∧ (0 ≤ r → ∀ x ∈ post, smLitA x) := by
  induction post with
  | nil =>
    intro pre a h0 h1 hk hl
    refine ⟨a, Ev.succ ?_, by omega, by simp⟩
    simp only [laws_szLitS.l0]
    exact Ev.neg (by simp) (Ev.ret _)
  | cons x post ih =>
    intro pre a h0 h1 hk hl
    have hl' := hl
    simp only [List.length_append, List.length_cons] at hl
    have hx := hk x (by simp)
    obtain ⟨r, e, hr, hs⟩ := szLit_eq x.f0 x.f1 x.f2 a h0 h1 hx.1 hx.2
    by_cases g : r < 0
    · refine ⟨-1, Ev.succ ?_, by omega, by omega⟩
      simp only [laws_szLitS.l0]
      refine Ev.pos (by simp only [List.length_append, List.length_cons]; omega) (Ev.pos (by omega) ?_)
      rw [rdLA_mid]
      exact Ev.bnd1 e (Ev.pos g (Ev.ret _))
    · obtain ⟨r2, e2, hr2, hs2⟩ := ih (pre ++ [x]) r (by omega) (by omega) (fun y hy => hk y (by simp [hy])) (by simpa using hl')
      refine ⟨r2, Ev.succ ?_, by omega, fun h y hy => ?_⟩
      · simp only [laws_szLitS.l0]
        refine Ev.pos (by simp only [List.length_append, List.length_cons]; omega) (Ev.pos (by omega) ?_)
        rw [rdLA_mid, w64 (x := (pre.length : Int) + 1) (by omega) (by omega)]
        exact Ev.bnd1 e (Ev.neg g (by simpa using e2))
      · rcases List.mem_cons.1 hy with rfl | hy
        · exact hs (by omega)
        · exact hs2 h y hy
theorem szLitS_ev (l : List S70) (a : Int) (h0 : 0 ≤ a) (h1 : a ≤ 1048576) (hl : l.length ≤ 9223372036854775807) (hk : ∀ x ∈ l, okLitA x) :
    ∃ r, Ev (fun k => laws_szLitS.f k l a) r ∧ r ≤ a ∧ (0 ≤ r → l.length ≤ 1048576 ∧ ∀ x ∈ l, smLitA x) := by
  simp only [laws_szLitS.f]
  rw [w64 (x := a - (l.length : Int)) (by omega) (by omega)]
  by_cases g : a - (l.length : Int) < 0
  · exact ⟨-1, Ev.pos g (Ev.ret _), by omega, by omega⟩
  · obtain ⟨r, e, hr, hs⟩ := szLitS_l0 l [] (a - l.length) (by omega) (by omega) hk (by simp; omega)
    exact ⟨r, Ev.neg g (by simpa using e), by omega, fun h => ⟨by omega, hs h⟩⟩
theorem toLit_ev (b : Bool) (f1 f2 : List Int) (h1 : f1.length ≤ 1048576) (h2 : f2.length ≤ 1048576) : Ev (fun k => laws_toLit.f k b f1 f2) (b, f1, f2) := by
  simp only [laws_toLit.f]
  exact Ev.bnd (toIntS f1 (by omega)) (Ev.bnd (toIntS f2 (by omega)) (Ev.ret _))
theorem toLitS_l0 (post : List S70) : ∀ (pre : List S70) (pre' rest : List S72), pre'.length = pre.length → rest.length = post.length → (pre ++ post).length ≤ 1048576 → (∀ x ∈ post, smLitA x) →
    Ev (fun k => laws_toLitS.l0 k (pre ++ post) (pre' ++ rest) (pre.length : Int)) (pre' ++ post.map cvLit) := by
  induction post with
  | nil =>
    intro pre pre' rest hp hr hl hk
    obtain rfl : rest = [] := List.eq_nil_of_length_eq_zero hr
    refine Ev.succ ?_
    simp only [laws_toLitS.l0]
    exact Ev.neg (by simp) (Ev.ret _)
  | cons x post ih =>
    intro pre pre' rest hp hr hl hk
    obtain ⟨y, rest, rfl⟩ : ∃ y t, rest = y :: t := by cases rest with | nil => simp at hr | cons y t => exact ⟨y, t, rfl⟩
    have h := ih (pre ++ [x]) (pre' ++ [cvLit x]) rest (by simpa using hp) (by simpa using hr) (by simpa using hl) (fun z hz => hk z (by simp [hz]))
    simp only [List.length_append, List.length_cons, List.length_nil] at hl hr h
    have hx := hk x (by simp)
    refine Ev.succ ?_
    simp only [laws_toLitS.l0, List.length_append, List.length_cons]
    refine Ev.pos (by omega) (Ev.pos (by omega) ?_)
    rw [rdLA_mid, w64 (by omega) (by omega)]
    refine Ev.bnd (toLit_ev _ _ _ hx.1 hx.2) (Ev.pos (by omega) ?_)
    have e : (pre' ++ y :: rest).set ((pre.length : Int)).toNat ⟨x.f0, x.f1, x.f2⟩ = pre' ++ [cvLit x] ++ rest := by simp [← hp, cvLit]
    rw [e]
    simpa using h
theorem toLitS_ev (l : List S70) (h : l.length ≤ 1048576) (hk : ∀ x ∈ l, smLitA x) : Ev (fun k => laws_toLitS.f k l) (l.map cvLit) := by
  simp only [laws_toLitS.f]
  refine Ev.pos (by omega) (Ev.pos (by omega) ?_)
  have := toLitS_l0 l [] [] (List.replicate l.length z72) rfl (by simp) (by simp; omega) hk
  simpa using this
theorem cvLit_sm {l : List S70} (hk : ∀ x ∈ l, smLitA x) : ∀ x ∈ l.map cvLit, smLit x := by
  intro x hx
  obtain ⟨y, hy, rfl⟩ := List.mem_map.1 hx
  exact hk y hy
theorem eqLit_self (b : Bool) (f1 f2 : List Int) (h1 : f1.length ≤ 1048576) (h2 : f2.length ≤ 1048576) : Ev (fun k => laws_eqLit.f k b f1 f2 b f1 f2) true := by
  simp only [laws_eqLit.f]
  exact Ev.neg (by simp) (Ev.bnd (eqIntS_self f1 (by omega)) (Ev.pos rfl (Ev.bnd (eqIntS_self f2 (by omega)) (Ev.pos rfl (Ev.ret _)))))
theorem eqLitS_l0 (post : List S72) : ∀ pre : List S72, (pre ++ post).length ≤ 1048576 → (∀ x ∈ post, smLit x) → Ev (fun k => laws_eqLitS.l0 k (pre ++ post) (pre ++ post) (pre.length : Int)) true := by
  induction post with
  | nil =>
    intro pre hl hk
    refine Ev.succ ?_
    simp only [laws_eqLitS.l0]
    exact Ev.neg (by simp) (Ev.ret _)
  | cons x post ih =>
    intro pre hl hk
    have h := ih (pre ++ [x]) (by simpa using hl) (fun y hy => hk y (by simp [hy]))
    have hx := hk x (by simp)
    simp only [List.length_append, List.length_cons] at hl
    refine Ev.succ ?_
    simp only [laws_eqLitS.l0]
    refine Ev.pos (by simp only [List.length_append, List.length_cons]; omega) (Ev.pos (by omega) (Ev.pos (by simp only [List.length_append, List.length_cons]; omega) ?_))
    rw [rdLB_mid, w64 (by omega) (by omega)]
    exact Ev.bnd (eqLit_self _ _ _ hx.1 hx.2) (Ev.pos rfl (by simpa using h))
theorem eqLitS_self (l : List S72) (hl : l.length ≤ 1048576) (hk : ∀ x ∈ l, smLit x) : Ev (fun k => laws_eqLitS.f k l l) true := by
  simp only [laws_eqLitS.f]
  exact Ev.pos trivial (by simpa using eqLitS_l0 l [] (by simpa using hl) hk)

/-! Literals and clauses over a signature. -/
def isLit (s : List Int) (x : S72) : Bool := isTerm s x.f1 && isTerm s x.f2
def isClause (s : List Int) (l : List S72) : Bool := decide (l.length ≤ 8) && l.all (isLit s)
theorem spec_l1End_tot (s : List Int) (hsl : s.length ≤ 1048576) (l : List Int) : ∀ (pre : List Int) (n : Int), (pre ++ l).length ≤ 1000000000 → ∃ r, Ev (fun k => spec_l1End.l0 k (pre ++ l) (pre.length : Int) n s) r := by
  induction l with
  | nil =>
    intro pre n hl
    by_cases g : n > 0
    · refine ⟨-1, Ev.succ ?_⟩
      simp only [spec_l1End.l0]
      refine Ev.pos g (Ev.pos (by simp) (Ev.succ ?_))
      simp only [spec_l1End.j1]
      exact Ev.pos trivial (Ev.ret _)
    · refine ⟨(pre.length : Int), Ev.succ ?_⟩
      simp only [spec_l1End.l0]
      exact Ev.neg g (Ev.ret _)
  | cons x l ih =>
    intro pre n hl
    have hl' := hl
    simp only [List.length_append, List.length_cons] at hl
    by_cases g : n > 0
    · by_cases g1 : -12 ≤ x ∧ x ≤ (s.length : Int) - 1
      · by_cases g2 : x ≥ 0
        · obtain ⟨r, hr⟩ := ih (pre ++ [x]) (wrap64 (wrap64 (n - 1) + rd s x)) (by simpa using hl')
          refine ⟨r, Ev.succ ?_⟩
          simp only [spec_l1End.l0]
          refine Ev.pos g (Ev.neg (by simp only [List.length_append, List.length_cons]; omega) (Ev.pos (by omega) (Ev.pos (by simp only [List.length_append, List.length_cons]; omega) ?_)))
          rw [rd_mid, w64 (x := (s.length : Int) - 1) (by omega) (by omega)]
          refine Ev.bnd1 (spec_in_eq _ _ _) (Ev.succ ?_)
          simp only [spec_l1End.j1]
          refine Ev.neg (by rw [decide_eq_true g1]; simp) (Ev.pos (by omega) (Ev.pos (by simp only [List.length_append, List.length_cons]; omega) ?_))
          rw [rd_mid, w64 (x := (pre.length : Int) + 1) (by omega) (by omega)]
          exact Ev.pos g2 (Ev.pos g2 (Ev.pos (by omega) (by simpa using hr)))
        · obtain ⟨r, hr⟩ := ih (pre ++ [x]) (wrap64 (n - 1)) (by simpa using hl')
          refine ⟨r, Ev.succ ?_⟩
          simp only [spec_l1End.l0]
          refine Ev.pos g (Ev.neg (by simp only [List.length_append, List.length_cons]; omega) (Ev.pos (by omega) (Ev.pos (by simp only [List.length_append, List.length_cons]; omega) ?_)))
          rw [rd_mid, w64 (x := (s.length : Int) - 1) (by omega) (by omega)]
          refine Ev.bnd1 (spec_in_eq _ _ _) (Ev.succ ?_)
          simp only [spec_l1End.j1]
          refine Ev.neg (by rw [decide_eq_true g1]; simp) (Ev.pos (by omega) (Ev.pos (by simp only [List.length_append, List.length_cons]; omega) ?_))
          rw [rd_mid, w64 (x := (pre.length : Int) + 1) (by omega) (by omega)]
          exact Ev.neg g2 (by simpa using hr)
      · refine ⟨-1, Ev.succ ?_⟩
        simp only [spec_l1End.l0]
        refine Ev.pos g (Ev.neg (by simp only [List.length_append, List.length_cons]; omega) (Ev.pos (by omega) (Ev.pos (by simp only [List.length_append, List.length_cons]; omega) ?_)))
        rw [rd_mid, w64 (x := (s.length : Int) - 1) (by omega) (by omega)]
        refine Ev.bnd1 (spec_in_eq _ _ _) (Ev.succ ?_)
        simp only [spec_l1End.j1]
        exact Ev.pos (by rw [decide_eq_false g1]; rfl) (Ev.ret _)
    · refine ⟨(pre.length : Int), Ev.succ ?_⟩
      simp only [spec_l1End.l0]
      exact Ev.neg g (Ev.ret _)
/-- The reference's word about a term over any row of numbers: it is the word about terms where the row is a signature. -/
theorem spec_l1Term_tot (s : List Int) (hsl : s.length ≤ 1048576) (l : List Int) : ∃ b, Ev (fun k => spec_l1Term.f k s l) b ∧ (goodSign s = true → b = isTerm s l) := by
  by_cases hs : goodSign s = true
  · exact ⟨_, spec_l1Term_ev s hs l, fun _ => rfl⟩
  · simp only [spec_l1Term.f]
    by_cases g : (1 : Int) ≤ (l.length : Int) ∧ (l.length : Int) ≤ 40
    · obtain ⟨r, h⟩ := spec_l1End_tot s hsl l [] 1 (by simp only [List.nil_append]; omega)
      refine ⟨_, Ev.bnd1 (spec_in_eq _ _ _) (Ev.pos (decide_eq_true g) (Ev.bnd (a := r) ?_ (Ev.ret _))), fun h => absurd h hs⟩
      simp only [spec_l1End.f]
      simpa using h
    · exact ⟨_, Ev.bnd1 (spec_in_eq _ _ _) (Ev.neg (by rw [decide_eq_false g]; simp) (Ev.ret _)), fun h => absurd h hs⟩
theorem spec_l4Lit_tot (s : List Int) (hsl : s.length ≤ 1048576) (x : S72) : ∃ b, Ev (fun k => spec_l4Lit.f k s x.f0 x.f1 x.f2) b ∧ (goodSign s = true → b = isLit s x) := by
  obtain ⟨b1, h1, e1⟩ := spec_l1Term_tot s hsl x.f1
  obtain ⟨b2, h2, e2⟩ := spec_l1Term_tot s hsl x.f2
  simp only [spec_l4Lit.f]
  cases b1 with
  | true => exact ⟨b2, Ev.bnd h1 (Ev.pos rfl (Ev.bnd h2 (Ev.ret _))), fun h => by unfold isLit; rw [← e1 h, ← e2 h]; rfl⟩
  | false => exact ⟨false, Ev.bnd h1 (Ev.neg (by simp) (Ev.ret _)), fun h => by unfold isLit; rw [← e1 h]; rfl⟩
theorem spec_l4Clause_l0 (s : List Int) (hsl : s.length ≤ 1048576) (x1 : List S72) (post : List S72) : ∀ pre : List S72, (pre ++ post).length ≤ 1048576 →
    ∃ b, Ev (fun k => spec_l4Clause.l0 k x1 (pre ++ post) ((pre ++ post).length : Int) (pre.length : Int) s) b ∧ (goodSign s = true → b = (post.all (isLit s) && decide (x1.length ≤ 8))) := by
  induction post with
  | nil =>
    intro pre hl
    refine ⟨decide ((x1.length : Int) ≤ 8), Ev.succ ?_, fun _ => ?_⟩
    · simp only [spec_l4Clause.l0]
      exact Ev.neg (by simp) (Ev.ret _)
    · rw [List.all_nil, Bool.true_and]; congr 1; simp only [eq_iff_iff]; omega
  | cons x post ih =>
    intro pre hl
    have hl' := hl
    simp only [List.length_append, List.length_cons] at hl
    obtain ⟨b1, h1, e1⟩ := spec_l4Lit_tot s hsl x
    have pref : ∀ {g : Nat → Option Bool} {r : Bool}, Ev (fun k => (spec_l4Lit.f k s x.f0 x.f1 x.f2).bind fun t => if t = true then g k else some false) r → Ev (fun k => if (pre.length : Int) < ((pre ++ x :: post).length : Int) then (if 0 ≤ (pre.length : Int) then (if (pre.length : Int) < ((pre ++ x :: post).length : Int) then ((spec_l4Lit.f k s ((rd_T72 (pre ++ x :: post) (pre.length : Int)).f0) ((rd_T72 (pre ++ x :: post) (pre.length : Int)).f1) ((rd_T72 (pre ++ x :: post) (pre.length : Int)).f2)).bind fun t => if t = true then g k else some false) else none) else none) else some (decide ((x1.length : Int) ≤ 8))) r := by
      intro g r h
      refine Ev.pos (by simp only [List.length_append, List.length_cons]; omega) (Ev.pos (by omega) (Ev.pos (by simp only [List.length_append, List.length_cons]; omega) ?_))
      rw [rdLB_mid]
      exact h
    cases b1 with
    | true =>
      obtain ⟨b2, h2, e2⟩ := ih (pre ++ [x]) (by simpa using hl')
      refine ⟨b2, Ev.succ ?_, fun h => by rw [e2 h, List.all_cons, ← e1 h, Bool.true_and]⟩
      simp only [spec_l4Clause.l0]
      rw [w64 (x := (pre.length : Int) + 1) (by omega) (by omega)]
      exact pref (Ev.bnd h1 (Ev.pos rfl (by simpa using h2)))
    | false =>
      refine ⟨false, Ev.succ ?_, fun h => by rw [List.all_cons, ← e1 h, Bool.false_and, Bool.false_and]⟩
      simp only [spec_l4Clause.l0]
      exact pref (Ev.bnd h1 (Ev.neg (by simp) (Ev.ret _)))
theorem spec_l4Clause_tot (s : List Int) (hsl : s.length ≤ 1048576) (l : List S72) (hl : l.length ≤ 1048576) : ∃ b, Ev (fun k => spec_l4Clause.f k s l) b ∧ (goodSign s = true → b = isClause s l) := by
  obtain ⟨b, h, e⟩ := spec_l4Clause_l0 s hsl l l [] (by simpa using hl)
  simp only [spec_l4Clause.f]
  exact ⟨b, by simpa using h, fun hs => by rw [e hs, isClause, Bool.and_comm]⟩
theorem impl_isLit_ev (s : List Int) (hs : goodSign s = true) (x : S72) : Ev (fun k => impl_Sign_isLit.f k s x.f0 x.f1 x.f2) (isLit s x) := by
  simp only [impl_Sign_isLit.f]
  refine Ev.bnd (impl_isTerm_ev s hs x.f1) ?_
  unfold isLit
  cases isTerm s x.f1 with
  | true => exact Ev.pos rfl (Ev.bnd (impl_isTerm_ev s hs x.f2) (Ev.eq (Ev.ret _) rfl))
  | false => exact Ev.neg (by simp) (Ev.ret _)
/-- A search through a row whose word takes rounds. -/
theorem anyO_ev {α : Type} (f : Nat → α → Option Bool) (p : α → Bool) (l : List α) (h : ∀ x ∈ l, Ev (fun k => f k x) (!p x)) : Ev (fun k => anyO (fun x => f k x) l) (!l.all p) := by
  induction l with
  | nil => exact Ev.ret _
  | cons x t ih =>
    simp only [anyO]
    refine Ev.bnd (h x (by simp)) ?_
    cases hp : p x with
    | true => exact Ev.neg (by simp) (Ev.eq (ih (fun y hy => h y (by simp [hy]))) (by simp [hp]))
    | false => exact Ev.pos rfl (Ev.eq (Ev.ret _) (by simp [hp]))
theorem impl_isClause_ev (s : List Int) (hs : goodSign s = true) (l : List S72) : Ev (fun k => impl_Sign_isClause.f k s l) (isClause s l) := by
  simp only [impl_Sign_isClause.f, isClause]
  by_cases g : l.length ≤ 8
  · refine Ev.pos (by omega) (Ev.bnd (a := !l.all (isLit s)) ?_ (Ev.eq (Ev.ret _) ?_))
    · simp only [impl_Sign_isClause_1_any.f]
      refine anyO_ev _ _ _ (fun x _ => ?_)
      simp only [impl_Sign_isClause_1.f]
      exact Ev.bnd (impl_isLit_ev s hs x) (Ev.ret _)
    · rw [decide_eq_true g, Bool.not_not, Bool.true_and]
  · exact Ev.neg (by omega) (Ev.eq (Ev.ret _) (by rw [decide_eq_false g, Bool.false_and]))

/-! Good clauses. -/
def goodClause (s : List Int) (c : List S72) : Bool := goodSign s && isClause s c
theorem spec_GoodClause_ev (s : List Int) (hs : s.length ≤ 1048576) (c : List S72) (hc : c.length ≤ 1048576) : Ev (fun k => spec_GoodClause.f k s c) (goodClause s c) := by
  obtain ⟨b, h, e⟩ := spec_l4Clause_tot s hs c hc
  simp only [spec_GoodClause.f, goodClause]
  refine Ev.bnd (spec_GoodSign_ev s (by omega)) ?_
  by_cases g : goodSign s = true
  · refine Ev.pos g (Ev.bnd h (Ev.eq (Ev.ret _) ?_))
    rw [e g, g, Bool.true_and]
  · exact Ev.neg g (Ev.eq (Ev.ret _) (by rw [Bool.eq_false_iff.2 g, Bool.false_and]))
theorem impl_GoodClause_ev (s : List Int) (c : List S72) : Ev (fun k => impl_GoodClause.f k s c) (goodClause s c) := by
  simp only [impl_GoodClause.f, goodClause]
  refine Ev.bnd1 (impl_GoodSign_eq s) ?_
  by_cases g : goodSign s = true
  · refine Ev.pos g (Ev.bnd (impl_isClause_ev s g c) (Ev.eq (Ev.ret _) ?_))
    rw [g, Bool.true_and]
  · exact Ev.neg g (Ev.eq (Ev.ret _) (by rw [Bool.eq_false_iff.2 g, Bool.false_and]))

/-! What good terms, literals and clauses are. -/
theorem isTerm_of {s l : List Int} (h : isTerm s l = true) : l.length ≤ 40 ∧ eat s l 1 = some [] := by
  unfold isTerm at h
  simp only [Bool.and_eq_true, decide_eq_true_eq, beq_iff_eq] at h
  exact ⟨h.1.2, h.2⟩
theorem isLit_of {s : List Int} {x : S72} (h : isLit s x = true) : isTerm s x.f1 = true ∧ isTerm s x.f2 = true := by
  unfold isLit at h
  rwa [Bool.and_eq_true] at h
theorem isClause_of {s : List Int} {c : List S72} (h : isClause s c = true) : c.length ≤ 8 ∧ ∀ x ∈ c, isLit s x = true := by
  unfold isClause at h
  rw [Bool.and_eq_true, decide_eq_true_eq, List.all_eq_true] at h
  exact h

/-! Equal lists. -/
theorem same_l0 (post : List Int) : ∀ (pre post2 : List Int), post2.length = post.length → (pre ++ post).length ≤ 1000000 → ∀ pre2 : List Int, pre2.length = pre.length →
    Ev (fun k => spec_l1Same.l0 k (pre ++ post) (pre2 ++ post2) ((pre ++ post).length : Int) (pre.length : Int)) (decide (post = post2)) ∧ Ev (fun k => slices_Equal_int_int.l0 k (pre ++ post) (pre2 ++ post2) ((pre ++ post).length : Int) (pre.length : Int)) (decide (post = post2)) := by
  induction post with
  | nil =>
    intro pre post2 h2 hl pre2 hp
    have e2 : post2 = [] := List.eq_nil_of_length_eq_zero h2
    subst e2
    constructor
    · refine Ev.succ ?_
      simp only [spec_l1Same.l0]
      exact Ev.neg (by simp) (Ev.eq (Ev.ret _) (by simp))
    · refine Ev.succ ?_
      simp only [slices_Equal_int_int.l0]
      exact Ev.neg (by simp) (Ev.eq (Ev.ret _) (by simp))
  | cons x post ih =>
    intro pre post2 h2 hl pre2 hp
    obtain ⟨y, post2, rfl⟩ : ∃ y t, post2 = y :: t := by cases post2 with | nil => simp at h2 | cons y t => exact ⟨y, t, rfl⟩
    obtain ⟨i1, i2⟩ := ih (pre ++ [x]) post2 (by simpa using h2) (by simpa using hl) (pre2 ++ [y]) (by simpa using hp)
    simp only [List.length_append, List.length_cons] at hl
    have e0 : wrap64 ((pre.length : Int) + 1) = (pre.length : Int) + 1 := w64 (by omega) (by omega)
    have ey : rd (pre2 ++ y :: post2) (pre.length : Int) = y := by rw [← hp]; exact rd_mid _ _ _
    constructor
    · refine Ev.succ ?_
      simp only [spec_l1Same.l0]
      refine Ev.pos (by simp only [List.length_append, List.length_cons]; omega) (Ev.pos (by omega) (Ev.pos (by simp only [List.length_append, List.length_cons]; omega) (Ev.pos (by simp only [List.length_append, List.length_cons]; omega) ?_)))
      rw [rd_mid, ey, e0]
      by_cases g : x = y
      · refine Ev.pos g (Ev.eq (by simpa using i1) (by simp [g]))
      · refine Ev.neg g (Ev.eq (Ev.ret _) (by simp [g]))
    · refine Ev.succ ?_
      simp only [slices_Equal_int_int.l0]
      refine Ev.pos (by simp only [List.length_append, List.length_cons]; omega) (Ev.pos (by omega) (Ev.pos (by simp only [List.length_append, List.length_cons]; omega) (Ev.pos (by simp only [List.length_append, List.length_cons]; omega) ?_)))
      rw [rd_mid, ey, e0]
      by_cases g : x = y
      · refine Ev.pos g (Ev.eq (by simpa using i2) (by simp [g]))
      · refine Ev.neg g (Ev.eq (Ev.ret _) (by simp [g]))
theorem spec_l1Same_ev (a b : List Int) (h : a.length ≤ 1000000) : Ev (fun k => spec_l1Same.f k a b) (decide (a = b)) := by
  simp only [spec_l1Same.f]
  by_cases g : a.length = b.length
  · exact Ev.pos (by omega) (by simpa using (same_l0 a [] b g.symm (by simpa using h) [] rfl).1)
  · exact Ev.neg (by omega) (Ev.eq (Ev.ret _) (by rw [decide_eq_false]; intro e; exact g (by rw [e])))
theorem impl_Equal_ev (a b : List Int) (h : a.length ≤ 1000000) : Ev (fun k => slices_Equal_int_int.f k a b) (decide (a = b)) := by
  simp only [slices_Equal_int_int.f]
  by_cases g : a.length = b.length
  · exact Ev.pos (by omega) (by simpa using (same_l0 a [] b g.symm (by simpa using h) [] rfl).2)
  · exact Ev.neg (by omega) (Ev.eq (Ev.ret _) (by rw [decide_eq_false]; intro e; exact g (by rw [e])))

/-! Whether a number is in a list. -/
theorem has_l0 (x : Int) (post : List Int) : ∀ (pre : List Int), (pre ++ post).length ≤ 1000000 → Ev (fun k => spec_l1Has.l0 k x (pre ++ post) ((pre ++ post).length : Int) (pre.length : Int)) (decide (x ∈ post)) := by
  induction post with
  | nil =>
    intro pre hl
    refine Ev.succ ?_
    simp only [spec_l1Has.l0]
    exact Ev.neg (by simp) (Ev.eq (Ev.ret _) (by simp))
  | cons y post ih =>
    intro pre hl
    have h := ih (pre ++ [y]) (by simpa using hl)
    simp only [List.length_append, List.length_cons] at hl
    refine Ev.succ ?_
    simp only [spec_l1Has.l0]
    refine Ev.pos (by simp only [List.length_append, List.length_cons]; omega) (Ev.pos (by omega) (Ev.pos (by simp only [List.length_append, List.length_cons]; omega) ?_))
    rw [rd_mid, w64 (by omega) (by omega)]
    by_cases g : y = x
    · exact Ev.pos g (Ev.eq (Ev.ret _) (by simp [g]))
    · refine Ev.neg g (Ev.eq (by simpa using h) ?_)
      exact decide_eq_decide.2 ⟨fun q => List.mem_cons_of_mem _ q, fun q => (List.mem_cons.1 q).resolve_left (fun e => g e.symm)⟩
theorem spec_l1Has_ev (l : List Int) (x : Int) (hl : l.length ≤ 1000000) : Ev (fun k => spec_l1Has.f k l x) (decide (x ∈ l)) := by
  simp only [spec_l1Has.f]
  simpa using has_l0 x l [] (by simpa using hl)

/-! New names for variables: the reference's and the program's. -/
def totL (l : List (List Int)) : Nat := (l.map List.length).sum
theorem totL_cons (x : List Int) (t : List (List Int)) : totL (x :: t) = x.length + totL t := by simp [totL]
theorem rnT_len (t : List Int) : ∀ met : List Int, (rnT met t).2.length = t.length ∧ (rnT met t).1.length ≤ met.length + t.length := by
  induction t with
  | nil => intro met; exact ⟨rfl, by simp [rnT]⟩
  | cons n t ih =>
    intro met
    rw [rnT]
    split
    · have := ih met
      exact ⟨by simp only [List.length_cons]; omega, by simp only [List.length_cons]; omega⟩
    · have := ih (if n ∈ met then met else met ++ [n])
      have h2 : (if n ∈ met then met else met ++ [n]).length ≤ met.length + 1 := by
        split
        · omega
        · rw [List.length_append, List.length_singleton]; omega
      exact ⟨by simp only [List.length_cons]; omega, by simp only [List.length_cons]; omega⟩
theorem rnT_neg (t : List Int) : ∀ met : List Int, (∀ m ∈ met, m < 0) → ∀ m ∈ (rnT met t).1, m < 0 := by
  induction t with
  | nil => intro met h; exact h
  | cons n t ih =>
    intro met h
    rw [rnT]
    split
    · exact ih met h
    · rename_i hn
      refine ih _ (fun m hm => ?_)
      split at hm
      · exact h m hm
      · rcases List.mem_append.1 hm with hm | hm
        · exact h m hm
        · rw [List.mem_singleton] at hm; omega
theorem rnL_len (l : List (List Int)) : ∀ met, (rnL met l).length = l.length := by
  induction l with
  | nil => intro met; rfl
  | cons x t ih => intro met; simp [rnL, ih]
theorem rnL_small (N : Nat) (l : List (List Int)) : ∀ met, (∀ x ∈ l, x.length ≤ N) → ∀ y ∈ rnL met l, y.length ≤ N := by
  induction l with
  | nil => intro met _ y hy; simp [rnL] at hy
  | cons x t ih =>
    intro met h y hy
    rw [rnL] at hy
    rcases List.mem_cons.1 hy with rfl | hy
    · rw [(rnT_len x met).1]; exact h x (by simp)
    · exact ih _ (fun z hz => h z (by simp [hz])) y hy
theorem ren_l2 (n : Int) (x3 : List Int) (x4 : List (List Int)) (x7 : List Int) (x12 : List (List Int)) (x13 x14 : Int) (x18 : List Int) (x19 x20 : Int) (h7 : x7.length ≤ 1000000) (r : List (List Int)) (post : List Int) : ∀ pre : List Int, n ∉ pre → (pre ++ post).length ≤ 1000000 →
    Ev (fun k => spec_l2Rename.l1 k x3 x4 (x7 ++ [if n ∈ post then -1 - (((pre ++ post).idxOf n : Nat) : Int) else n]) x12 x13 x14 x18 x19 (wrap64 (x20 + 1))) r →
    Ev (fun k => spec_l2Rename.l2 k x3 x4 x7 n x12 x13 x14 x18 x19 x20 (pre ++ post) ((pre ++ post).length : Int) (pre.length : Int)) r := by
  induction post with
  | nil =>
    intro pre hn hl h
    refine Ev.succ ?_
    simp only [spec_l2Rename.l2]
    rw [if_neg (by simp)] at h
    exact Ev.neg (by simp) (Ev.pos (by omega) h)
  | cons m post ih =>
    intro pre hn hl h
    have hl' := hl
    simp only [List.length_append, List.length_cons] at hl
    refine Ev.succ ?_
    simp only [spec_l2Rename.l2]
    rw [w64 (x := -1 - (pre.length : Int)) (by omega) (by omega), w64 (x := (pre.length : Int) + 1) (by omega) (by omega), rd_mid]
    refine Ev.pos (by simp only [List.length_append, List.length_cons]; omega) (Ev.pos (by omega) (Ev.pos (by simp only [List.length_append, List.length_cons]; omega) ?_))
    by_cases e : m = n
    · subst e
      rw [if_pos (by simp), List.idxOf_append, if_neg hn, List.idxOf_cons_self, Nat.zero_add] at h
      exact Ev.pos rfl (Ev.pos (by omega) h)
    · refine Ev.neg e ?_
      have hpp : pre ++ m :: post = (pre ++ [m]) ++ post := by simp
      have := ih (pre ++ [m]) (by simp only [List.mem_append, List.mem_singleton, not_or]; exact ⟨hn, fun q => e q.symm⟩) (by rw [← hpp]; exact hl') (by
        rw [← hpp]
        have e2 : (n ∈ m :: post) = (n ∈ post) := by rw [List.mem_cons]; exact propext ⟨fun q => q.elim (fun q => absurd q.symm e) id, .inr⟩
        simp only [e2] at h
        exact h)
      rw [← hpp] at this
      simpa using this
theorem ren_l1 (l : List (List Int)) (idx : Int) (out : List (List Int)) (hout : out.length ≤ 1000000) (r : List (List Int)) (post : List Int) : ∀ (pre met acc : List Int), (∀ m ∈ met, m < 0) → met.length + post.length ≤ 900000 → acc.length = pre.length → (pre ++ post).length ≤ 900000 →
    Ev (fun k => spec_l2Rename.l0 k (rnT met post).1 (out ++ [acc ++ (rnT met post).2]) l (l.length : Int) (wrap64 (idx + 1))) r →
    Ev (fun k => spec_l2Rename.l1 k met out acc l (l.length : Int) idx (pre ++ post) ((pre ++ post).length : Int) (pre.length : Int)) r := by
  induction post with
  | nil =>
    intro pre met acc hm hb ha hl h
    refine Ev.succ ?_
    simp only [spec_l2Rename.l1]
    simp only [rnT, List.append_nil] at h
    exact Ev.neg (by simp) (Ev.pos (by omega) h)
  | cons n post ih =>
    intro pre met acc hm hb ha hl h
    have hl' := hl
    simp only [List.length_append, List.length_cons] at hl hb
    have hpp : pre ++ n :: post = (pre ++ [n]) ++ post := by simp
    have next : ∀ (met' : List Int) (y : Int), (∀ m ∈ met', m < 0) → met'.length ≤ met.length + 1 → Ev (fun k => spec_l2Rename.l0 k (rnT met' post).1 (out ++ [acc ++ y :: (rnT met' post).2]) l (l.length : Int) (wrap64 (idx + 1))) r →
        Ev (fun k => spec_l2Rename.l1 k met' out (acc ++ [y]) l (l.length : Int) idx (pre ++ n :: post) ((pre ++ n :: post).length : Int) (wrap64 ((pre.length : Int) + 1))) r := fun met' y h1 h2 h3 => by
      have := ih (pre ++ [n]) met' (acc ++ [y]) h1 (by omega) (by simp [ha]) (by rw [← hpp]; exact hl') (by simpa using h3)
      rw [← hpp] at this
      rw [w64 (by omega) (by omega)]
      simpa using this
    refine Ev.succ ?_
    simp only [spec_l2Rename.l1]
    rw [rd_mid]
    refine Ev.pos (by simp only [List.length_append, List.length_cons]; omega) (Ev.pos (by omega) (Ev.pos (by simp only [List.length_append, List.length_cons]; omega) ?_))
    rw [rnT] at h
    by_cases g : 0 ≤ n
    · rw [if_pos g] at h
      have hnm : n ∉ met := fun q => by have := hm n q; omega
      refine Ev.neg (by omega) (Ev.succ ?_)
      simp only [spec_l2Rename.j2]
      refine Ev.neg (by simp) (Ev.succ ?_)
      simp only [spec_l2Rename.j3]
      have := ren_l2 n met out acc l (l.length : Int) idx (pre ++ n :: post) ((pre ++ n :: post).length : Int) (pre.length : Int) (by omega) r met [] (by simp) (by simp only [List.nil_append]; omega) (by rw [if_neg hnm]; exact next met n hm (by omega) h)
      simpa using this
    · rw [if_neg g] at h
      refine Ev.pos (by omega) (Ev.bnd (spec_l1Has_ev met n (by omega)) (Ev.succ ?_))
      simp only [spec_l2Rename.j2]
      by_cases q : n ∈ met
      · rw [if_pos q] at h
        refine Ev.neg (by simp [q]) (Ev.succ ?_)
        simp only [spec_l2Rename.j3]
        have := ren_l2 n met out acc l (l.length : Int) idx (pre ++ n :: post) ((pre ++ n :: post).length : Int) (pre.length : Int) (by omega) r met [] (by simp) (by simp only [List.nil_append]; omega) (by rw [if_pos q]; exact next met _ hm (by omega) h)
        simpa using this
      · rw [if_neg q] at h
        refine Ev.pos (by simp [q]) (Ev.pos (by omega) (Ev.succ ?_))
        simp only [spec_l2Rename.j3]
        have := ren_l2 n (met ++ [n]) out acc l (l.length : Int) idx (pre ++ n :: post) ((pre ++ n :: post).length : Int) (pre.length : Int) (by omega) r (met ++ [n]) [] (by simp) (by simp only [List.nil_append, List.length_append, List.length_singleton]; omega) (by
          rw [if_pos (by simp)]
          refine next (met ++ [n]) _ (fun m hm' => ?_) (by rw [List.length_append, List.length_singleton]; omega) h
          rcases List.mem_append.1 hm' with hm' | hm'
          · exact hm m hm'
          · rw [List.mem_singleton] at hm'; omega)
        simpa using this
theorem rdL2_mid9 (pre : List (List Int)) (x : List Int) (post : List (List Int)) : rd_L2 (pre ++ x :: post) (pre.length : Int) = x := by
  unfold rd_L2; simp
theorem ren_l0 (post : List (List Int)) : ∀ (pre out : List (List Int)) (met : List Int), (∀ m ∈ met, m < 0) → met.length + totL post ≤ 900000 → out.length = pre.length → (pre ++ post).length ≤ 900000 → 
    Ev (fun k => spec_l2Rename.l0 k met out (pre ++ post) ((pre ++ post).length : Int) (pre.length : Int)) (out ++ rnL met post) := by
  induction post with
  | nil =>
    intro pre out met hm hb ho hl
    refine Ev.succ ?_
    simp only [spec_l2Rename.l0]
    exact Ev.neg (by simp) (Ev.eq (Ev.ret _) (by simp [rnL]))
  | cons x post ih =>
    intro pre out met hm hb ho hl
    have hl' := hl
    rw [totL_cons] at hb
    simp only [List.length_append, List.length_cons] at hl
    have hpp : pre ++ x :: post = (pre ++ [x]) ++ post := by simp
    have h := ih (pre ++ [x]) (out ++ [(rnT met x).2]) (rnT met x).1 (rnT_neg x met hm) (by have := (rnT_len x met).2; omega) (by simp [ho]) (by rw [← hpp]; exact hl')
    rw [← hpp] at h
    refine Ev.succ ?_
    simp only [spec_l2Rename.l0]
    rw [rdL2_mid9]
    refine Ev.pos (by simp only [List.length_append, List.length_cons]; omega) (Ev.pos (by omega) (Ev.pos (by simp only [List.length_append, List.length_cons]; omega) ?_))
    have := ren_l1 (pre ++ x :: post) (pre.length : Int) out (by omega) (out ++ rnL met (x :: post)) x [] met [] hm (by omega) rfl (by simp only [List.nil_append]; omega) (by
      rw [w64 (by omega) (by omega)]
      simpa [rnL] using h)
    simpa using this
theorem spec_l2Rename_ev (l : List (List Int)) (h1 : l.length ≤ 900000) (h2 : totL l ≤ 900000) : Ev (fun k => spec_l2Rename.f k l) (rnL [] l) := by
  simp only [spec_l2Rename.f]
  simpa using ren_l0 l [] [] [] (by simp) (by simpa using h2) rfl (by simpa using h1)
theorem spec_l4Rename_ev (l : List S72) (h1 : l.length ≤ 1000) (h2 : totL (flatT l) ≤ 900000) : Ev (fun k => spec_l4Rename.f k l) (zipN l (rnL [] (flatT l)) l.length) := by
  simp only [spec_l4Rename.f]
  refine Ev.pos (by omega) (Ev.bnd (spec_l2Rename_ev _ (by rw [flat_len]; omega) h2) (Ev.pos (by rw [rnL_len, flat_len]) (Ev.ret _)))
theorem with_l0 (l : List S72) (u : List (List Int)) (h1 : l.length ≤ 1000) (hu : u.length = 2 * l.length) (d : Nat) : ∀ j : Nat, j + d = l.length → Ev (fun k => impl_withTerms.l0 k u (zipN l u j) l (l.length : Int) (j : Int)) (zipN l u l.length) := by
  induction d with
  | zero =>
    intro j hj
    obtain rfl : j = l.length := by omega
    refine Ev.succ ?_
    simp only [impl_withTerms.l0]
    exact Ev.neg (by omega) (Ev.ret _)
  | succ d ih =>
    intro j hj
    have h := ih (j + 1) (by omega)
    refine Ev.succ ?_
    simp only [impl_withTerms.l0]
    rw [w64 (x := 2 * (j : Int)) (by omega) (by omega), w64 (x := 2 * (j : Int) + 1) (by omega) (by omega), w64 (x := (j : Int) + 1) (by omega) (by omega)]
    refine Ev.pos (by omega) (Ev.pos (by omega) (Ev.pos (by omega) (Ev.pos (by omega) (Ev.pos (by omega) (Ev.pos (by omega) (Ev.pos (by omega) (Ev.pos (by rw [zipN_len]; omega) ?_)))))))
    exact h
theorem impl_withTerms_ev (l : List S72) (u : List (List Int)) (h1 : l.length ≤ 1000) (hu : u.length = 2 * l.length) : Ev (fun k => impl_withTerms.f k l u) (zipN l u l.length) := by
  simp only [impl_withTerms.f]
  exact with_l0 l u h1 hu l.length 0 (by omega)
theorem impl_rename_eq (l : List (List Int)) (h1 : l.length ≤ 2097152) (h2 : ∀ x ∈ l, x.length ≤ 1048576 ∧ ∀ n ∈ x, -9223372036854775808 ≤ n ∧ n ≤ 9223372036854775807) : impl_rename.f l = some (rnL [] l) := by
  unfold impl_rename.f
  rw [if_pos]
  refine ⟨h1, List.all_eq_true.2 (fun x hx => ?_)⟩
  rw [Bool.and_eq_true, decide_eq_true_iff, List.all_eq_true]
  exact ⟨(h2 x hx).1, fun n hn => decide_eq_true ((h2 x hx).2 n hn)⟩
theorem flat_mem (l : List S72) : ∀ t ∈ flatT l, ∃ x ∈ l, t = x.f1 ∨ t = x.f2 := by
  induction l with
  | nil => intro t ht; simp [flatT] at ht
  | cons y l ih =>
    intro t ht
    simp only [flatT, List.mem_cons] at ht
    rcases ht with rfl | rfl | ht
    · exact ⟨y, by simp, .inl rfl⟩
    · exact ⟨y, by simp, .inr rfl⟩
    · obtain ⟨x, hx, h⟩ := ih t ht
      exact ⟨x, by simp [hx], h⟩
theorem totL_le (N : Nat) (l : List (List Int)) (h : ∀ x ∈ l, x.length ≤ N) : totL l ≤ l.length * N := by
  induction l with
  | nil => simp [totL]
  | cons x t ih =>
    have h1 := ih (fun y hy => h y (by simp [hy]))
    have h2 := h x (by simp)
    rw [totL_cons, List.length_cons, Nat.add_mul, Nat.one_mul]
    omega
theorem impl_renameClause_ev (l : List S72) (h1 : l.length ≤ 1000) (h2 : ∀ x ∈ l, (x.f1.length ≤ 1048576 ∧ ∀ n ∈ x.f1, -9223372036854775808 ≤ n ∧ n ≤ 9223372036854775807) ∧ (x.f2.length ≤ 1048576 ∧ ∀ n ∈ x.f2, -9223372036854775808 ≤ n ∧ n ≤ 9223372036854775807)) :
    Ev (fun k => impl_renameClause.f k l) (zipN l (rnL [] (flatT l)) l.length) := by
  simp only [impl_renameClause.f]
  refine Ev.bnd1 (by unfold impl_termsOf.f; rw [if_pos (by omega)]) (Ev.bnd1 (impl_rename_eq (flatT l) (by rw [flat_len]; omega) (fun t ht => ?_)) (impl_withTerms_ev l _ h1 (by rw [rnL_len, flat_len])))
  obtain ⟨x, hx, h | h⟩ := flat_mem l t ht
  · rw [h]; exact (h2 x hx).1
  · rw [h]; exact (h2 x hx).2
theorem rdL2_le (N : Nat) (t : List (List Int)) (h : ∀ x ∈ t, x.length ≤ N) (i : Int) : (rd_L2 t i).length ≤ N := by
  unfold rd_L2
  rw [List.getD_eq_getElem?_getD]
  rcases hq : t[i.toNat]? with _ | x
  · simp
  · exact h x (List.mem_of_getElem? hq)
theorem zipN_small (N : Nat) (l : List S72) (t : List (List Int)) (h : ∀ x ∈ t, x.length ≤ N) (n : Nat) : ∀ y ∈ zipN l t n, y.f1.length ≤ N ∧ y.f2.length ≤ N := by
  induction n with
  | zero => intro y hy; simp [zipN] at hy
  | succ n ih =>
    intro y hy
    rw [zipN] at hy
    rcases List.mem_append.1 hy with hy | hy
    · exact ih y hy
    · rw [List.mem_singleton] at hy
      subst hy
      exact ⟨rdL2_le N t h _, rdL2_le N t h _⟩

/-! Equal clauses. -/
def eqL : List S72 → List S72 → Bool
  | [], [] => true
  | x :: t, y :: u => (x.f0 == y.f0) && (decide (x.f1 = y.f1) && (decide (x.f2 = y.f2) && eqL t u))
  | _, _ => false
theorem spec_same_l0 (post : List S72) : ∀ (post2 pre pre2 : List S72), pre.length = pre2.length → post.length = post2.length → (pre ++ post).length ≤ 1000 → (∀ x ∈ post, x.f1.length ≤ 1000000 ∧ x.f2.length ≤ 1000000) →
    Ev (fun k => spec_l7Same.l0 k (pre ++ post) (pre2 ++ post2) ((pre ++ post).length : Int) (pre.length : Int)) (eqL post post2) := by
  induction post with
  | nil =>
    intro post2 pre pre2 h1 h2 hl hk
    cases post2 with
    | nil =>
      refine Ev.succ ?_
      simp only [spec_l7Same.l0]
      exact Ev.neg (by simp) (Ev.ret _)
    | cons y u => simp at h2
  | cons x post ih =>
    intro post2 pre pre2 h1 h2 hl hk
    cases post2 with
    | nil => simp at h2
    | cons y post2 =>
      have hx := hk x (by simp)
      have h := ih post2 (pre ++ [x]) (pre2 ++ [y]) (by simp [h1]) (by simpa using h2) (by simpa using hl) (fun z hz => hk z (by simp [hz]))
      simp only [List.length_append, List.length_cons] at hl h2
      have hm : rd_T72 (pre2 ++ y :: post2) (pre.length : Int) = y := by rw [h1]; exact rdLB_mid pre2 y post2
      refine Ev.succ ?_
      simp only [spec_l7Same.l0]
      refine Ev.pos (by simp only [List.length_append, List.length_cons]; omega) (Ev.pos (by omega) (Ev.pos (by simp only [List.length_append, List.length_cons]; omega) (Ev.pos (by simp only [List.length_append, List.length_cons]; omega) ?_)))
      simp only [rdLB_mid, hm]
      rw [w64 (x := (pre.length : Int) + 1) (by omega) (by omega)]
      by_cases g0 : x.f0 = y.f0
      · refine Ev.neg (by simp [g0]) (Ev.bnd (spec_l1Same_ev x.f1 y.f1 hx.1) ?_)
        by_cases g1 : x.f1 = y.f1
        · refine Ev.pos (decide_eq_true g1) (Ev.bnd (spec_l1Same_ev x.f2 y.f2 hx.2) ?_)
          by_cases g2 : x.f2 = y.f2
          · refine Ev.pos (decide_eq_true g2) (Ev.eq (by simpa using h) ?_)
            simp [eqL, g0, g1, g2]
          · exact Ev.neg (by simp [g2]) (Ev.eq (Ev.ret _) (by simp [eqL, g2]))
        · exact Ev.neg (by simp [g1]) (Ev.eq (Ev.ret _) (by simp [eqL, g1]))
      · exact Ev.pos (by simp [g0]) (Ev.eq (Ev.ret _) (by simp [eqL, g0]))
theorem impl_eqFrom_ev (l : List S72) : ∀ u : List S72, l.length = u.length → (∀ x ∈ l, x.f1.length ≤ 1000000 ∧ x.f2.length ≤ 1000000) → Ev (fun k => eqFrom k l u) (eqL l u) := by
  induction l with
  | nil =>
    intro u h hk
    cases u with
    | nil => exact Ev.ret _
    | cons y u => simp at h
  | cons x t ih =>
    intro u h hk
    cases u with
    | nil => simp at h
    | cons y u =>
      have hx := hk x (by simp)
      have h2 := ih u (by simpa using h) (fun z hz => hk z (by simp [hz]))
      simp only [eqFrom]
      have hb : Ev (fun k => impl_equalClauses_1.f k x.f0 x.f1 x.f2 y.f0 y.f1 y.f2) ((x.f0 == y.f0) && (decide (x.f1 = y.f1) && decide (x.f2 = y.f2))) := by
        simp only [impl_equalClauses_1.f]
        by_cases g0 : x.f0 = y.f0
        · refine Ev.pos (by simp [g0]) (Ev.bnd (impl_Equal_ev x.f1 y.f1 hx.1) ?_)
          by_cases g1 : x.f1 = y.f1
          · exact Ev.pos (decide_eq_true g1) (Ev.bnd (impl_Equal_ev x.f2 y.f2 hx.2) (Ev.eq (Ev.ret _) (by simp [g0, g1])))
          · exact Ev.neg (by simp [g1]) (Ev.eq (Ev.ret _) (by simp [g1]))
        · exact Ev.neg (by simp [g0]) (Ev.eq (Ev.ret _) (by simp [g0]))
      refine Ev.bnd hb ?_
      by_cases g : ((x.f0 == y.f0) && (decide (x.f1 = y.f1) && decide (x.f2 = y.f2))) = true
      · refine Ev.pos g (Ev.eq h2 ?_)
        simp only [Bool.and_eq_true] at g
        simp [eqL, g.1, g.2.1, g.2.2]
      · refine Ev.neg g (Ev.eq (Ev.ret _) ?_)
        rw [eqL, ← Bool.and_assoc, ← Bool.and_assoc, Bool.and_assoc (x.f0 == y.f0), Bool.eq_false_iff.2 g, Bool.false_and]
/-- Literals that are as a law's argument may have them. -/
def wfLit (x : S72) : Prop := (∀ n ∈ x.f1, -9223372036854775808 ≤ n ∧ n ≤ 9223372036854775807) ∧ ∀ n ∈ x.f2, -9223372036854775808 ≤ n ∧ n ≤ 9223372036854775807
def renT (l : List S72) : List S72 := zipN l (rnL [] (flatT l)) l.length
def sameT (c d : List S72) : Bool := if c.length = d.length then eqL (renT c) (renT d) else false
theorem flat_small {s : List Int} {c : List S72} (h : isClause s c = true) : c.length ≤ 8 ∧ (∀ t ∈ flatT c, t.length ≤ 40) ∧ totL (flatT c) ≤ 900000 := by
  have h1 := isClause_of h
  have h2 : ∀ t ∈ flatT c, t.length ≤ 40 := fun t ht => by
    obtain ⟨x, hx, e⟩ := flat_mem c t ht
    have hl := isLit_of (h1.2 x hx)
    rcases e with rfl | rfl
    · exact (isTerm_of hl.1).1
    · exact (isTerm_of hl.2).1
  refine ⟨h1.1, h2, ?_⟩
  have := totL_le 40 _ h2
  rw [flat_len] at this
  have : 2 * c.length * 40 ≤ 16 * 40 := Nat.mul_le_mul_right _ (by omega)
  omega
theorem spec_ren_ev {s : List Int} {c : List S72} (h : isClause s c = true) : Ev (fun k => spec_l4Rename.f k c) (renT c) := by
  obtain ⟨h1, h2, h3⟩ := flat_small h
  exact spec_l4Rename_ev c (by omega) h3
theorem impl_ren_ev {s : List Int} {c : List S72} (h : isClause s c = true) (hw : ∀ x ∈ c, wfLit x) : Ev (fun k => impl_renameClause.f k c) (renT c) := by
  have h1 := isClause_of h
  refine impl_renameClause_ev c (by omega) (fun x hx => ?_)
  have hl := isLit_of (h1.2 x hx)
  have := (isTerm_of hl.1).1
  have := (isTerm_of hl.2).1
  exact ⟨⟨by omega, (hw x hx).1⟩, ⟨by omega, (hw x hx).2⟩⟩
theorem ren_len (c : List S72) : (renT c).length = c.length := zipN_len _ _ _
theorem ren_small {s : List Int} {c : List S72} (h : isClause s c = true) : ∀ y ∈ renT c, y.f1.length ≤ 1000000 ∧ y.f2.length ≤ 1000000 := fun y hy => by
  obtain ⟨h1, h2, h3⟩ := flat_small h
  have := zipN_small 40 c _ (rnL_small 40 _ [] h2) c.length y hy
  omega
theorem spec_same_ev {s : List Int} {c d : List S72} (hc : isClause s c = true) (hd : isClause s d = true) : Ev (fun k => spec_l7Same.f k c d) (sameT c d) := by
  simp only [spec_l7Same.f]
  refine Ev.bnd (spec_ren_ev hc) (Ev.bnd (spec_ren_ev hd) ?_)
  have := (isClause_of hc).1
  unfold sameT
  by_cases g : c.length = d.length
  · rw [if_pos g]
    refine Ev.pos (by rw [ren_len, ren_len, g]) ?_
    simpa using spec_same_l0 (renT c) (renT d) [] [] rfl (by rw [ren_len, ren_len, g]) (by rw [List.nil_append, ren_len]; omega) (ren_small hc)
  · rw [if_neg g]
    exact Ev.neg (by rw [ren_len, ren_len]; omega) (Ev.ret _)
theorem impl_same_ev {s : List Int} {c d : List S72} (hc : isClause s c = true) (hd : isClause s d = true) (wc : ∀ x ∈ c, wfLit x) (wd : ∀ x ∈ d, wfLit x) : Ev (fun k => impl_sameClause.f k c d) (sameT c d) := by
  simp only [impl_sameClause.f]
  refine Ev.bnd (impl_ren_ev hc wc) (Ev.bnd (impl_ren_ev hd wd) ?_)
  unfold sameT
  simp only [impl_equalClauses.f]
  by_cases g : c.length = d.length
  · rw [if_pos g]
    exact Ev.pos (by rw [ren_len, ren_len, g]) (impl_eqFrom_ev _ _ (by rw [ren_len, ren_len, g]) (ren_small hc))
  · rw [if_neg g]
    exact Ev.neg (by rw [ren_len, ren_len]; exact g) (Ev.ret _)
def sameAll (s : List Int) (c d : List S72) : Bool × Bool := if goodClause s c = true ∧ isClause s d = true then (sameT c d, true) else (false, false)
theorem spec_SameClause_ev (s : List Int) (hs : s.length ≤ 1048576) (c d : List S72) (hc : c.length ≤ 1048576) (hd : d.length ≤ 1048576) : Ev (fun k => spec_SameClause.f k s c d) (sameAll s c d) := by
  simp only [spec_SameClause.f, sameAll]
  refine Ev.bnd (spec_GoodClause_ev s hs c hc) ?_
  by_cases g : goodClause s c = true
  · have g' := g
    unfold goodClause at g'
    rw [Bool.and_eq_true] at g'
    obtain ⟨b, hb, eb⟩ := spec_l4Clause_tot s hs d hd
    have eb := eb g'.1
    subst eb
    refine Ev.pos g (Ev.bnd hb ?_)
    by_cases g2 : isClause s d = true
    · exact Ev.pos g2 (Ev.bnd (spec_same_ev g'.2 g2) (Ev.eq (Ev.ret _) (by rw [if_pos ⟨g, g2⟩])))
    · exact Ev.neg g2 (Ev.eq (Ev.ret _) (by rw [if_neg (fun q => g2 q.2)]))
  · exact Ev.neg g (Ev.eq (Ev.ret _) (by rw [if_neg (fun q => g q.1)]))
theorem impl_SameClause_ev (s : List Int) (c d : List S72) (wc : ∀ x ∈ c, wfLit x) (wd : ∀ x ∈ d, wfLit x) : Ev (fun k => impl_SameClause.f k s c d) (sameAll s c d) := by
  simp only [impl_SameClause.f, sameAll]
  refine Ev.bnd (impl_GoodClause_ev s c) ?_
  by_cases g : goodClause s c = true
  · have g' := g
    unfold goodClause at g'
    rw [Bool.and_eq_true] at g'
    refine Ev.pos g (Ev.bnd (impl_isClause_ev s g'.1 d) ?_)
    by_cases g2 : isClause s d = true
    · exact Ev.pos g2 (Ev.bnd (impl_same_ev g'.2 g2 wc wd) (Ev.eq (Ev.ret _) (by rw [if_pos ⟨g, g2⟩])))
    · exact Ev.neg g2 (Ev.eq (Ev.ret _) (by rw [if_neg (fun q => g2 q.2)]))
  · exact Ev.neg g (Ev.eq (Ev.ret _) (by rw [if_neg (fun q => g q.1)]))

theorem FnExactSameClause : laws_FnExactSameClause.Pure := by
  intro l0 l1 l2 h0 h1 h2
  have hm : (maxLen : Nat) ≤ 9223372036854775807 := by unfold maxLen; omega
  have hs0 : l0.length ≤ 9223372036854775807 := by have := h0.1; omega
  have hs1 : l1.length ≤ 9223372036854775807 := by have := h1.1; omega
  have hs2 : l2.length ≤ 9223372036854775807 := by have := h2.1; omega
  have hok : ∀ x ∈ l1, okLitA x := fun x hx => by
    obtain ⟨_, f1, f2⟩ := h1.2 x hx
    exact ⟨by have := f1.1; omega, by have := f2.1; omega⟩
  have hok2 : ∀ x ∈ l2, okLitA x := fun x hx => by
    obtain ⟨_, f1, f2⟩ := h2.2 x hx
    exact ⟨by have := f1.1; omega, by have := f2.1; omega⟩
  have w1 : ∀ x ∈ l1.map cvLit, wfLit x := fun x hx => by
    obtain ⟨y, hy, rfl⟩ := List.mem_map.1 hx
    obtain ⟨_, f1, f2⟩ := h1.2 y hy
    exact ⟨fun n hn => wf64 (f1.2 n hn), fun n hn => wf64 (f2.2 n hn)⟩
  have w2 : ∀ x ∈ l2.map cvLit, wfLit x := fun x hx => by
    obtain ⟨y, hy, rfl⟩ := List.mem_map.1 hx
    obtain ⟨_, f1, f2⟩ := h2.2 y hy
    exact ⟨fun n hn => wf64 (f1.2 n hn), fun n hn => wf64 (f2.2 n hn)⟩
  clear h0 h1 h2 hm
  refine Ev.all ?_
  simp only [laws_FnExactSameClause.f]
  refine Ev.bnd1 (szSign_eq l0 1048576 (by omega) (by omega) hs0) ?_
  by_cases g0 : (l0.length : Int) ≤ 1048576
  rotate_left
  · rw [if_neg g0]
    exact Ev.pos (by omega) (Ev.ret _)
  rw [if_pos g0]
  have hb0 : l0.length ≤ 1048576 := by omega
  obtain ⟨z, hz, hzr, hzk⟩ := szLitS_ev l1 (1048576 - (l0.length : Int)) (by omega) (by omega) hs1 hok
  refine Ev.neg (by omega) (Ev.bnd hz ?_)
  by_cases gz : z < 0
  · exact Ev.pos gz (Ev.ret _)
  obtain ⟨hb1, hkA⟩ := hzk (by omega)
  obtain ⟨z2, hz2, hzr2, hzk2⟩ := szLitS_ev l2 z (by omega) (by omega) hs2 hok2
  refine Ev.neg gz (Ev.bnd hz2 ?_)
  by_cases gz2 : z2 < 0
  · exact Ev.pos gz2 (Ev.ret _)
  obtain ⟨hb2, hkA2⟩ := hzk2 (by omega)
  have hl1 : (l1.map cvLit).length ≤ 1048576 := by rw [List.length_map]; exact hb1
  have hl2 : (l2.map cvLit).length ≤ 1048576 := by rw [List.length_map]; exact hb2
  have t0 := toSign_ev l0 hb0
  have t1 := toLitS_ev l1 hb1 hkA
  have t2 := toLitS_ev l2 hb2 hkA2
  have es := spec_SameClause_ev l0 hb0 (l1.map cvLit) (l2.map cvLit) hl1 hl2
  have ei := impl_SameClause_ev l0 (l1.map cvLit) (l2.map cvLit) w1 w2
  refine Ev.neg gz2 (Ev.bnd t0 (Ev.bnd t1 (Ev.bnd t2 (Ev.bnd es (Ev.bnd t0 (Ev.bnd t1 (Ev.bnd t2 (Ev.bnd ei ?_))))))))
  refine Ev.neg (by simp) (Ev.succ ?_)
  simp only [laws_FnExactSameClause.j0]
  refine Ev.neg (by simp) (Ev.bnd t0 (Ev.bnd (eqSign_self l0 hb0) (Ev.pos rfl (Ev.bnd t1 (Ev.bnd (eqLitS_self _ hl1 (cvLit_sm hkA)) (Ev.pos rfl (Ev.bnd t2 (Ev.bnd (eqLitS_self _ hl2 (cvLit_sm hkA2)) (Ev.pos rfl (Ev.ret _))))))))))

end Go.Proofs.Ytlgnanbnicmdaaa.Pure
