/- The program's Subsumes returns what the reference's returns, for all arguments.
Conditions: none beyond what the row itself says. -/
import Derived.Test.YtlgnanbnicmdaaaQFnExactSubsumesx10
namespace Go.Proofs.Ytlgnanbnicmdaaa.Pure
open Go.RowKit Go.Proofs.Ytlgnanbnicmdaaa.QFnExactSubsumes Go.Proofs.YtlgnanbnicmdaaaW.PrintWords Go.Proofs.YtlgnanbnicmdaaaW.PrintLast Go.Proofs.YtlgnanbnicmdaaaW.PrintMore
set_option linter.unusedVariables false
set_option linter.unusedSimpArgs false

theorem w64 {x : Int} (h0 : -9223372036854775808 ≤ x) (h1 : x ≤ 9223372036854775807) : wrap64 x = x := by
  unfold wrap64; omega
theorem wf64 {a : Int} (h : (Lit.int .i64 a).wf = true) : -9223372036854775808 ≤ a ∧ a ≤ 9223372036854775807 := by
  simp only [Lit.wf, IntKind.min, IntKind.max, IntKind.signed, IntKind.bits, Bool.and_eq_true, decide_eq_true_eq, if_true] at h
  omega

theorem Ev.succ {α : Type} {g : Nat → Option α} {r : α} (h : Ev (fun k => g (k + 1)) r) : Ev g r := Ev.step (fun _ => rfl) h
theorem Ev.pos {α : Type} {c : Prop} [Decidable c] {a b : Nat → Option α} {r : α} (h : c) (e : Ev (fun k => a k) r) : Ev (fun k => if c then a k else b k) r := Ev.congr (fun _ => if_pos h) e
theorem Ev.neg {α : Type} {c : Prop} [Decidable c] {a b : Nat → Option α} {r : α} (h : ¬ c) (e : Ev (fun k => b k) r) : Ev (fun k => if c then a k else b k) r := Ev.congr (fun _ => if_neg h) e
theorem Ev.bnd {α β : Type} {g : Nat → Option α} {f : Nat → α → Option β} {a : α} {r : β} (h : Ev (fun k => g k) a) (k : Ev (fun n => f n a) r) : Ev (fun n => (g n).bind (fun x => f n x)) r := Ev.bind h k
theorem Ev.bnd1 {α β : Type} {g : Option α} {f : Nat → α → Option β} {a : α} {r : β} (h : g = some a) (k : Ev (fun n => f n a) r) : Ev (fun n => g.bind (fun x => f n x)) r := by
  rw [h]; exact k
theorem Ev.ret {α : Type} (r : α) : Ev (fun _ => some r) r := Ev.now r
theorem Ev.eq {α : Type} {g : Nat → Option α} {r r' : α} (h : Ev g r) (e : r = r') : Ev g r' := e ▸ h
theorem Ev.all {α : Type} {g : Nat → Option α} {r : α} (h : Ev (fun k => g k) r) : ∃ k, g k = some r := h.rounds
theorem rd_mid (pre : List Int) (x : Int) (post : List Int) : rd (pre ++ x :: post) (pre.length : Int) = x := by
  unfold rd; simp
theorem rd_nat (xs : List Int) (i : Nat) (h : i < xs.length) : rd xs (i : Int) = xs[i] := by
  unfold rd; simp [List.getD_eq_getElem?_getD, List.getElem?_eq_getElem h]

theorem toIntS_l0 (post : List Int) : ∀ (pre rest : List Int), rest.length = post.length → (pre ++ post).length ≤ 140737488351232 → Ev (fun k => laws_toIntS.l0 k (pre ++ post) (pre ++ rest) (pre.length : Int)) (pre ++ post) := by
  induction post with
  | nil =>
    intro pre rest hr hl
    obtain rfl : rest = [] := List.eq_nil_of_length_eq_zero hr
    refine Ev.succ ?_
    simp only [laws_toIntS.l0]
    exact Ev.neg (by simp) (Ev.ret _)
  | cons x post ih =>
    intro pre rest hr hl
    obtain ⟨y, rest, rfl⟩ : ∃ y t, rest = y :: t := by cases rest with | nil => simp at hr | cons y t => exact ⟨y, t, rfl⟩
    have h := ih (pre ++ [x]) rest (by simpa using hr) (by simpa using hl)
    simp only [List.length_append, List.length_cons, List.length_nil] at hl hr h
    refine Ev.succ ?_
    simp only [laws_toIntS.l0, List.length_append, List.length_cons]
    refine Ev.pos (by omega) (Ev.pos (by omega) (Ev.pos (by omega) ?_))
    rw [rd_mid, w64 (by omega) (by omega)]
    have e : (pre ++ y :: rest).set ((pre.length : Int)).toNat x = pre ++ [x] ++ rest := by simp
    rw [e]
    simpa using h
theorem toIntS (l : List Int) (h : l.length * 8 ≤ 140737488351232) : Ev (fun k => laws_toIntS.f k l) l := by
  simp only [laws_toIntS.f]
  refine Ev.pos (by omega) (Ev.pos (by omega) ?_)
  have := toIntS_l0 l [] (List.replicate l.length 0) (by simp) (by simp; omega)
  simpa using this

theorem eqIntS_l0 (pa : List Int) : ∀ (pa' pb pb' : List Int), pa'.length = pb'.length → pa.length = pb.length → (pa' ++ pa).length ≤ 140737488351232 → Ev (fun k => laws_eqIntS.l0 k (pa' ++ pa) (pb' ++ pb) (pa'.length : Int)) (decide (pa = pb)) := by
  induction pa with
  | nil =>
    intro pa' pb pb' h1 h2 hl
    obtain rfl : pb = [] := List.eq_nil_of_length_eq_zero h2.symm
    refine Ev.succ ?_
    simp only [laws_eqIntS.l0]
    exact Ev.neg (by simp) (Ev.eq (Ev.ret _) (by simp))
  | cons x pa ih =>
    intro pa' pb pb' h1 h2 hl
    obtain ⟨y, pb, rfl⟩ : ∃ y t, pb = y :: t := by cases pb with | nil => simp at h2 | cons y t => exact ⟨y, t, rfl⟩
    have h := ih (pa' ++ [x]) pb (pb' ++ [y]) (by simpa using h1) (by simpa using h2) (by simpa using hl)
    simp only [List.length_append, List.length_cons, List.length_nil] at hl h2 h
    refine Ev.succ ?_
    simp only [laws_eqIntS.l0, List.length_append, List.length_cons]
    refine Ev.pos (by omega) (Ev.pos (by omega) (Ev.pos (by omega) ?_))
    rw [rd_mid, show (pa'.length : Int) = (pb'.length : Int) by omega, rd_mid]
    by_cases e : x = y
    · subst e
      refine Ev.pos rfl ?_
      rw [w64 (by omega) (by omega)]
      refine Ev.eq (Ev.congr (fun k => ?_) h) (by simp)
      simp [h1]
    · exact Ev.neg e (Ev.eq (Ev.ret _) (by simp [e]))
theorem eqIntS (a b : List Int) (h : a.length ≤ 140737488351232) : Ev (fun k => laws_eqIntS.f k a b) (decide (a = b)) := by
  simp only [laws_eqIntS.f]
  by_cases e : a.length = b.length
  · exact Ev.pos (by omega) (by simpa using eqIntS_l0 a [] b [] rfl e (by simpa using h))
  · exact Ev.neg (by omega) (Ev.eq (Ev.ret _) (by simp only [false_eq_decide_iff]; intro h; exact e (by rw [h])))
theorem eqIntS_self (a : List Int) (h : a.length ≤ 140737488351232) : Ev (fun k => laws_eqIntS.f k a a) true := Ev.eq (eqIntS a a h) (by simp)

theorem spec_in_eq (a lo hi : Int) : spec_l1In.f a lo hi = some (decide (lo ≤ a ∧ a ≤ hi)) := by
  unfold spec_l1In.f
  by_cases h1 : a ≥ lo
  · rw [if_pos h1]
    by_cases h2 : a ≤ hi
    · rw [decide_eq_true h2, decide_eq_true ⟨h1, h2⟩]
    · rw [decide_eq_false h2, decide_eq_false (fun h => h2 h.2)]
  · rw [if_neg h1, decide_eq_false (fun h => h1 h.1)]
def inAll (lo hi : Int) (l : List Int) : Bool := l.all fun x => decide (lo ≤ x ∧ x ≤ hi)
theorem spec_l1All_l0 (lo hi : Int) (post : List Int) : ∀ pre : List Int, (pre ++ post).length ≤ 140737488351232 → Ev (fun k => spec_l1All.l0 k lo hi (pre ++ post) ((pre ++ post).length : Int) (pre.length : Int)) (inAll lo hi post) := by
  induction post with
  | nil =>
    intro pre hl
    refine Ev.succ ?_
    simp only [spec_l1All.l0]
    exact Ev.neg (by simp) (Ev.ret _)
  | cons x post ih =>
    intro pre hl
    have h := ih (pre ++ [x]) (by simpa using hl)
    simp only [List.length_append, List.length_cons] at hl
    refine Ev.succ ?_
    simp only [spec_l1All.l0]
    refine Ev.pos (by simp only [List.length_append, List.length_cons]; omega) (Ev.pos (by omega) (Ev.pos (by simp only [List.length_append, List.length_cons]; omega) ?_))
    rw [rd_mid]
    refine Ev.bnd1 (spec_in_eq _ _ _) ?_
    by_cases hx : lo ≤ x ∧ x ≤ hi
    · rw [decide_eq_true hx]
      refine Ev.pos rfl ?_
      rw [w64 (by omega) (by omega)]
      refine Ev.eq (by simpa using h) ?_
      simp [inAll, hx]
    · rw [decide_eq_false hx]
      exact Ev.neg (by simp) (Ev.eq (Ev.ret _) (by simp only [inAll, List.all_cons, decide_eq_false hx, Bool.false_and]))
theorem spec_l1All_ev (lo hi : Int) (l : List Int) (hl : l.length ≤ 140737488351232) : Ev (fun k => spec_l1All.f k l lo hi) (inAll lo hi l) := by
  simp only [spec_l1All.f]
  simpa using spec_l1All_l0 lo hi l [] (by simpa using hl)
theorem inAll_mem {lo hi : Int} {l : List Int} (h : inAll lo hi l = true) : ∀ x ∈ l, lo ≤ x ∧ x ≤ hi := by
  intro x hx
  unfold inAll at h
  simpa using List.all_eq_true.1 h x hx

theorem anyO_not {α : Type} (f : α → Option Bool) (p : α → Bool) (l : List α) (h : ∀ x ∈ l, f x = some (!p x)) : anyO f l = some (!l.all p) := by
  induction l with
  | nil => rfl
  | cons x t ih =>
    simp only [anyO]
    rw [h x (by simp), Option.bind_some]
    cases hp : p x with
    | true => simp [hp, ih (fun y hy => h y (by simp [hy]))]
    | false => simp [hp]

def goodSign (s : List Int) : Bool := decide (1 ≤ s.length ∧ s.length ≤ 10) && (inAll 0 3 s && (rd s 0 == 0))
theorem goodSign_len {s : List Int} (h : goodSign s = true) : 1 ≤ s.length ∧ s.length ≤ 10 := by
  unfold goodSign at h
  simp only [Bool.and_eq_true, decide_eq_true_eq] at h
  exact h.1
theorem goodSign_mem {s : List Int} (h : goodSign s = true) : ∀ x ∈ s, 0 ≤ x ∧ x ≤ 3 := by
  unfold goodSign at h
  simp only [Bool.and_eq_true] at h
  exact inAll_mem h.2.1
theorem goodSign_rd {s : List Int} (h : goodSign s = true) (x : Int) (h0 : 0 ≤ x) (h1 : x < s.length) : 0 ≤ rd s x ∧ rd s x ≤ 3 := by
  obtain ⟨n, rfl⟩ : ∃ n : Nat, x = n := ⟨x.toNat, by omega⟩
  have hn : n < s.length := by omega
  rw [rd_nat s n hn]
  exact goodSign_mem h _ (List.getElem_mem hn)
theorem spec_GoodSign_ev (s : List Int) (hl : s.length ≤ 140737488351232) : Ev (fun k => spec_GoodSign.f k s) (goodSign s) := by
  simp only [spec_GoodSign.f]
  refine Ev.bnd1 (spec_in_eq _ _ _) ?_
  by_cases g : 1 ≤ s.length ∧ s.length ≤ 10
  · have g' : (1 : Int) ≤ (s.length : Int) ∧ (s.length : Int) ≤ 10 := by omega
    refine Ev.pos (decide_eq_true g') (Ev.bnd (spec_l1All_ev 0 3 s hl) ?_)
    unfold goodSign
    rw [decide_eq_true g, Bool.true_and]
    cases ha : inAll 0 3 s with
    | true => exact Ev.pos rfl (Ev.pos (by omega) (Ev.eq (Ev.ret _) rfl))
    | false => exact Ev.neg (by simp) (Ev.eq (Ev.ret _) rfl)
  · have g' : ¬ ((1 : Int) ≤ (s.length : Int) ∧ (s.length : Int) ≤ 10) := by omega
    refine Ev.neg (by rw [decide_eq_false g']; simp) (Ev.eq (Ev.ret _) ?_)
    unfold goodSign
    rw [decide_eq_false g, Bool.false_and]
theorem impl_GoodSign_any (s : List Int) : impl_GoodSign_1_any.f s = some (!inAll 0 3 s) := by
  unfold impl_GoodSign_1_any.f inAll
  refine anyO_not _ _ _ (fun x _ => ?_)
  unfold impl_GoodSign_1.f
  by_cases h1 : x < 0
  · rw [if_pos h1, decide_eq_false (by omega)]; rfl
  · rw [if_neg h1]
    by_cases h2 : x ≤ 3
    · rw [decide_eq_true (show 0 ≤ x ∧ x ≤ 3 by omega), decide_eq_false (by omega)]; rfl
    · rw [decide_eq_false (show ¬ (0 ≤ x ∧ x ≤ 3) by omega), decide_eq_true (by omega)]; rfl
theorem impl_GoodSign_eq (s : List Int) : impl_GoodSign.f s = some (goodSign s) := by
  unfold impl_GoodSign.f goodSign
  by_cases g : 1 ≤ s.length ∧ s.length ≤ 10
  · rw [if_neg (by omega), if_neg (by omega), if_pos (by omega), decide_eq_true g, Bool.true_and]
    by_cases e : rd s 0 = 0
    · rw [if_pos e, impl_GoodSign_any, e]; simp
    · rw [if_neg e]; simp [e]
  · rw [decide_eq_false g, Bool.false_and]
    by_cases h1 : (s.length : Int) < 1
    · rw [if_pos h1]
    · rw [if_neg h1, if_pos (by omega)]

/-! Terms in prefix form. -/
/-- How many arguments a token takes. -/
def ar (s : List Int) (x : Int) : Nat := if x < 0 then 0 else (rd s x).toNat
/-- Whether a number may stand in a term. -/
def tok (s : List Int) (x : Int) : Bool := decide (-12 ≤ x ∧ x < s.length)
/-- What is left of a row when so many terms are read off it. -/
def eat (s : List Int) : List Int → Nat → Option (List Int)
  | l, 0 => some l
  | [], _ + 1 => none
  | x :: l, n + 1 => if tok s x = true then eat s l (n + ar s x) else none
def isTerm (s : List Int) (l : List Int) : Bool := decide (1 ≤ l.length ∧ l.length ≤ 40) && (eat s l 1 == some [])
def goodTerm (s : List Int) (l : List Int) : Bool := goodSign s && isTerm s l
theorem ar_le {s : List Int} (h : goodSign s = true) {x : Int} (ht : tok s x = true) : ar s x ≤ 3 := by
  unfold tok at ht
  simp only [decide_eq_true_eq] at ht
  unfold ar
  by_cases g : x < 0
  · rw [if_pos g]; omega
  · rw [if_neg g]
    have := goodSign_rd h x (by omega) (by omega)
    omega
theorem ar_rd {s : List Int} (h : goodSign s = true) {x : Int} (h0 : 0 ≤ x) (ht : tok s x = true) : rd s x = (ar s x : Int) := by
  unfold tok at ht
  simp only [decide_eq_true_eq] at ht
  unfold ar
  rw [if_neg (by omega)]
  have := goodSign_rd h x (by omega) (by omega)
  omega
theorem eat_suf (s : List Int) (l : List Int) : ∀ (n : Nat) (r : List Int), eat s l n = some r → ∃ c, l = c ++ r := by
  induction l with
  | nil =>
    intro n r h
    cases n with
    | zero => simp only [eat, Option.some.injEq] at h; exact ⟨[], by simp [h]⟩
    | succ n => simp [eat] at h
  | cons x l ih =>
    intro n r h
    cases n with
    | zero => simp only [eat, Option.some.injEq] at h; exact ⟨[], by simp [h]⟩
    | succ n =>
      simp only [eat] at h
      split at h
      · obtain ⟨c, e⟩ := ih _ _ h
        exact ⟨x :: c, by rw [e]; rfl⟩
      · simp at h
theorem eat_zero (s : List Int) (l : List Int) : eat s l 0 = some l := by cases l <;> rfl
theorem eat_split (s : List Int) (l : List Int) : ∀ (n m : Nat) (r : List Int), eat s l (n + m) = some r → ∃ mid, eat s l n = some mid ∧ eat s mid m = some r := by
  induction l with
  | nil =>
    intro n m r h
    cases n with
    | zero => exact ⟨[], eat_zero _ _, by simpa using h⟩
    | succ n => rw [show n + 1 + m = (n + m) + 1 by omega] at h; simp [eat] at h
  | cons x l ih =>
    intro n m r h
    cases n with
    | zero => exact ⟨x :: l, eat_zero _ _, by simpa using h⟩
    | succ n =>
      rw [show n + 1 + m = (n + m) + 1 by omega] at h
      simp only [eat] at h ⊢
      split at h
      · rename_i ht
        rw [if_pos ht]
        exact ih _ _ _ (by rw [← h]; congr 1; omega)
      · simp at h
theorem spec_l1End_l0 (s : List Int) (hs : goodSign s = true) (l : List Int) : ∀ (pre : List Int) (n : Nat), (pre ++ l).length ≤ 1000000000 → n ≤ 3 * pre.length + 3 →
    Ev (fun k => spec_l1End.l0 k (pre ++ l) (pre.length : Int) (n : Int) s) (match eat s l n with | some r => ((pre ++ l).length : Int) - r.length | none => -1) := by
  have hsl := goodSign_len hs
  induction l with
  | nil =>
    intro pre n hl hn
    refine Ev.succ ?_
    simp only [spec_l1End.l0]
    cases n with
    | zero => exact Ev.neg (by simp) (Ev.eq (Ev.ret _) (by simp [eat]))
    | succ n =>
      refine Ev.pos (by omega) (Ev.pos (by simp) (Ev.succ ?_))
      simp only [spec_l1End.j1]
      exact Ev.pos trivial (Ev.eq (Ev.ret _) (by simp [eat]))
  | cons x l ih =>
    intro pre n hl hn
    have hl' := hl
    simp only [List.length_append, List.length_cons] at hl
    refine Ev.succ ?_
    simp only [spec_l1End.l0]
    cases n with
    | zero => exact Ev.neg (by simp) (Ev.eq (Ev.ret _) (by simp only [eat, List.length_append, List.length_cons]; omega))
    | succ n =>
      refine Ev.pos (by omega) (Ev.neg (by simp only [List.length_append, List.length_cons]; omega) (Ev.pos (by omega) (Ev.pos (by simp only [List.length_append, List.length_cons]; omega) ?_)))
      rw [rd_mid, w64 (x := (s.length : Int) - 1) (by omega) (by omega)]
      refine Ev.bnd1 (spec_in_eq _ _ _) (Ev.succ ?_)
      simp only [spec_l1End.j1]
      by_cases g : -12 ≤ x ∧ x ≤ (s.length : Int) - 1
      · have ht : tok s x = true := by unfold tok; exact decide_eq_true (by omega)
        have har := ar_le hs ht
        have h := ih (pre ++ [x]) (n + ar s x) (by simpa using hl') (by simp only [List.length_append, List.length_cons, List.length_nil]; omega)
        refine Ev.neg (by rw [decide_eq_true g]; simp) (Ev.pos (by omega) (Ev.pos (by simp only [List.length_append, List.length_cons]; omega) ?_))
        have e : eat s (x :: l) (n + 1) = eat s l (n + ar s x) := by simp only [eat]; rw [if_pos ht]
        rw [e]
        have e0 : wrap64 ((pre.length : Int) + 1) = (pre.length : Int) + 1 := w64 (by omega) (by omega)
        have e1 : wrap64 (((n + 1 : Nat) : Int) - 1) = (n : Int) := by rw [w64 (by omega) (by omega)]; omega
        rw [rd_mid, e0, e1]
        have h' : Ev (fun k => spec_l1End.l0 k (pre ++ x :: l) ((pre.length : Int) + 1) ((n : Int) + (ar s x : Int)) s) (match eat s l (n + ar s x) with | some r => ((pre ++ x :: l).length : Int) - r.length | none => -1) := by simpa using h
        by_cases g0 : x ≥ 0
        · refine Ev.pos g0 (Ev.pos g0 (Ev.pos (by omega) ?_))
          rw [ar_rd hs g0 ht, w64 (by omega) (by omega)]
          exact h'
        · refine Ev.neg g0 ?_
          have e2 : ar s x = 0 := by unfold ar; rw [if_pos (by omega)]
          rw [e2] at h' ⊢
          simpa using h'
      · have ht : ¬ tok s x = true := by unfold tok; rw [decide_eq_true_eq]; omega
        refine Ev.pos (by rw [decide_eq_false g]; rfl) (Ev.eq (Ev.ret _) ?_)
        simp only [eat]
        rw [if_neg ht]
theorem spec_l1End_ev (s : List Int) (hs : goodSign s = true) (pre l : List Int) (hl : (pre ++ l).length ≤ 1000000000) :
    Ev (fun k => spec_l1End.f k s (pre ++ l) (pre.length : Int)) (match eat s l 1 with | some r => ((pre ++ l).length : Int) - r.length | none => -1) := by
  simp only [spec_l1End.f]
  exact spec_l1End_l0 s hs l pre 1 hl (by omega)
theorem spec_l1Term_ev (s : List Int) (hs : goodSign s = true) (l : List Int) : Ev (fun k => spec_l1Term.f k s l) (isTerm s l) := by
  simp only [spec_l1Term.f]
  refine Ev.bnd1 (spec_in_eq _ _ _) ?_
  unfold isTerm
  by_cases g : 1 ≤ l.length ∧ l.length ≤ 40
  · have g' : (1 : Int) ≤ (l.length : Int) ∧ (l.length : Int) ≤ 40 := by omega
    have h := spec_l1End_ev s hs [] l (by simp; omega)
    refine Ev.pos (decide_eq_true g') (Ev.bnd (by simpa using h) (Ev.eq (Ev.ret _) ?_))
    rw [decide_eq_true g, Bool.true_and]
    cases e : eat s l 1 with
    | none => simp
    | some r =>
      cases r with
      | nil => simp
      | cons y r => simp; omega
  · have g' : ¬ ((1 : Int) ≤ (l.length : Int) ∧ (l.length : Int) ≤ 40) := by omega
    refine Ev.neg (by rw [decide_eq_false g']; simp) (Ev.eq (Ev.ret _) ?_)
    rw [decide_eq_false g, Bool.false_and]
theorem impl_args_eq (s : List Int) (hs : goodSign s = true) (x : Int) (ht : tok s x = true) : impl_Sign_args.f s x = some (ar s x : Int) := by
  unfold impl_Sign_args.f
  by_cases g : x < 0
  · rw [if_pos g]; unfold ar; rw [if_pos g]; rfl
  · have ht' := ht
    unfold tok at ht'
    simp only [decide_eq_true_eq] at ht'
    rw [if_neg g, if_pos (by omega), if_pos (by omega), ar_rd hs (by omega) ht]
theorem impl_isTerm_l0 (s : List Int) (hs : goodSign s = true) (l : List Int) : ∀ (pre : List Int) (n : Nat), (pre ++ l).length ≤ 1000000 → n ≤ 3 * pre.length + 3 →
    Ev (fun k => impl_Sign_isTerm.l0 k (n : Int) (pre ++ l) ((pre ++ l).length : Int) (pre.length : Int) s) (eat s l n == some []) := by
  have hsl := goodSign_len hs
  induction l with
  | nil =>
    intro pre n hl hn
    refine Ev.succ ?_
    simp only [impl_Sign_isTerm.l0]
    refine Ev.neg (by simp) (Ev.eq (Ev.ret _) ?_)
    cases n with
    | zero => rfl
    | succ n => first | (simp [eat]; done) | (simp [eat]; omega)
  | cons x l ih =>
    intro pre n hl hn
    have hl' := hl
    simp only [List.length_append, List.length_cons] at hl
    refine Ev.succ ?_
    simp only [impl_Sign_isTerm.l0]
    refine Ev.pos (by simp only [List.length_append, List.length_cons]; omega) (Ev.pos (by omega) (Ev.pos (by simp only [List.length_append, List.length_cons]; omega) ?_))
    cases n with
    | zero => exact Ev.pos rfl (Ev.eq (Ev.ret _) (by simp [eat]))
    | succ n =>
      refine Ev.neg (by omega) ?_
      rw [rd_mid]
      by_cases g1 : x < -12
      · refine Ev.pos g1 (Ev.eq (Ev.ret _) ?_)
        have ht : ¬ tok s x = true := by unfold tok; rw [decide_eq_true_eq]; omega
        simp only [eat]
        rw [if_neg ht]; rfl
      · refine Ev.neg g1 ?_
        by_cases g2 : x ≥ (s.length : Int)
        · refine Ev.pos g2 (Ev.eq (Ev.ret _) ?_)
          have ht : ¬ tok s x = true := by unfold tok; rw [decide_eq_true_eq]; omega
          simp only [eat]
          rw [if_neg ht]; rfl
        · refine Ev.neg g2 ?_
          have ht : tok s x = true := by unfold tok; exact decide_eq_true (by omega)
          have har := ar_le hs ht
          have h := ih (pre ++ [x]) (n + ar s x) (by simpa using hl') (by simp only [List.length_append, List.length_cons, List.length_nil]; omega)
          refine Ev.bnd1 (impl_args_eq s hs x ht) ?_
          have e0 : wrap64 ((pre.length : Int) + 1) = (pre.length : Int) + 1 := w64 (by omega) (by omega)
          have e1 : wrap64 ((ar s x : Int) - 1) = (ar s x : Int) - 1 := w64 (by omega) (by omega)
          have e2 : wrap64 (((n + 1 : Nat) : Int) + ((ar s x : Int) - 1)) = (n : Int) + (ar s x : Int) := by rw [w64 (by omega) (by omega)]; omega
          rw [e0, e1, e2]
          refine Ev.eq (by simpa using h) ?_
          simp only [eat]
          rw [if_pos ht]
theorem impl_isTerm_ev (s : List Int) (hs : goodSign s = true) (l : List Int) : Ev (fun k => impl_Sign_isTerm.f k s l) (isTerm s l) := by
  simp only [impl_Sign_isTerm.f]
  unfold isTerm
  by_cases g : l.length > 40
  · refine Ev.pos (by omega) (Ev.eq (Ev.ret _) ?_)
    rw [decide_eq_false (by omega), Bool.false_and]
  · refine Ev.neg (by omega) ?_
    have h := impl_isTerm_l0 s hs l [] 1 (by simp; omega) (by omega)
    refine Ev.eq (by simpa using h) ?_
    cases l with
    | nil => simp [eat]
    | cons x l => rw [decide_eq_true (show 1 ≤ (x :: l).length ∧ (x :: l).length ≤ 40 by simp only [List.length_cons] at g ⊢; omega), Bool.true_and]

theorem szIntS_eq (l : List Int) (a : Int) (h0 : 0 ≤ a) (h1 : a ≤ 1048576) (hl : l.length ≤ 9223372036854775807) : laws_szIntS.f l a = some (if (l.length : Int) ≤ a then a - l.length else -1) := by
  unfold laws_szIntS.f
  rw [w64 (x := a - (l.length : Int)) (by omega) (by omega)]
  by_cases g : a - (l.length : Int) < 0
  · rw [if_pos g, if_neg (by omega)]
  · rw [if_neg g, if_pos (by omega)]
theorem szSign_eq (l : List Int) (a : Int) (h0 : 0 ≤ a) (h1 : a ≤ 1048576) (hl : l.length ≤ 9223372036854775807) : laws_szSign.f l a = some (if (l.length : Int) ≤ a then a - l.length else -1) := by
  unfold laws_szSign.f
  rw [szIntS_eq l a h0 h1 hl, Option.bind_some]
  by_cases g : (l.length : Int) ≤ a
  · rw [if_pos g, if_neg (by omega)]
  · rw [if_neg g]; rfl
theorem toSign_ev (l : List Int) (h : l.length ≤ 1048576) : Ev (fun k => laws_toSign.f k l) l := by
  simp only [laws_toSign.f]
  exact Ev.bnd (toIntS l (by omega)) (Ev.ret _)
theorem eqSign_self (l : List Int) (h : l.length ≤ 1048576) : Ev (fun k => laws_eqSign.f k l l) true := by
  simp only [laws_eqSign.f]
  exact Ev.bnd (eqIntS_self l (by omega)) (Ev.pos rfl (Ev.ret _))

/-! Literals as the laws hand them over. -/
def okLitA (x : S70) : Prop := x.f1.length ≤ 9223372036854775807 ∧ x.f2.length ≤ 9223372036854775807
def smLitA (x : S70) : Prop := x.f1.length ≤ 1048576 ∧ x.f2.length ≤ 1048576
def cvLit (x : S70) : S72 := ⟨x.f0, x.f1, x.f2⟩
def smLit (x : S72) : Prop := x.f1.length ≤ 1048576 ∧ x.f2.length ≤ 1048576
theorem rdLA_mid (pre : List S70) (x : S70) (post : List S70) : rd_T70 (pre ++ x :: post) (pre.length : Int) = x := by
  unfold rd_T70; simp
theorem rdLB_mid (pre : List S72) (x : S72) (post : List S72) : rd_T72 (pre ++ x :: post) (pre.length : Int) = x := by
  unfold rd_T72; simp
theorem szLit_eq (b : Bool) (f1 f2 : List Int) (a : Int) (h0 : 0 ≤ a) (h1 : a ≤ 1048576) (hf1 : f1.length ≤ 9223372036854775807) (hf2 : f2.length ≤ 9223372036854775807) : ∃ r, laws_szLit.f b f1 f2 a = some r ∧ r ≤ a ∧ (0 ≤ r → f1.length ≤ 1048576 ∧ f2.length ≤ 1048576) := by
  unfold laws_szLit.f
  rw [szIntS_eq f1 a h0 h1 hf1, Option.bind_some]
  by_cases g : (f1.length : Int) ≤ a
  · rw [if_pos g, if_neg (by omega), szIntS_eq f2 _ (by omega) (by omega) hf2, Option.bind_some]
    by_cases g2 : (f2.length : Int) ≤ a - f1.length
    · rw [if_pos g2, if_neg (by omega)]; exact ⟨_, rfl, by omega, fun _ => by omega⟩
    · rw [if_neg g2]; exact ⟨-1, rfl, by omega, by omega⟩
  · rw [if_neg g]; exact ⟨-1, rfl, by omega, by omega⟩
theorem szLitS_l0 (post : List S70) : ∀ (pre : List S70) (a : Int), 0 ≤ a → a ≤ 1048576 → (∀ x ∈ post, okLitA x) → (pre ++ post).length ≤ 1048576 →
    ∃ r, Ev (fun k => laws_szLitS.l0 k (pre ++ post) a (pre.length : Int)) r ∧ r ≤ a ∧ (0 ≤ r → ∀ x ∈ post, smLitA x) := by
  induction post with
  | nil =>
    intro pre a h0 h1 hk hl
    refine ⟨a, Ev.succ ?_, by omega, by simp⟩
    simp only [laws_szLitS.l0]
    exact Ev.neg (by simp) (Ev.ret _)
  | cons x post ih =>
    intro pre a h0 h1 hk hl
    have hl' := hl
    simp only [List.length_append, List.length_cons] at hl
    have hx := hk x (by simp)
    obtain ⟨r, e, hr, hs⟩ := szLit_eq x.f0 x.f1 x.f2 a h0 h1 hx.1 hx.2
    by_cases g : r < 0
    · refine ⟨-1, Ev.succ ?_, by omega, by omega⟩
      simp only [laws_szLitS.l0]
      refine Ev.pos (by simp only [List.length_append, List.length_cons]; omega) (Ev.pos (by omega) ?_)
      rw [rdLA_mid]
      exact Ev.bnd1 e (Ev.pos g (Ev.ret _))
    · obtain ⟨r2, e2, hr2, hs2⟩ := ih (pre ++ [x]) r (by omega) (by omega) (fun y hy => hk y (by simp [hy])) (by simpa using hl')
      refine ⟨r2, Ev.succ ?_, by omega, fun h y hy => ?_⟩
      · simp only [laws_szLitS.l0]
        refine Ev.pos (by simp only [List.length_append, List.length_cons]; omega) (Ev.pos (by omega) ?_)
        rw [rdLA_mid, w64 (x := (pre.length : Int) + 1) (by omega) (by omega)]
        exact Ev.bnd1 e (Ev.neg g (by simpa using e2))
      · rcases List.mem_cons.1 hy with rfl | hy
        · exact hs (by omega)
        · exact hs2 h y hy
theorem szLitS_ev (l : List S70) (a : Int) (h0 : 0 ≤ a) (h1 : a ≤ 1048576) (hl : l.length ≤ 9223372036854775807) (hk : ∀ x ∈ l, okLitA x) :
    ∃ r, Ev (fun k => laws_szLitS.f k l a) r ∧ r ≤ a ∧ (0 ≤ r → l.length ≤ 1048576 ∧ ∀ x ∈ l, smLitA x) := by
  simp only [laws_szLitS.f]
  rw [w64 (x := a - (l.length : Int)) (by omega) (by omega)]
  by_cases g : a - (l.length : Int) < 0
  · exact ⟨-1, Ev.pos g (Ev.ret _), by omega, by omega⟩
  · obtain ⟨r, e, hr, hs⟩ := szLitS_l0 l [] (a - l.length) (by omega) (by omega) hk (by simp; omega)
    exact ⟨r, Ev.neg g (by simpa using e), by omega, fun h => ⟨by omega, hs h⟩⟩
theorem toLit_ev (b : Bool) (f1 f2 : List Int) (h1 : f1.length ≤ 1048576) (h2 : f2.length ≤ 1048576) : Ev (fun k => laws_toLit.f k b f1 f2) (b, f1, f2) := by
  simp only [laws_toLit.f]
  exact Ev.bnd (toIntS f1 (by omega)) (Ev.bnd (toIntS f2 (by omega)) (Ev.ret _))
theorem toLitS_l0 (post : List S70) : ∀ (pre : List S70) (pre' rest : List S72), pre'.length = pre.length → rest.length = post.length → (pre ++ post).length ≤ 1048576 → (∀ x ∈ post, smLitA x) →
    Ev (fun k => laws_toLitS.l0 k (pre ++ post) (pre' ++ rest) (pre.length : Int)) (pre' ++ post.map cvLit) := by
  induction post with
  | nil =>
    intro pre pre' rest hp hr hl hk
    obtain rfl : rest = [] := List.eq_nil_of_length_eq_zero hr
    refine Ev.succ ?_
    simp only [laws_toLitS.l0]
    exact Ev.neg (by simp) (Ev.ret _)
  | cons x post ih =>
    intro pre pre' rest hp hr hl hk
    obtain ⟨y, rest, rfl⟩ : ∃ y t, rest = y :: t := by cases rest with | nil => simp at hr | cons y t => exact ⟨y, t, rfl⟩
    have h := ih (pre ++ [x]) (pre' ++ [cvLit x]) rest (by simpa using hp) (by simpa using hr) (by simpa using hl) (fun z hz => hk z (by simp [hz]))
    simp only [List.length_append, List.length_cons, List.length_nil] at hl hr h
    have hx := hk x (by simp)
    refine Ev.succ ?_
    simp only [laws_toLitS.l0, List.length_append, List.length_cons]
    refine Ev.pos (by omega) (Ev.pos (by omega) ?_)
    rw [rdLA_mid, w64 (by omega) (by omega)]
    refine Ev.bnd (toLit_ev _ _ _ hx.1 hx.2) (Ev.pos (by omega) ?_)
    have e : (pre' ++ y :: rest).set ((pre.length : Int)).toNat ⟨x.f0, x.f1, x.f2⟩ = pre' ++ [cvLit x] ++ rest := by simp [← hp, cvLit]
    rw [e]
    simpa using h
theorem toLitS_ev (l : List S70) (h : l.length ≤ 1048576) (hk : ∀ x ∈ l, smLitA x) : Ev (fun k => laws_toLitS.f k l) (l.map cvLit) := by
  simp only [laws_toLitS.f]
  refine Ev.pos (by omega) (Ev.pos (by omega) ?_)
  have := toLitS_l0 l [] [] (List.replicate l.length z72) rfl (by simp) (by simp; omega) hk
  simpa using this
theorem cvLit_sm {l : List S70} (hk : ∀ x ∈ l, smLitA x) : ∀ x ∈ l.map cvLit, smLit x := by
  intro x hx
  obtain ⟨y, hy, rfl⟩ := List.mem_map.1 hx
  exact hk y hy
theorem eqLit_self (b : Bool) (f1 f2 : List Int) (h1 : f1.length ≤ 1048576) (h2 : f2.length ≤ 1048576) : Ev (fun k => laws_eqLit.f k b f1 f2 b f1 f2) true := by
  simp only [laws_eqLit.f]
  exact Ev.neg (by simp) (Ev.bnd (eqIntS_self f1 (by omega)) (Ev.pos rfl (Ev.bnd (eqIntS_self f2 (by omega)) (Ev.pos rfl (Ev.ret _)))))
theorem eqLitS_l0 (post : List S72) : ∀ pre : List S72, (pre ++ post).length ≤ 1048576 → (∀ x ∈ post, smLit x) → Ev (fun k => laws_eqLitS.l0 k (pre ++ post) (pre ++ post) (pre.length : Int)) true := by
  induction post with
  | nil =>
    intro pre hl hk
    refine Ev.succ ?_
    simp only [laws_eqLitS.l0]
    exact Ev.neg (by simp) (Ev.ret _)
  | cons x post ih =>
    intro pre hl hk
    have h := ih (pre ++ [x]) (by simpa using hl) (fun y hy => hk y (by simp [hy]))
    have hx := hk x (by simp)
    simp only [List.length_append, List.length_cons] at hl
    refine Ev.succ ?_
    simp only [laws_eqLitS.l0]
    refine Ev.pos (by simp only [List.length_append, List.length_cons]; omega) (Ev.pos (by omega) (Ev.pos (by simp only [List.length_append, List.length_cons]; omega) ?_))
    rw [rdLB_mid, w64 (by omega) (by omega)]
    exact Ev.bnd (eqLit_self _ _ _ hx.1 hx.2) (Ev.pos rfl (by simpa using h))
theorem eqLitS_self (l : List S72) (hl : l.length ≤ 1048576) (hk : ∀ x ∈ l, smLit x) : Ev (fun k => laws_eqLitS.f k l l) true := by
  simp only [laws_eqLitS.f]
  exact Ev.pos trivial (by simpa using eqLitS_l0 l [] (by simpa using hl) hk)

/-! Literals and clauses over a signature. -/
def isLit (s : List Int) (x : S72) : Bool := isTerm s x.f1 && isTerm s x.f2
def isClause (s : List Int) (l : List S72) : Bool := decide (l.length ≤ 8) && l.all (isLit s)
theorem spec_l1End_tot (s : List Int) (hsl : s.length ≤ 1048576) (l : List Int) : ∀ (pre : List Int) (n : Int), (pre ++ l).length ≤ 1000000000 → ∃ r, Ev (fun k => spec_l1End.l0 k (pre ++ l) (pre.length : Int) n s) r := by
  induction l with
  | nil =>
    intro pre n hl
    by_cases g : n > 0
    · refine ⟨-1, Ev.succ ?_⟩
      simp only [spec_l1End.l0]
      refine Ev.pos g (Ev.pos (by simp) (Ev.succ ?_))
      simp only [spec_l1End.j1]
      exact Ev.pos trivial (Ev.ret _)
    · refine ⟨(pre.length : Int), Ev.succ ?_⟩
      simp only [spec_l1End.l0]
      exact Ev.neg g (Ev.ret _)
  | cons x l ih =>
    intro pre n hl
    have hl' := hl
    simp only [List.length_append, List.length_cons] at hl
    by_cases g : n > 0
    · by_cases g1 : -12 ≤ x ∧ x ≤ (s.length : Int) - 1
      · by_cases g2 : x ≥ 0
        · obtain ⟨r, hr⟩ := ih (pre ++ [x]) (wrap64 (wrap64 (n - 1) + rd s x)) (by simpa using hl')
          refine ⟨r, Ev.succ ?_⟩
          simp only [spec_l1End.l0]
          refine Ev.pos g (Ev.neg (by simp only [List.length_append, List.length_cons]; omega) (Ev.pos (by omega) (Ev.pos (by simp only [List.length_append, List.length_cons]; omega) ?_)))
          rw [rd_mid, w64 (x := (s.length : Int) - 1) (by omega) (by omega)]
          refine Ev.bnd1 (spec_in_eq _ _ _) (Ev.succ ?_)
          simp only [spec_l1End.j1]
          refine Ev.neg (by rw [decide_eq_true g1]; simp) (Ev.pos (by omega) (Ev.pos (by simp only [List.length_append, List.length_cons]; omega) ?_))
          rw [rd_mid, w64 (x := (pre.length : Int) + 1) (by omega) (by omega)]
          exact Ev.pos g2 (Ev.pos g2 (Ev.pos (by omega) (by simpa using hr)))
        · obtain ⟨r, hr⟩ := ih (pre ++ [x]) (wrap64 (n - 1)) (by simpa using hl')
          refine ⟨r, Ev.succ ?_⟩
          simp only [spec_l1End.l0]
          refine Ev.pos g (Ev.neg (by simp only [List.length_append, List.length_cons]; omega) (Ev.pos (by omega) (Ev.pos (by simp only [List.length_append, List.length_cons]; omega) ?_)))
          rw [rd_mid, w64 (x := (s.length : Int) - 1) (by omega) (by omega)]
          refine Ev.bnd1 (spec_in_eq _ _ _) (Ev.succ ?_)
          simp only [spec_l1End.j1]
          refine Ev.neg (by rw [decide_eq_true g1]; simp) (Ev.pos (by omega) (Ev.pos (by simp only [List.length_append, List.length_cons]; omega) ?_))
          rw [rd_mid, w64 (x := (pre.length : Int) + 1) (by omega) (by omega)]
          exact Ev.neg g2 (by simpa using hr)
      · refine ⟨-1, Ev.succ ?_⟩
        simp only [spec_l1End.l0]
        refine Ev.pos g (Ev.neg (by simp only [List.length_append, List.length_cons]; omega) (Ev.pos (by omega) (Ev.pos (by simp only [List.length_append, List.length_cons]; omega) ?_)))
        rw [rd_mid, w64 (x := (s.length : Int) - 1) (by omega) (by omega)]
        refine Ev.bnd1 (spec_in_eq _ _ _) (Ev.succ ?_)
        simp only [spec_l1End.j1]
        exact Ev.pos (by rw [decide_eq_false g1]; rfl) (Ev.ret _)
    · refine ⟨(pre.length : Int), Ev.succ ?_⟩
      simp only [spec_l1End.l0]
      exact Ev.neg g (Ev.ret _)
/-- The reference's word about a term over any row of numbers: it is the word about terms where the row is a signature. -/
theorem spec_l1Term_tot (s : List Int) (hsl : s.length ≤ 1048576) (l : List Int) : ∃ b, Ev (fun k => spec_l1Term.f k s l) b ∧ (goodSign s = true → b = isTerm s l) := by
  by_cases hs : goodSign s = true
  · exact ⟨_, spec_l1Term_ev s hs l, fun _ => rfl⟩
  · simp only [spec_l1Term.f]
    by_cases g : (1 : Int) ≤ (l.length : Int) ∧ (l.length : Int) ≤ 40
    · obtain ⟨r, h⟩ := spec_l1End_tot s hsl l [] 1 (by simp only [List.nil_append]; omega)
      refine ⟨_, Ev.bnd1 (spec_in_eq _ _ _) (Ev.pos (decide_eq_true g) (Ev.bnd (a := r) ?_ (Ev.ret _))), fun h => absurd h hs⟩
      simp only [spec_l1End.f]
      simpa using h
    · exact ⟨_, Ev.bnd1 (spec_in_eq _ _ _) (Ev.neg (by rw [decide_eq_false g]; simp) (Ev.ret _)), fun h => absurd h hs⟩
theorem spec_l4Lit_tot (s : List Int) (hsl : s.length ≤ 1048576) (x : S72) : ∃ b, Ev (fun k => spec_l4Lit.f k s x.f0 x.f1 x.f2) b ∧ (goodSign s = true → b = isLit s x) := by
  obtain ⟨b1, h1, e1⟩ := spec_l1Term_tot s hsl x.f1
  obtain ⟨b2, h2, e2⟩ := spec_l1Term_tot s hsl x.f2
  simp only [spec_l4Lit.f]
  cases b1 with
  | true => exact ⟨b2, Ev.bnd h1 (Ev.pos rfl (Ev.bnd h2 (Ev.ret _))), fun h => by unfold isLit; rw [← e1 h, ← e2 h]; rfl⟩
  | false => exact ⟨false, Ev.bnd h1 (Ev.neg (by simp) (Ev.ret _)), fun h => by unfold isLit; rw [← e1 h]; rfl⟩
theorem spec_l4Clause_l0 (s : List Int) (hsl : s.length ≤ 1048576) (x1 : List S72) (post : List S72) : ∀ pre : List S72, (pre ++ post).length ≤ 1048576 →
    ∃ b, Ev (fun k => spec_l4Clause.l0 k x1 (pre ++ post) ((pre ++ post).length : Int) (pre.length : Int) s) b ∧ (goodSign s = true → b = (post.all (isLit s) && decide (x1.length ≤ 8))) := by
  induction post with
  | nil =>
    intro pre hl
    refine ⟨decide ((x1.length : Int) ≤ 8), Ev.succ ?_, fun _ => ?_⟩
    · simp only [spec_l4Clause.l0]
      exact Ev.neg (by simp) (Ev.ret _)
    · rw [List.all_nil, Bool.true_and]; congr 1; simp only [eq_iff_iff]; omega
  | cons x post ih =>
    intro pre hl
    have hl' := hl
    simp only [List.length_append, List.length_cons] at hl
    obtain ⟨b1, h1, e1⟩ := spec_l4Lit_tot s hsl x
    have pref : ∀ {g : Nat → Option Bool} {r : Bool}, Ev (fun k => (spec_l4Lit.f k s x.f0 x.f1 x.f2).bind fun t => if t = true then g k else some false) r → Ev (fun k => if (pre.length : Int) < ((pre ++ x :: post).length : Int) then (if 0 ≤ (pre.length : Int) then (if (pre.length : Int) < ((pre ++ x :: post).length : Int) then ((spec_l4Lit.f k s ((rd_T72 (pre ++ x :: post) (pre.length : Int)).f0) ((rd_T72 (pre ++ x :: post) (pre.length : Int)).f1) ((rd_T72 (pre ++ x :: post) (pre.length : Int)).f2)).bind fun t => if t = true then g k else some false) else none) else none) else some (decide ((x1.length : Int) ≤ 8))) r := by
      intro g r h
      refine Ev.pos (by simp only [List.length_append, List.length_cons]; omega) (Ev.pos (by omega) (Ev.pos (by simp only [List.length_append, List.length_cons]; omega) ?_))
      rw [rdLB_mid]
      exact h
    cases b1 with
    | true =>
      obtain ⟨b2, h2, e2⟩ := ih (pre ++ [x]) (by simpa using hl')
      refine ⟨b2, Ev.succ ?_, fun h => by rw [e2 h, List.all_cons, ← e1 h, Bool.true_and]⟩
      simp only [spec_l4Clause.l0]
      rw [w64 (x := (pre.length : Int) + 1) (by omega) (by omega)]
      exact pref (Ev.bnd h1 (Ev.pos rfl (by simpa using h2)))
    | false =>
      refine ⟨false, Ev.succ ?_, fun h => by rw [List.all_cons, ← e1 h, Bool.false_and, Bool.false_and]⟩
      simp only [spec_l4Clause.l0]
      exact pref (Ev.bnd h1 (Ev.neg (by simp) (Ev.ret _)))
theorem spec_l4Clause_tot (s : List Int) (hsl : s.length ≤ 1048576) (l : List S72) (hl : l.length ≤ 1048576) : ∃ b, Ev (fun k => spec_l4Clause.f k s l) b ∧ (goodSign s = true → b = isClause s l) := by
  obtain ⟨b, h, e⟩ := spec_l4Clause_l0 s hsl l l [] (by simpa using hl)
  simp only [spec_l4Clause.f]
  exact ⟨b, by simpa using h, fun hs => by rw [e hs, isClause, Bool.and_comm]⟩
theorem impl_isLit_ev (s : List Int) (hs : goodSign s = true) (x : S72) : Ev (fun k => impl_Sign_isLit.f k s x.f0 x.f1 x.f2) (isLit s x) := by
  simp only [impl_Sign_isLit.f]
  refine Ev.bnd (impl_isTerm_ev s hs x.f1) ?_
  unfold isLit
  cases isTerm s x.f1 with
  | true => exact Ev.pos rfl (Ev.bnd (impl_isTerm_ev s hs x.f2) (Ev.eq (Ev.ret _) rfl))
  | false => exact Ev.neg (by simp) (Ev.ret _)
/-- A search through a row whose word takes rounds. -/
theorem anyO_ev {α : Type} (f : Nat → α → Option Bool) (p : α → Bool) (l : List α) (h : ∀ x ∈ l, Ev (fun k => f k x) (!p x)) : Ev (fun k => anyO (fun x => f k x) l) (!l.all p) := by
  induction l with
  | nil => exact Ev.ret _
  | cons x t ih =>
    simp only [anyO]
    refine Ev.bnd (h x (by simp)) ?_
    cases hp : p x with
    | true => exact Ev.neg (by simp) (Ev.eq (ih (fun y hy => h y (by simp [hy]))) (by simp [hp]))
    | false => exact Ev.pos rfl (Ev.eq (Ev.ret _) (by simp [hp]))
theorem impl_isClause_ev (s : List Int) (hs : goodSign s = true) (l : List S72) : Ev (fun k => impl_Sign_isClause.f k s l) (isClause s l) := by
  simp only [impl_Sign_isClause.f, isClause]
  by_cases g : l.length ≤ 8
  · refine Ev.pos (by omega) (Ev.bnd (a := !l.all (isLit s)) ?_ (Ev.eq (Ev.ret _) ?_))
    · simp only [impl_Sign_isClause_1_any.f]
      refine anyO_ev _ _ _ (fun x _ => ?_)
      simp only [impl_Sign_isClause_1.f]
      exact Ev.bnd (impl_isLit_ev s hs x) (Ev.ret _)
    · rw [decide_eq_true g, Bool.not_not, Bool.true_and]
  · exact Ev.neg (by omega) (Ev.eq (Ev.ret _) (by rw [decide_eq_false g, Bool.false_and]))

/-! Good clauses. -/
def goodClause (s : List Int) (c : List S72) : Bool := goodSign s && isClause s c
theorem spec_GoodClause_ev (s : List Int) (hs : s.length ≤ 1048576) (c : List S72) (hc : c.length ≤ 1048576) : Ev (fun k => spec_GoodClause.f k s c) (goodClause s c) := by
  obtain ⟨b, h, e⟩ := spec_l4Clause_tot s hs c hc
  simp only [spec_GoodClause.f, goodClause]
  refine Ev.bnd (spec_GoodSign_ev s (by omega)) ?_
  by_cases g : goodSign s = true
  · refine Ev.pos g (Ev.bnd h (Ev.eq (Ev.ret _) ?_))
    rw [e g, g, Bool.true_and]
  · exact Ev.neg g (Ev.eq (Ev.ret _) (by rw [Bool.eq_false_iff.2 g, Bool.false_and]))
theorem impl_GoodClause_ev (s : List Int) (c : List S72) : Ev (fun k => impl_GoodClause.f k s c) (goodClause s c) := by
  simp only [impl_GoodClause.f, goodClause]
  refine Ev.bnd1 (impl_GoodSign_eq s) ?_
  by_cases g : goodSign s = true
  · refine Ev.pos g (Ev.bnd (impl_isClause_ev s g c) (Ev.eq (Ev.ret _) ?_))
    rw [g, Bool.true_and]
  · exact Ev.neg g (Ev.eq (Ev.ret _) (by rw [Bool.eq_false_iff.2 g, Bool.false_and]))

/-! Terms within rows. -/
theorem eat_front (s : List Int) (l : List Int) : ∀ (n : Nat) (r : List Int), eat s l n = some r → ∃ c, l = c ++ r ∧ eat s c n = some [] := by
  induction l with
  | nil =>
    intro n r h
    cases n with
    | zero => simp only [eat, Option.some.injEq] at h; exact ⟨[], by simp [h], by simp [eat]⟩
    | succ n => simp [eat] at h
  | cons x l ih =>
    intro n r h
    cases n with
    | zero => simp only [eat, Option.some.injEq] at h; exact ⟨[], by simp [h], by simp [eat]⟩
    | succ n =>
      simp only [eat] at h
      split at h
      · rename_i ht
        obtain ⟨c, e, e2⟩ := ih _ _ h
        exact ⟨x :: c, by rw [e]; rfl, by simp only [eat]; rw [if_pos ht]; exact e2⟩
      · simp at h
theorem eat_app (s : List Int) (c : List Int) : ∀ (n m : Nat) (l : List Int), eat s c n = some [] → eat s (c ++ l) (n + m) = eat s l m := by
  induction c with
  | nil =>
    intro n m l h
    cases n with
    | zero => simp
    | succ n => simp [eat] at h
  | cons x c ih =>
    intro n m l h
    cases n with
    | zero => simp [eat] at h
    | succ n =>
      simp only [eat] at h
      split at h
      · rename_i ht
        rw [List.cons_append, show n + 1 + m = (n + m) + 1 by omega]
        simp only [eat]
        rw [if_pos ht, show n + m + ar s x = n + ar s x + m by omega]
        exact ih _ _ _ h
      · simp at h
theorem eat_tok (s : List Int) (l : List Int) : ∀ n, eat s l n = some [] → ∀ x ∈ l, tok s x = true := by
  induction l with
  | nil => intro n h x hx; simp at hx
  | cons x l ih =>
    intro n h y hy
    cases n with
    | zero => simp [eat] at h
    | succ n =>
      simp only [eat] at h
      split at h
      · rename_i ht
        rcases List.mem_cons.1 hy with rfl | hy
        · exact ht
        · exact ih _ h y hy
      · simp at h
theorem eat_cons {s : List Int} {x : Int} {l : List Int} {n : Nat} {r : List Int} (h : eat s (x :: l) (n + 1) = some r) : tok s x = true ∧ eat s l (n + ar s x) = some r := by
  simp only [eat] at h
  split at h
  · rename_i ht; exact ⟨ht, h⟩
  · simp at h
/-- The first of several terms. -/
theorem eat_first {s t : List Int} {m : Nat} (h : eat s t (m + 1) = some []) : ∃ c r, t = c ++ r ∧ eat s c 1 = some [] ∧ eat s t 1 = some r ∧ eat s r m = some [] ∧ c ≠ [] ∧ t.take (t.length - r.length) = c := by
  obtain ⟨r, h1, h2⟩ := eat_split s t 1 m [] (by rw [Nat.add_comm]; exact h)
  obtain ⟨c, e, e2⟩ := eat_front s t 1 r h1
  refine ⟨c, r, e, e2, h1, h2, fun hc => by rw [hc] at e2; simp [eat] at e2, ?_⟩
  rw [e, List.length_append, Nat.add_sub_cancel, List.take_left' rfl]
theorem eat_at (s : List Int) (l : List Int) : ∀ (n a : Nat), eat s l n = some [] → a < l.length → ∃ m, eat s (l.drop a) (m + 1) = some [] := by
  induction l with
  | nil => intro n a h ha; simp at ha
  | cons x l ih =>
    intro n a h ha
    cases n with
    | zero => simp [eat] at h
    | succ n =>
      cases a with
      | zero => exact ⟨n, by simpa using h⟩
      | succ a => exact ih _ a (eat_cons h).2 (by simpa using ha)
theorem eat_put (s : List Int) (pre : List Int) : ∀ (n : Nat) (c d r : List Int), eat s c 1 = some [] → eat s d 1 = some [] → eat s (pre ++ (c ++ r)) n = some [] → eat s (pre ++ (d ++ r)) n = some [] := by
  induction pre with
  | nil =>
    intro n c d r hc hd h
    cases n with
    | zero =>
      rw [List.nil_append, eat_zero] at h
      cases c with
      | nil => simp [eat] at hc
      | cons x c => simp at h
    | succ n =>
      rw [List.nil_append, Nat.add_comm, eat_app s _ 1 n _ hc] at h
      rw [List.nil_append, Nat.add_comm, eat_app s _ 1 n _ hd, h]
  | cons x pre ih =>
    intro n c d r hc hd h
    cases n with
    | zero => simp [eat] at h
    | succ n =>
      obtain ⟨ht, h⟩ := eat_cons h
      rw [List.cons_append]
      simp only [eat]
      rw [if_pos ht]
      exact ih _ _ _ _ hc hd h
theorem mid_slice (pre c r : List Int) : ((pre ++ (c ++ r)).take (((pre ++ (c ++ r)).length : Int) - (r.length : Int)).toNat).drop ((pre.length : Int)).toNat = c := by
  have e : (((pre ++ (c ++ r)).length : Int) - (r.length : Int)).toNat = (pre ++ c).length := by simp only [List.length_append]; omega
  rw [e, ← List.append_assoc, List.take_left' rfl, Int.toNat_natCast, List.drop_left' rfl]
theorem own_eq (l : List Int) (h : l.length ≤ 1000000) : spec_l1Own.f l = some l := by
  unfold spec_l1Own.f
  rw [Option.bind_some, if_pos (by simp only [List.length_nil]; omega), List.nil_append]
theorem spec_l1Part_ev (s : List Int) (hs : goodSign s = true) (pre c r : List Int) (hr : eat s (c ++ r) 1 = some r) (hl : (pre ++ (c ++ r)).length ≤ 1000000) :
    Ev (fun k => spec_l1Part.f k s (pre ++ (c ++ r)) (pre.length : Int)) c := by
  simp only [spec_l1Part.f]
  have h := spec_l1End_ev s hs pre (c ++ r) (by omega)
  rw [hr] at h
  simp only at h
  have hl2 := hl
  simp only [List.length_append] at hl2
  refine Ev.bnd h (Ev.pos (by omega) (Ev.pos (by simp only [List.length_append]; omega) (Ev.pos (by simp only [List.length_append]; omega) ?_)))
  rw [mid_slice]
  exact Ev.bnd1 (own_eq c (by omega)) (Ev.ret _)

/-! Matching: what the two sides compute. -/
theorem impl_end_l0 (s : List Int) (hs : goodSign s = true) (l : List Int) : ∀ (pre : List Int) (n : Nat) (r : List Int), (pre ++ l).length ≤ 1000000000 → n ≤ 3 * pre.length + 3 → eat s l n = some r →
    Ev (fun k => impl_Sign_end.l0 k (pre ++ l) (pre.length : Int) (n : Int) s) (((pre ++ l).length : Int) - r.length) := by
  induction l with
  | nil =>
    intro pre n r hl hn h
    cases n with
    | zero =>
      simp only [eat, Option.some.injEq] at h
      refine Ev.succ ?_
      simp only [impl_Sign_end.l0]
      exact Ev.neg (by simp) (Ev.eq (Ev.ret _) (by rw [← h]; simp))
    | succ n => simp [eat] at h
  | cons x l ih =>
    intro pre n r hl hn h
    have hl' := hl
    simp only [List.length_append, List.length_cons] at hl
    refine Ev.succ ?_
    simp only [impl_Sign_end.l0]
    cases n with
    | zero =>
      simp only [eat, Option.some.injEq] at h
      exact Ev.neg (by simp) (Ev.eq (Ev.ret _) (by rw [← h]; simp only [List.length_append]; omega))
    | succ n =>
      obtain ⟨ht, h⟩ := eat_cons h
      have har := ar_le hs ht
      refine Ev.pos (by omega) (Ev.pos (by omega) (Ev.pos (by simp only [List.length_append, List.length_cons]; omega) ?_))
      rw [rd_mid]
      refine Ev.bnd1 (impl_args_eq s hs x ht) ?_
      have h' := ih (pre ++ [x]) (n + ar s x) r (by simpa using hl') (by simp only [List.length_append, List.length_cons, List.length_nil]; omega) h
      have e0 : wrap64 ((pre.length : Int) + 1) = (pre.length : Int) + 1 := w64 (by omega) (by omega)
      have e1 : wrap64 ((ar s x : Int) - 1) = (ar s x : Int) - 1 := w64 (by omega) (by omega)
      have e2 : wrap64 (((n + 1 : Nat) : Int) + ((ar s x : Int) - 1)) = (n : Int) + (ar s x : Int) := by rw [w64 (by omega) (by omega)]; omega
      rw [e0, e1, e2]
      simpa using h'
theorem impl_end_ev (s : List Int) (hs : goodSign s = true) (pre l r : List Int) (hl : (pre ++ l).length ≤ 1000000000) (h : eat s l 1 = some r) :
    Ev (fun k => impl_Sign_end.f k s (pre ++ l) (pre.length : Int)) (((pre ++ l).length : Int) - r.length) := by
  simp only [impl_Sign_end.f]
  exact impl_end_l0 s hs l pre 1 r hl (by omega) h
theorem same_l0 (post : List Int) : ∀ (pre post2 : List Int), post2.length = post.length → (pre ++ post).length ≤ 1000000 → ∀ pre2 : List Int, pre2.length = pre.length →
    Ev (fun k => spec_l1Same.l0 k (pre ++ post) (pre2 ++ post2) ((pre ++ post).length : Int) (pre.length : Int)) (decide (post = post2)) ∧ Ev (fun k => slices_Equal_int_int.l0 k (pre ++ post) (pre2 ++ post2) ((pre ++ post).length : Int) (pre.length : Int)) (decide (post = post2)) := by
  induction post with
  | nil =>
    intro pre post2 h2 hl pre2 hp
    have e2 : post2 = [] := List.eq_nil_of_length_eq_zero h2
    subst e2
    constructor
    · refine Ev.succ ?_
      simp only [spec_l1Same.l0]
      exact Ev.neg (by simp) (Ev.eq (Ev.ret _) (by simp))
    · refine Ev.succ ?_
      simp only [slices_Equal_int_int.l0]
      exact Ev.neg (by simp) (Ev.eq (Ev.ret _) (by simp))
  | cons x post ih =>
    intro pre post2 h2 hl pre2 hp
    obtain ⟨y, post2, rfl⟩ : ∃ y t, post2 = y :: t := by cases post2 with | nil => simp at h2 | cons y t => exact ⟨y, t, rfl⟩
    obtain ⟨i1, i2⟩ := ih (pre ++ [x]) post2 (by simpa using h2) (by simpa using hl) (pre2 ++ [y]) (by simpa using hp)
    simp only [List.length_append, List.length_cons] at hl
    have e0 : wrap64 ((pre.length : Int) + 1) = (pre.length : Int) + 1 := w64 (by omega) (by omega)
    have ey : rd (pre2 ++ y :: post2) (pre.length : Int) = y := by rw [← hp]; exact rd_mid _ _ _
    constructor
    · refine Ev.succ ?_
      simp only [spec_l1Same.l0]
      refine Ev.pos (by simp only [List.length_append, List.length_cons]; omega) (Ev.pos (by omega) (Ev.pos (by simp only [List.length_append, List.length_cons]; omega) (Ev.pos (by simp only [List.length_append, List.length_cons]; omega) ?_)))
      rw [rd_mid, ey, e0]
      by_cases g : x = y
      · refine Ev.pos g (Ev.eq (by simpa using i1) (by simp [g]))
      · refine Ev.neg g (Ev.eq (Ev.ret _) (by simp [g]))
    · refine Ev.succ ?_
      simp only [slices_Equal_int_int.l0]
      refine Ev.pos (by simp only [List.length_append, List.length_cons]; omega) (Ev.pos (by omega) (Ev.pos (by simp only [List.length_append, List.length_cons]; omega) (Ev.pos (by simp only [List.length_append, List.length_cons]; omega) ?_)))
      rw [rd_mid, ey, e0]
      by_cases g : x = y
      · refine Ev.pos g (Ev.eq (by simpa using i2) (by simp [g]))
      · refine Ev.neg g (Ev.eq (Ev.ret _) (by simp [g]))
theorem spec_l1Same_ev (a b : List Int) (h : a.length ≤ 1000000) : Ev (fun k => spec_l1Same.f k a b) (decide (a = b)) := by
  simp only [spec_l1Same.f]
  by_cases g : a.length = b.length
  · exact Ev.pos (by omega) (by simpa using (same_l0 a [] b g.symm (by simpa using h) [] rfl).1)
  · exact Ev.neg (by omega) (Ev.eq (Ev.ret _) (by rw [decide_eq_false]; intro e; exact g (by rw [e])))
theorem impl_Equal_ev (a b : List Int) (h : a.length ≤ 1000000) : Ev (fun k => slices_Equal_int_int.f k a b) (decide (a = b)) := by
  simp only [slices_Equal_int_int.f]
  by_cases g : a.length = b.length
  · exact Ev.pos (by omega) (by simpa using (same_l0 a [] b g.symm (by simpa using h) [] rfl).2)
  · exact Ev.neg (by omega) (Ev.eq (Ev.ret _) (by rw [decide_eq_false]; intro e; exact g (by rw [e])))
/-- The rows that a pattern's variables take at a term. -/
def mtch (s : List Int) : List Int → List Int → List (List Int) → Option (List (List Int))
  | [], _, b => some b
  | n :: p, t, b => if 0 ≤ n then (match t with
      | [] => none
      | c :: t => if n = c then mtch s p t b else none)
    else match eat s t 1 with
      | none => none
      | some r => if b.getD (-1 - n).toNat [] = [] ∨ b.getD (-1 - n).toNat [] = t.take (t.length - r.length) then mtch s p r (b.set (-1 - n).toNat (t.take (t.length - r.length))) else none
def mout (o : Option (List (List Int))) : List (List Int) × Bool := match o with
  | some b => (b, true)
  | none => ([], false)
/-- What the rows that variables take look like. -/
def okB (s : List Int) (N : Nat) (b : List (List Int)) : Prop := b.length = 12 ∧ ∀ x ∈ b, x.length ≤ N ∧ (x ≠ [] → eat s x 1 = some [])
theorem okB_get {s : List Int} {N : Nat} {b : List (List Int)} (h : okB s N b) (v : Nat) : (b.getD v []).length ≤ N ∧ (b.getD v [] ≠ [] → eat s (b.getD v []) 1 = some []) := by
  by_cases g : v < b.length
  · have e : b.getD v [] = b[v] := by simp [List.getD_eq_getElem?_getD, List.getElem?_eq_getElem g]
    rw [e]; exact h.2 _ (List.getElem_mem g)
  · have e : b.getD v [] = [] := by rw [List.getD_eq_getElem?_getD, List.getElem?_eq_none (by omega)]; rfl
    rw [e]; simp
theorem okB_set {s : List Int} {N : Nat} {b : List (List Int)} (h : okB s N b) (v : Nat) (x : List Int) (h1 : x.length ≤ N) (h2 : eat s x 1 = some []) : okB s N (b.set v x) := by
  refine ⟨by rw [List.length_set]; exact h.1, fun y hy => ?_⟩
  rcases List.mem_or_eq_of_mem_set hy with hy | rfl
  · exact h.2 y hy
  · exact ⟨h1, fun _ => h2⟩
theorem tok_neg {s : List Int} {n : Int} (ht : tok s n = true) (h : n < 0) : ar s n = 0 ∧ -12 ≤ n := by
  unfold tok at ht
  simp only [decide_eq_true_eq] at ht
  refine ⟨by unfold ar; rw [if_pos h], ht.1⟩
theorem mtch_ok (s : List Int) (p : List Int) : ∀ (t : List Int) (b : List (List Int)) (m : Nat) (N : Nat) (b' : List (List Int)), eat s p m = some [] → eat s t m = some [] → t.length ≤ N → okB s N b → mtch s p t b = some b' → okB s N b' := by
  induction p with
  | nil => intro t b m N b' hp ht hN hb h; simp only [mtch, Option.some.injEq] at h; exact h ▸ hb
  | cons n p ih =>
    intro t b m N b' hp ht hN hb h
    cases m with
    | zero => simp [eat] at hp
    | succ m =>
      obtain ⟨htk, hp⟩ := eat_cons hp
      simp only [mtch] at h
      split at h
      · split at h
        · simp at h
        · split at h
          · rename_i g
            subst g
            exact ih _ _ _ N b' hp (eat_cons ht).2 (by simp only [List.length_cons] at hN; omega) hb h
          · simp at h
      · rename_i g0
        rw [(tok_neg htk (by omega)).1] at hp
        obtain ⟨c, r, e, e1, e2, e3, e4, e5⟩ := eat_first ht
        rw [e2] at h
        simp only [e5] at h
        split at h
        · exact ih _ _ _ N b' hp e3 (by rw [e, List.length_append] at hN; omega) (okB_set hb _ _ (by rw [e, List.length_append] at hN; omega) e1) h
        · simp at h
theorem spec_match_ev (s : List Int) (hs : goodSign s = true) (p : List Int) : ∀ (pre t : List Int) (b : List (List Int)) (m : Nat) (N : Nat), N ≤ 1000 → eat s p m = some [] → eat s t m = some [] → (pre ++ t).length ≤ N → okB s N b →
    Ev (fun k => spec_l2Match.go k s (pre ++ t) p b pre.length) (mout (mtch s p t b)) := by
  induction p with
  | nil => intro pre t b m N hN hp ht hl hb; simp only [spec_l2Match.go]; exact Ev.eq (Ev.ret _) rfl
  | cons n p ih =>
    intro pre t b m N hN hp ht hl hb
    cases m with
    | zero => simp [eat] at hp
    | succ m =>
      obtain ⟨htk, hp⟩ := eat_cons hp
      simp only [spec_l2Match.go, mtch]
      by_cases g : 0 ≤ n
      · rw [if_pos g]
        refine Ev.pos g ?_
        cases t with
        | nil => simp [eat] at ht
        | cons c t =>
          refine Ev.pos (by simp) ?_
          rw [rd_mid]
          by_cases g2 : n = c
          · subst g2
            have h := ih (pre ++ [n]) t b (m + ar s n) N hN hp (eat_cons ht).2 (by simpa using hl) hb
            exact Ev.eq (r := mout (mtch s p t b)) (Ev.pos rfl (by simpa using h)) (by simp)
          · exact Ev.eq (r := ([], false)) (Ev.neg g2 (Ev.ret _)) (by simp [g2, mout])
      · rw [if_neg g]
        obtain ⟨htn, htk2⟩ := tok_neg htk (by omega)
        rw [htn] at hp
        obtain ⟨c, r, e, e1, e2, e3, e4, e5⟩ := eat_first ht
        rw [e2]
        simp only [e5]
        have hb12 := hb.1
        have hbv := okB_get hb (-1 - n).toNat
        subst e
        have hcl : c.length ≤ N := by simp only [List.length_append] at hl; omega
        have hlen : (pre ++ (c ++ r)).length = pre.length + c.length + r.length := by simp only [List.length_append]; omega
        refine Ev.neg g (Ev.pos (by omega) (Ev.bnd (spec_l1Part_ev s hs pre c r e2 (by omega)) (Ev.pos (by omega) ?_)))
        have h := ih (pre ++ c) r (b.set (-1 - n).toNat c) m N hN hp e3 (by simpa using hl) (okB_set hb _ _ hcl e1)
        rw [List.append_assoc, List.length_append] at h
        by_cases g3 : b.getD (-1 - n).toNat [] = []
        · rw [if_pos (.inl g3)]
          exact Ev.neg (by rw [g3]; simp) h
        · refine Ev.pos (List.length_pos_iff.2 g3) (Ev.bnd (spec_l1Same_ev _ _ (by omega)) ?_)
          by_cases g4 : b.getD (-1 - n).toNat [] = c
          · rw [if_pos (.inr g4)]
            exact Ev.pos (decide_eq_true g4) h
          · rw [if_neg (by rintro (q | q); exact g3 q; exact g4 q)]
            exact Ev.neg (by rw [decide_eq_false g4]; simp) (Ev.eq (Ev.ret _) rfl)
theorem set_getD_self (b : List (List Int)) (v : Nat) : b.set v (b.getD v []) = b := by
  by_cases g : v < b.length
  · have e : b.getD v [] = b[v] := by simp [List.getD_eq_getElem?_getD, List.getElem?_eq_getElem g]
    rw [e, List.set_getElem_self]
  · rw [List.set_eq_of_length_le (by omega)]
theorem impl_match_ev (s : List Int) (hs : goodSign s = true) (p : List Int) : ∀ (pre t : List Int) (b : List (List Int)) (m : Nat) (N : Nat), N ≤ 1000 → eat s p m = some [] → eat s t m = some [] → (pre ++ t).length ≤ N → okB s N b →
    Ev (fun k => impl_Sign_match.go k s (pre ++ t) p b pre.length) (mout (mtch s p t b)) := by
  induction p with
  | nil =>
    intro pre t b m N hN hp ht hl hb
    cases m with
    | succ m => simp [eat] at hp
    | zero =>
      rw [eat_zero] at ht
      simp only [Option.some.injEq] at ht
      subst ht
      simp only [impl_Sign_match.go]
      exact Ev.eq (Ev.ret _) (by simp [mout, mtch])
  | cons n p ih =>
    intro pre t b m N hN hp ht hl hb
    cases m with
    | zero => simp [eat] at hp
    | succ m =>
      obtain ⟨htk, hp⟩ := eat_cons hp
      simp only [impl_Sign_match.go, mtch]
      have hpos : pre.length < (pre ++ t).length := by
        cases t with
        | nil => simp [eat] at ht
        | cons c t => simp
      refine Ev.pos hpos ?_
      by_cases g : 0 ≤ n
      · rw [if_pos g]
        refine Ev.pos g ?_
        cases t with
        | nil => simp [eat] at ht
        | cons c t =>
          rw [rd_mid]
          by_cases g2 : n = c
          · subst g2
            have h := ih (pre ++ [n]) t b (m + ar s n) N hN hp (eat_cons ht).2 (by simpa using hl) hb
            exact Ev.eq (r := mout (mtch s p t b)) (Ev.pos rfl (by simpa using h)) (by simp)
          · exact Ev.eq (r := ([], false)) (Ev.neg (fun q => g2 q.symm) (Ev.ret _)) (by simp [g2, mout])
      · rw [if_neg g]
        obtain ⟨htn, htk2⟩ := tok_neg htk (by omega)
        rw [htn] at hp
        obtain ⟨c, r, e, e1, e2, e3, e4, e5⟩ := eat_first ht
        rw [e2]
        simp only [e5]
        have hb12 := hb.1
        have hbv := okB_get hb (-1 - n).toNat
        subst e
        have hcl : c.length ≤ N := by simp only [List.length_append] at hl; omega
        have hlen : (pre ++ (c ++ r)).length = pre.length + c.length + r.length := by simp only [List.length_append]; omega
        refine Ev.neg g (Ev.pos (by omega) (Ev.bnd (impl_end_ev s hs pre (c ++ r) r (by omega) e2) (Ev.pos (by omega) ?_)))
        have h := ih (pre ++ c) r (b.set (-1 - n).toNat c) m N hN hp e3 (by simpa using hl) (okB_set hb _ _ hcl e1)
        rw [List.append_assoc, List.length_append] at h
        have ms := mid_slice pre c r
        rw [Int.toNat_natCast] at ms
        have en : (((pre ++ (c ++ r)).length : Int) - (r.length : Int)).toNat = pre.length + c.length := by omega
        rw [ms, en]
        by_cases g3 : b.getD (-1 - n).toNat [] = []
        · rw [if_pos (.inl g3)]
          exact Ev.pos (by rw [g3]; rfl) h
        · refine Ev.neg (fun q => g3 (List.eq_nil_of_length_eq_zero q)) (Ev.bnd (impl_Equal_ev _ _ (by omega)) ?_)
          by_cases g4 : b.getD (-1 - n).toNat [] = c
          · rw [if_pos (.inr g4)]
            have e9 := set_getD_self b (-1 - n).toNat
            rw [g4] at e9
            rw [e9] at h
            exact Ev.pos (decide_eq_true g4) (by rw [e9]; exact h)
          · rw [if_neg (by rintro (q | q); exact g3 q; exact g4 q)]
            exact Ev.neg (by rw [decide_eq_false g4]; simp) (Ev.eq (Ev.ret _) rfl)

/-! Subsuming. -/
theorem isTerm_of {s l : List Int} (h : isTerm s l = true) : l.length ≤ 40 ∧ eat s l 1 = some [] := by
  unfold isTerm at h
  simp only [Bool.and_eq_true, decide_eq_true_eq, beq_iff_eq] at h
  exact ⟨h.1.2, h.2⟩
theorem isLit_of {s : List Int} {x : S72} (h : isLit s x = true) : isTerm s x.f1 = true ∧ isTerm s x.f2 = true := by
  unfold isLit at h
  rwa [Bool.and_eq_true] at h
theorem okB_start (s : List Int) (N : Nat) : okB s N (List.replicate 12 []) := by
  refine ⟨by simp, fun x hx => ?_⟩
  have := List.eq_of_mem_replicate hx
  subst this
  simp
abbrev Rows : Type := List (List Int)
/-- Two patterns, one behind the other, then what follows. -/
def twoT (s : List Int) (R : Rows → Option Rows) (p1 t1 p2 t2 : List Int) (b : Rows) : Option Rows := (mtch s p1 t1 b).bind fun b1 => (mtch s p2 t2 b1).bind R
def sidesS (s : List Int) (R : Rows → Option Rows) (c0 : S72) (b : Rows) (x : S72) : Option Rows := match twoT s R c0.f1 x.f1 c0.f2 x.f2 b with
  | some y => some y
  | none => twoT s R c0.f1 x.f2 c0.f2 x.f1 b
def rowT (s : List Int) (R : Rows → Option Rows) (c0 : S72) (b : Rows) : List S72 → Option Rows
  | [] => none
  | x :: t => if x.f0 = c0.f0 then (match sidesS s R c0 b x with
    | some y => some y
    | none => rowT s R c0 b t) else rowT s R c0 b t
def subT (s : List Int) (d : List S72) : List S72 → Rows → Option Rows
  | [], b => some b
  | c0 :: c, b => rowT s (subT s d c) c0 b d
theorem twoT_ok {s : List Int} {R : Rows → Option Rows} {p1 t1 p2 t2 : List Int} {b y : Rows} (hR : ∀ b y, okB s 40 b → R b = some y → okB s 40 y) (h1 : isTerm s p1 = true) (h2 : isTerm s t1 = true) (h3 : isTerm s p2 = true) (h4 : isTerm s t2 = true) (hb : okB s 40 b) (h : twoT s R p1 t1 p2 t2 b = some y) : okB s 40 y := by
  unfold twoT at h
  obtain ⟨b1, e1, h⟩ := Option.bind_eq_some_iff.1 h
  obtain ⟨b2, e2, h⟩ := Option.bind_eq_some_iff.1 h
  obtain ⟨l1, q1⟩ := isTerm_of h1
  obtain ⟨l2, q2⟩ := isTerm_of h2
  obtain ⟨l3, q3⟩ := isTerm_of h3
  obtain ⟨l4, q4⟩ := isTerm_of h4
  exact hR _ _ (mtch_ok s p2 t2 b1 1 40 b2 q3 q4 l4 (mtch_ok s p1 t1 b 1 40 b1 q1 q2 l2 hb e1) e2) h
theorem sidesS_ok {s : List Int} {R : Rows → Option Rows} {c0 x : S72} {b y : Rows} (hR : ∀ b y, okB s 40 b → R b = some y → okB s 40 y) (hc : isLit s c0 = true) (hx : isLit s x = true) (hb : okB s 40 b) (h : sidesS s R c0 b x = some y) : okB s 40 y := by
  obtain ⟨c1, c2⟩ := isLit_of hc
  obtain ⟨x1, x2⟩ := isLit_of hx
  unfold sidesS at h
  cases e : twoT s R c0.f1 x.f1 c0.f2 x.f2 b with
  | some z =>
    rw [e] at h
    simp only [Option.some.injEq] at h
    subst h
    exact twoT_ok hR c1 x1 c2 x2 hb e
  | none =>
    rw [e] at h
    exact twoT_ok hR c1 x2 c2 x1 hb h
theorem rowT_ok {s : List Int} {R : Rows → Option Rows} {c0 : S72} {b : Rows} (hR : ∀ b y, okB s 40 b → R b = some y → okB s 40 y) (hc : isLit s c0 = true) (hb : okB s 40 b) (l : List S72) : ∀ {y : Rows}, (∀ x ∈ l, isLit s x = true) → rowT s R c0 b l = some y → okB s 40 y := by
  induction l with
  | nil => intro y _ h; simp [rowT] at h
  | cons x t ih =>
    intro y hx h
    simp only [rowT] at h
    split at h
    · split at h
      · rename_i z e
        simp only [Option.some.injEq] at h
        subst h
        exact sidesS_ok hR hc (hx x (by simp)) hb e
      · exact ih (fun z hz => hx z (by simp [hz])) h
    · exact ih (fun z hz => hx z (by simp [hz])) h
theorem subT_ok {s : List Int} {d : List S72} (hd : ∀ x ∈ d, isLit s x = true) (c : List S72) : ∀ {b y : Rows}, (∀ x ∈ c, isLit s x = true) → okB s 40 b → subT s d c b = some y → okB s 40 y := by
  induction c with
  | nil => intro b y _ hb h; simp only [subT, Option.some.injEq] at h; exact h ▸ hb
  | cons c0 c ih =>
    intro b y hc hb h
    simp only [subT] at h
    exact rowT_ok (fun b y hb h => ih (fun x hx => hc x (by simp [hx])) hb h) (hc c0 (by simp)) hb d hd h
theorem mout_2 (o : Option Rows) : (mout o).2 = true ↔ o.isSome = true := by cases o <;> simp [mout]
theorem impl_two_ev (s : List Int) (hs : goodSign s = true) (R : Nat → Rows → Option (Rows × Bool)) (RT : Rows → Option Rows) (hR : ∀ b, okB s 40 b → Ev (fun k => R k b) (mout (RT b))) (p1 t1 p2 t2 : List Int) (h1 : isTerm s p1 = true) (h2 : isTerm s t1 = true) (h3 : isTerm s p2 = true) (h4 : isTerm s t2 = true) (b : Rows) (hb : okB s 40 b) (g : Nat → Option (Option Rows)) (r : Option Rows) (hg : Ev g r) :
    Ev (fun k => (impl_Sign_match.go k s t1 p1 b 0).bind fun m1 => if m1.2 = true then (impl_Sign_match.go k s t2 p2 m1.1 0).bind fun m2 => if m2.2 = true then (R k m2.1).bind fun o => if o.2 = true then some (some o.1) else g k else g k else g k) (match twoT s RT p1 t1 p2 t2 b with | some y => some y | none => r) := by
  obtain ⟨l1, q1⟩ := isTerm_of h1
  obtain ⟨l2, q2⟩ := isTerm_of h2
  obtain ⟨l3, q3⟩ := isTerm_of h3
  obtain ⟨l4, q4⟩ := isTerm_of h4
  have hm := impl_match_ev s hs p1 [] t1 b 1 40 (by omega) q1 q2 (by simpa using l2) hb
  simp only [List.nil_append, List.length_nil] at hm
  refine Ev.bnd hm ?_
  unfold twoT
  cases e1 : mtch s p1 t1 b with
  | none => exact Ev.neg (by simp [mout]) (Ev.eq hg rfl)
  | some b1 =>
    have hb1 := mtch_ok s p1 t1 b 1 40 b1 q1 q2 l2 hb e1
    have hm2 := impl_match_ev s hs p2 [] t2 b1 1 40 (by omega) q3 q4 (by simpa using l4) hb1
    simp only [List.nil_append, List.length_nil] at hm2
    refine Ev.pos rfl (Ev.bnd hm2 ?_)
    simp only [Option.bind_some]
    cases e2 : mtch s p2 t2 b1 with
    | none => exact Ev.neg (by simp [mout]) (Ev.eq hg rfl)
    | some b2 =>
      have hb2 := mtch_ok s p2 t2 b1 1 40 b2 q3 q4 l4 hb1 e2
      refine Ev.pos rfl (Ev.bnd (hR b2 hb2) ?_)
      simp only [Option.bind_some]
      cases e3 : RT b2 with
      | none => exact Ev.neg (by simp [mout]) (Ev.eq hg rfl)
      | some b3 => exact Ev.pos rfl (Ev.eq (Ev.ret _) rfl)
theorem impl_sides_ev (s : List Int) (hs : goodSign s = true) (R : Nat → Rows → Option (Rows × Bool)) (RT : Rows → Option Rows) (hR : ∀ b, okB s 40 b → Ev (fun k => R k b) (mout (RT b))) (c0 x : S72) (hc : isLit s c0 = true) (hx : isLit s x = true) (b : Rows) (hb : okB s 40 b) :
    Ev (fun k => impl_Sign_subsume.sides k s (R k) c0 b x 2 0) (sidesS s RT c0 b x) := by
  obtain ⟨c1, c2⟩ := isLit_of hc
  obtain ⟨x1, x2⟩ := isLit_of hx
  have h2 := impl_two_ev s hs R RT hR c0.f1 x.f2 c0.f2 x.f1 c1 x2 c2 x1 b hb (fun _ => some none) none (Ev.ret _)
  have h1 := impl_two_ev s hs R RT hR c0.f1 x.f1 c0.f2 x.f2 c1 x1 c2 x2 b hb _ _ h2
  simp only [impl_Sign_subsume.sides]
  refine Ev.eq h1 ?_
  unfold sidesS
  cases twoT s RT c0.f1 x.f1 c0.f2 x.f2 b with
  | some y => rfl
  | none => simp only; cases twoT s RT c0.f1 x.f2 c0.f2 x.f1 b <;> rfl
theorem impl_row_ev (s : List Int) (hs : goodSign s = true) (R : Nat → Rows → Option (Rows × Bool)) (RT : Rows → Option Rows) (hR : ∀ b, okB s 40 b → Ev (fun k => R k b) (mout (RT b))) (c0 : S72) (hc : isLit s c0 = true) (b : Rows) (hb : okB s 40 b) (l : List S72) (hx : ∀ x ∈ l, isLit s x = true) :
    Ev (fun k => impl_Sign_subsume.row k s (R k) c0 b l) (rowT s RT c0 b l) := by
  induction l with
  | nil => exact Ev.ret _
  | cons x t ih =>
    have ih := ih (fun z hz => hx z (by simp [hz]))
    simp only [impl_Sign_subsume.row, rowT]
    by_cases g : x.f0 = c0.f0
    · rw [if_pos g]
      refine Ev.pos g (Ev.bnd (impl_sides_ev s hs R RT hR c0 x hc (hx x (by simp)) b hb) ?_)
      cases sidesS s RT c0 b x with
      | some y => exact Ev.ret _
      | none => exact ih
    · rw [if_neg g]
      exact Ev.neg g ih
theorem impl_sub_ev (s : List Int) (hs : goodSign s = true) (d : List S72) (hd : ∀ x ∈ d, isLit s x = true) (c : List S72) : ∀ b : Rows, (∀ x ∈ c, isLit s x = true) → okB s 40 b →
    Ev (fun k => impl_Sign_subsume.go k s d c b) (mout (subT s d c b)) := by
  induction c with
  | nil => intro b _ _; exact Ev.ret _
  | cons c0 c ih =>
    intro b hc hb
    simp only [impl_Sign_subsume.go, subT]
    refine Ev.bnd (impl_row_ev s hs (fun k b' => impl_Sign_subsume.go k s d c b') (subT s d c) (fun b hb => ih b (fun x hx => hc x (by simp [hx])) hb) c0 (hc c0 (by simp)) b hb d hd) ?_
    cases rowT s (subT s d c) c0 b d with
    | some y => exact Ev.ret _
    | none => exact Ev.ret _
theorem rdL2_mid (pre : List (List Int)) (x : List Int) (post : List (List Int)) : rd_L2 (pre ++ x :: post) (pre.length : Int) = x := by
  unfold rd_L2; simp
theorem copy_l0 (post : List (List Int)) : ∀ pre : List (List Int), (pre ++ post).length ≤ 100 → (∀ x ∈ post, x.length ≤ 40) →
    Ev (fun k => spec_l7Copy.l0 k pre (pre ++ post) ((pre ++ post).length : Int) (pre.length : Int)) (pre ++ post) := by
  induction post with
  | nil =>
    intro pre hl hx
    refine Ev.succ ?_
    simp only [spec_l7Copy.l0]
    exact Ev.neg (by simp) (Ev.eq (Ev.ret _) (by simp))
  | cons x post ih =>
    intro pre hl hx
    have h := ih (pre ++ [x]) (by simpa using hl) (fun y hy => hx y (by simp [hy]))
    simp only [List.length_append, List.length_cons] at hl
    refine Ev.succ ?_
    simp only [spec_l7Copy.l0]
    refine Ev.pos (by simp only [List.length_append, List.length_cons]; omega) (Ev.pos (by omega) (Ev.pos (by simp only [List.length_append, List.length_cons]; omega) ?_))
    rw [rdL2_mid, w64 (by omega) (by omega)]
    exact Ev.bnd1 (own_eq x (by have := hx x (by simp); omega)) (Ev.pos (by omega) (by simpa using h))
theorem copy_ev (s : List Int) (b : Rows) (hb : okB s 40 b) : Ev (fun k => spec_l7Copy.f k b) b := by
  simp only [spec_l7Copy.f]
  have h12 := hb.1
  simpa using copy_l0 b [] (by simp only [List.nil_append]; omega) (fun x hx => (hb.2 x hx).1)
theorem spec_two_ev (s : List Int) (hs : goodSign s = true) (R : Nat → Rows → Option (Rows × Bool)) (RT : Rows → Option Rows) (hR : ∀ b, okB s 40 b → Ev (fun k => R k b) (mout (RT b))) (p1 t1 p2 t2 : List Int) (h1 : isTerm s p1 = true) (h2 : isTerm s t1 = true) (h3 : isTerm s p2 = true) (h4 : isTerm s t2 = true) (b : Rows) (hb : okB s 40 b) (g : Nat → Option (Option Rows)) (r : Option Rows) (hg : Ev g r) :
    Ev (fun k => (spec_l7Copy.f k b).bind fun b1 => if b1.length = 12 then (spec_l2Match.go k s t1 p1 b1 0).bind fun m1 => if m1.2 = true then (spec_l2Match.go k s t2 p2 m1.1 0).bind fun m2 => if m2.2 = true then (R k m2.1).bind fun o => if o.2 = true then some (some o.1) else g k else g k else g k else none) (match twoT s RT p1 t1 p2 t2 b with | some y => some y | none => r) := by
  obtain ⟨l1, q1⟩ := isTerm_of h1
  obtain ⟨l2, q2⟩ := isTerm_of h2
  obtain ⟨l3, q3⟩ := isTerm_of h3
  obtain ⟨l4, q4⟩ := isTerm_of h4
  have hm := spec_match_ev s hs p1 [] t1 b 1 40 (by omega) q1 q2 (by simpa using l2) hb
  simp only [List.nil_append, List.length_nil] at hm
  refine Ev.bnd (copy_ev s b hb) (Ev.pos hb.1 (Ev.bnd hm ?_))
  unfold twoT
  cases e1 : mtch s p1 t1 b with
  | none => exact Ev.neg (by simp [mout]) (Ev.eq hg rfl)
  | some b1 =>
    have hb1 := mtch_ok s p1 t1 b 1 40 b1 q1 q2 l2 hb e1
    have hm2 := spec_match_ev s hs p2 [] t2 b1 1 40 (by omega) q3 q4 (by simpa using l4) hb1
    simp only [List.nil_append, List.length_nil] at hm2
    refine Ev.pos rfl (Ev.bnd hm2 ?_)
    simp only [Option.bind_some]
    cases e2 : mtch s p2 t2 b1 with
    | none => exact Ev.neg (by simp [mout]) (Ev.eq hg rfl)
    | some b2 =>
      have hb2 := mtch_ok s p2 t2 b1 1 40 b2 q3 q4 l4 hb1 e2
      refine Ev.pos rfl (Ev.bnd (hR b2 hb2) ?_)
      simp only [Option.bind_some]
      cases e3 : RT b2 with
      | none => exact Ev.neg (by simp [mout]) (Ev.eq hg rfl)
      | some b3 => exact Ev.pos rfl (Ev.eq (Ev.ret _) rfl)
theorem spec_sides_ev (s : List Int) (hs : goodSign s = true) (R : Nat → Rows → Option (Rows × Bool)) (RT : Rows → Option Rows) (hR : ∀ b, okB s 40 b → Ev (fun k => R k b) (mout (RT b))) (c0 x : S72) (hc : isLit s c0 = true) (hx : isLit s x = true) (b : Rows) (hb : okB s 40 b) :
    Ev (fun k => spec_l7Subsumes.sides k s (R k) c0 b x 2 0) (sidesS s RT c0 b x) := by
  obtain ⟨c1, c2⟩ := isLit_of hc
  obtain ⟨x1, x2⟩ := isLit_of hx
  have h2 := spec_two_ev s hs R RT hR c0.f1 x.f2 c0.f2 x.f1 c1 x2 c2 x1 b hb (fun _ => some none) none (Ev.ret _)
  have h1 := spec_two_ev s hs R RT hR c0.f1 x.f1 c0.f2 x.f2 c1 x1 c2 x2 b hb _ _ h2
  simp only [spec_l7Subsumes.sides]
  refine Ev.eq h1 ?_
  unfold sidesS
  cases twoT s RT c0.f1 x.f1 c0.f2 x.f2 b with
  | some y => rfl
  | none => simp only; cases twoT s RT c0.f1 x.f2 c0.f2 x.f1 b <;> rfl
theorem spec_row_ev (s : List Int) (hs : goodSign s = true) (R : Nat → Rows → Option (Rows × Bool)) (RT : Rows → Option Rows) (hR : ∀ b, okB s 40 b → Ev (fun k => R k b) (mout (RT b))) (c0 : S72) (hc : isLit s c0 = true) (b : Rows) (hb : okB s 40 b) (l : List S72) (hx : ∀ x ∈ l, isLit s x = true) :
    Ev (fun k => spec_l7Subsumes.row k s (R k) c0 b l) (rowT s RT c0 b l) := by
  induction l with
  | nil => exact Ev.ret _
  | cons x t ih =>
    have ih := ih (fun z hz => hx z (by simp [hz]))
    simp only [spec_l7Subsumes.row, rowT]
    by_cases g : x.f0 = c0.f0
    · rw [if_pos g]
      refine Ev.pos g (Ev.bnd (spec_sides_ev s hs R RT hR c0 x hc (hx x (by simp)) b hb) ?_)
      cases sidesS s RT c0 b x with
      | some y => exact Ev.ret _
      | none => exact ih
    · rw [if_neg g]
      exact Ev.neg g ih
theorem spec_sub_ev (s : List Int) (hs : goodSign s = true) (d : List S72) (hd : ∀ x ∈ d, isLit s x = true) (c : List S72) : ∀ b : Rows, (∀ x ∈ c, isLit s x = true) → okB s 40 b →
    Ev (fun k => spec_l7Subsumes.go k s d c b) (mout (subT s d c b)) := by
  induction c with
  | nil => intro b _ _; exact Ev.ret _
  | cons c0 c ih =>
    intro b hc hb
    simp only [spec_l7Subsumes.go, subT]
    refine Ev.bnd (spec_row_ev s hs (fun k b' => spec_l7Subsumes.go k s d c b') (subT s d c) (fun b hb => ih b (fun x hx => hc x (by simp [hx])) hb) c0 (hc c0 (by simp)) b hb d hd) ?_
    cases rowT s (subT s d c) c0 b d with
    | some y => exact Ev.ret _
    | none => exact Ev.ret _

theorem isItself_eq (l : List Int) (i : Nat) (hi : i ≤ 1000) : impl_isItself.f l (i : Int) = some (decide (l = [-1 - (i : Int)])) := by
  unfold impl_isItself.f
  by_cases g : l.length = 1
  · obtain ⟨x, rfl⟩ := List.length_eq_one_iff.1 g
    rw [if_pos (by simp), if_pos (by simp), w64 (by omega) (by omega)]
    congr 1
    have : rd [x] 0 = x := rfl
    rw [this]
    by_cases h : x = -1 - (i : Int)
    · simp [h]
    · have h2 : ¬ ([x] = [-1 - (i : Int)]) := by simpa using h
      rw [decide_eq_false h2]
      simpa using h
  · rw [if_neg (by omega), decide_eq_false]
    intro e
    rw [e] at g
    simp at g
theorem bare_stay (m : Nat) : ∀ (i : Nat) (b : Rows), i + m ≤ 1000 → impl_bare.go m i b = some (spec_l7Sub.stay m i b) := by
  induction m with
  | zero => intro i b _; rfl
  | succ m ih =>
    intro i b h
    simp only [impl_bare.go, spec_l7Sub.stay]
    rw [isItself_eq _ _ (by omega), Option.bind_some]
    by_cases g : b.getD i [] = [-1 - (i : Int)]
    · rw [decide_eq_true g, if_pos rfl, if_pos g]
      exact ih _ _ (by omega)
    · rw [decide_eq_false g, if_neg (by simp), if_neg g]
      exact ih _ _ (by omega)
theorem stay_ok (s : List Int) (m : Nat) : ∀ (i : Nat) (b : Rows), okB s 40 b → okB s 40 (spec_l7Sub.stay m i b) := by
  induction m with
  | zero => intro i b h; exact h
  | succ m ih =>
    intro i b h
    simp only [spec_l7Sub.stay]
    refine ih _ _ ?_
    split
    · refine ⟨by rw [List.length_set]; exact h.1, fun y hy => ?_⟩
      rcases List.mem_or_eq_of_mem_set hy with hy | rfl
      · exact h.2 y hy
      · simp
    · exact h
def subsT (s : List Int) (c d : List S72) : Option Rows := if c.length < 1 ∨ 4 < c.length ∨ d.length < c.length then none else (subT s d c (List.replicate 12 [])).map (spec_l7Sub.stay 12 0)
theorem isClause_of {s : List Int} {c : List S72} (h : isClause s c = true) : c.length ≤ 8 ∧ ∀ x ∈ c, isLit s x = true := by
  unfold isClause at h
  rw [Bool.and_eq_true, decide_eq_true_eq, List.all_eq_true] at h
  exact h
theorem lit_small {s : List Int} {x : S72} (h : isLit s x = true) : x.f1.length ≤ 1000000 ∧ x.f2.length ≤ 1000000 := by
  obtain ⟨h1, h2⟩ := isLit_of h
  have := (isTerm_of h1).1
  have := (isTerm_of h2).1
  omega
theorem subs_ev (s : List Int) (hs : goodSign s = true) (c d : List S72) (hc : isClause s c = true) (hd : isClause s d = true) :
    Ev (fun k => impl_Sign_subsumes.f k s c d) (mout (subsT s c d)) ∧ Ev (fun k => spec_l7Sub.f k s c d) (mout (subsT s c d)) ∧ ∀ y, subsT s c d = some y → okB s 40 y := by
  obtain ⟨_, hc⟩ := isClause_of hc
  obtain ⟨_, hd⟩ := isClause_of hd
  have hall : ((c ++ d).all fun x => decide (x.f1.length ≤ 1000000 ∧ x.f2.length ≤ 1000000)) = true := by
    rw [List.all_eq_true]
    intro x hx
    rcases List.mem_append.1 hx with hx | hx
    · exact decide_eq_true (lit_small (hc x hx))
    · exact decide_eq_true (lit_small (hd x hx))
  have hi := impl_sub_ev s hs d hd c _ hc (okB_start s 40)
  have hsp := spec_sub_ev s hs d hd c _ hc (okB_start s 40)
  have hok := fun y => subT_ok (s := s) hd c (b := List.replicate 12 []) (y := y) hc (okB_start s 40)
  unfold subsT
  by_cases g : c.length < 1 ∨ 4 < c.length ∨ d.length < c.length
  · rw [if_pos g]
    refine ⟨?_, ?_, fun y h => by cases h⟩
    · simp only [impl_Sign_subsumes.f]
      exact Ev.pos hall (Ev.pos g (Ev.eq (Ev.ret _) rfl))
    · simp only [spec_l7Sub.f]
      exact Ev.pos hall (Ev.pos g (Ev.eq (Ev.ret _) rfl))
  · rw [if_neg g]
    cases e : subT s d c (List.replicate 12 []) with
    | none =>
      rw [e] at hi hsp
      refine ⟨?_, ?_, fun y h => by cases h⟩
      · simp only [impl_Sign_subsumes.f]
        exact Ev.pos hall (Ev.neg g (Ev.bnd hi (Ev.neg (by simp [mout]) (Ev.eq (Ev.ret _) rfl))))
      · simp only [spec_l7Sub.f]
        exact Ev.pos hall (Ev.neg g (Ev.bnd hsp (Ev.neg (by simp [mout]) (Ev.eq (Ev.ret _) rfl))))
    | some b =>
      rw [e] at hi hsp
      refine ⟨?_, ?_, fun y h => ?_⟩
      · simp only [impl_Sign_subsumes.f]
        exact Ev.pos hall (Ev.neg g (Ev.bnd hi (Ev.pos rfl (Ev.bnd1 (bare_stay 12 0 b (by omega)) (Ev.eq (Ev.ret _) rfl)))))
      · simp only [spec_l7Sub.f]
        exact Ev.pos hall (Ev.neg g (Ev.bnd hsp (Ev.pos rfl (Ev.eq (Ev.ret _) rfl))))
      · simp only [Option.map_some, Option.some.injEq] at h
        subst h
        exact stay_ok s 12 0 b (hok b e)

/-! Several things at once, with enough rounds. -/
def Evp (P : Nat → Prop) : Prop := ∃ K, ∀ k, K ≤ k → P k
theorem Evp.and {P Q : Nat → Prop} (hp : Evp P) (hq : Evp Q) : Evp (fun k => P k ∧ Q k) := by
  obtain ⟨K1, h1⟩ := hp
  obtain ⟨K2, h2⟩ := hq
  exact ⟨K1 + K2, fun k hk => ⟨h1 k (by omega), h2 k (by omega)⟩⟩
theorem Evp.some {P : Nat → Prop} (h : Evp P) : ∃ k, P k := by
  obtain ⟨K, h⟩ := h
  exact ⟨K, h K (Nat.le_refl _)⟩
theorem Evp.of {α : Type} {g : Nat → Option α} {r : α} (h : Ev g r) : Evp (fun k => g k = .some r) := h
theorem Evp.const {p : Prop} (h : p) : Evp (fun _ => p) := ⟨0, fun _ _ => h⟩

def ups : Int → Nat → List Int
  | _, 0 => []
  | m, n + 1 => m :: ups (m + 1) n
theorem ups_len (n : Nat) : ∀ m, (ups m n).length = n := by
  induction n with
  | zero => intro m; rfl
  | succ n ih => intro m; simp [ups, ih]
theorem markIntS_l0 (post : List Int) : ∀ (pre : List Int) (m : Int), 0 ≤ m → m + post.length ≤ 4611686018427387904 → (pre ++ post).length ≤ 140737488351232 → Ev (fun k => laws_markIntS.l0 k (pre ++ post) m (pre.length : Int)) (m + post.length, pre ++ ups m post.length) := by
  induction post with
  | nil =>
    intro pre m h0 h1 hl
    refine Ev.succ ?_
    simp only [laws_markIntS.l0]
    exact Ev.neg (by simp) (Ev.eq (Ev.ret _) (by simp [ups]))
  | cons x post ih =>
    intro pre m h0 h1 hl
    simp only [List.length_append, List.length_cons] at hl h1
    have h := ih (pre ++ [m]) (m + 1) (by omega) (by omega) (by simp only [List.length_append, List.length_cons, List.length_nil]; omega)
    refine Ev.succ ?_
    simp only [laws_markIntS.l0]
    refine Ev.pos (by simp only [List.length_append, List.length_cons]; omega) (Ev.pos (by omega) ?_)
    rw [w64 (x := m + 1) (by omega) (by omega), w64 (by omega) (by omega)]
    have e : (pre ++ x :: post).set ((pre.length : Int)).toNat m = pre ++ [m] ++ post := by simp
    rw [e]
    refine Ev.eq (by simpa using h) ?_
    simp only [ups, List.length_cons, Prod.mk.injEq]
    exact ⟨by omega, trivial⟩
theorem markIntS (l : List Int) (m : Int) (h0 : 0 ≤ m) (h1 : m + l.length ≤ 4611686018427387904) (hl : l.length ≤ 140737488351232) : Ev (fun k => laws_markIntS.f k l m) (m + l.length, ups m l.length) := by
  simp only [laws_markIntS.f]
  simpa using markIntS_l0 l [] m h0 h1 (by simpa using hl)
theorem heldIntS_l0 (n : Nat) : ∀ (pre : List Int) (m : Int), 0 ≤ m → m + n ≤ 4611686018427387904 → pre.length + n ≤ 140737488351232 → Ev (fun k => laws_heldIntS.l0 k (pre ++ ups m n) m (pre.length : Int)) (m + n) := by
  induction n with
  | zero =>
    intro pre m h0 h1 hl
    refine Ev.succ ?_
    simp only [laws_heldIntS.l0]
    exact Ev.neg (by simp [ups]) (Ev.eq (Ev.ret _) (by simp))
  | succ n ih =>
    intro pre m h0 h1 hl
    have h := ih (pre ++ [m]) (m + 1) (by omega) (by omega) (by simp only [List.length_append, List.length_cons, List.length_nil]; omega)
    refine Ev.succ ?_
    simp only [laws_heldIntS.l0]
    refine Ev.pos (by simp only [List.length_append, ups_len]; omega) (Ev.pos (by omega) (Ev.pos (by simp only [ups]; exact rd_mid _ _ _) ?_))
    rw [w64 (x := m + 1) (by omega) (by omega), w64 (by omega) (by omega)]
    refine Ev.eq (by simpa [ups] using h) (by omega)
theorem heldIntS (n : Nat) (m : Int) (h0 : 0 ≤ m) (h1 : m + n ≤ 4611686018427387904) (hl : n ≤ 140737488351232) : Ev (fun k => laws_heldIntS.f k (ups m n) m) (m + n) := by
  simp only [laws_heldIntS.f]
  simpa using heldIntS_l0 n [] m h0 h1 (by simpa using hl)

theorem sum_le_mul {α : Type} (f : α → Nat) (c : Nat) (l : List α) (h : ∀ x ∈ l, f x ≤ c) : (l.map f).sum ≤ l.length * c := by
  induction l with
  | nil => simp
  | cons x t ih =>
    have h1 := ih (fun y hy => h y (by simp [hy]))
    have h2 := h x (by simp)
    rw [List.map_cons, List.sum_cons, List.length_cons, Nat.add_mul, Nat.one_mul]
    omega
theorem ltot_le (l : List S72) (hl : l.length ≤ 1048576) (hk : ∀ x ∈ l, smLit x) : ltot l ≤ 2199024304128 := by
  have h := sum_le_mul lsz 2097153 l (fun x hx => by have := hk x hx; unfold smLit at this; unfold lsz; omega)
  have h2 : l.length * 2097153 ≤ 1048576 * 2097153 := Nat.mul_le_mul_right _ hl
  unfold ltot
  omega
theorem okMarkL_of (l : List S72) (hk : ∀ x ∈ l, smLit x) : ∀ x ∈ l, okMarkL x := fun x hx => by have := hk x hx; unfold smLit at this; unfold okMarkL; omega
theorem markSign_ev (l : List Int) (m : Int) (h0 : 0 ≤ m) (h1 : m + l.length ≤ 4611686018427387904) (hl : l.length ≤ 140737488351232) : Ev (fun k => laws_markSign.f k l m) (m + l.length, ups m l.length) := by
  simp only [laws_markSign.f]
  exact Ev.bnd (markIntS l m h0 h1 hl) (Ev.ret _)

/-! Rows of rows of numbers, compared and marked. -/
def smSS (l : List (List Int)) : Prop := l.length ≤ 1000 ∧ ∀ x ∈ l, x.length ≤ 1000
def ssum (l : List (List Int)) : Nat := (l.map List.length).sum
def upsS : Int → List (List Int) → List (List Int)
  | _, [] => []
  | m, x :: t => ups m x.length :: upsS (m + x.length) t
theorem upsS_len (l : List (List Int)) : ∀ m, (upsS m l).length = l.length := by
  induction l with
  | nil => intro m; rfl
  | cons x t ih => intro m; simp [upsS, ih]
theorem ssum_le (l : List (List Int)) (h : smSS l) : ssum l ≤ 1000000 := by
  have h1 := sum_le_mul List.length 1000 l h.2
  have h2 : l.length * 1000 ≤ 1000 * 1000 := Nat.mul_le_mul_right _ h.1
  unfold ssum
  omega
theorem rdL2_mid' (pre : List (List Int)) (x : List Int) (post : List (List Int)) : rd_L2 (pre ++ x :: post) (pre.length : Int) = x := by
  unfold rd_L2; simp
theorem eqIntSS_l0 (post : List (List Int)) : ∀ pre : List (List Int), (pre ++ post).length ≤ 1000 → (∀ x ∈ post, x.length ≤ 1000) → Ev (fun k => laws_eqIntSS.l0 k (pre ++ post) (pre ++ post) (pre.length : Int)) true := by
  induction post with
  | nil =>
    intro pre hl hk
    refine Ev.succ ?_
    simp only [laws_eqIntSS.l0]
    exact Ev.neg (by simp) (Ev.ret _)
  | cons x post ih =>
    intro pre hl hk
    have h := ih (pre ++ [x]) (by simpa using hl) (fun y hy => hk y (by simp [hy]))
    have hx := hk x (by simp)
    simp only [List.length_append, List.length_cons] at hl
    refine Ev.succ ?_
    simp only [laws_eqIntSS.l0]
    refine Ev.pos (by simp only [List.length_append, List.length_cons]; omega) (Ev.pos (by omega) (Ev.pos (by simp only [List.length_append, List.length_cons]; omega) ?_))
    rw [rdL2_mid', w64 (by omega) (by omega)]
    exact Ev.bnd (eqIntS_self x (by omega)) (Ev.pos rfl (by simpa using h))
theorem eqIntSS_self (l : List (List Int)) (h : smSS l) : Ev (fun k => laws_eqIntSS.f k l l) true := by
  simp only [laws_eqIntSS.f]
  exact Ev.pos trivial (by simpa using eqIntSS_l0 l [] (by simpa using h.1) h.2)
theorem mkSS_ev (l : List (List Int)) : ∀ a : Int, 0 ≤ a → a + ssum l ≤ 4611686018427387904 → (∀ x ∈ l, x.length ≤ 1000) → Ev (fun k => mkSS k l a) (a + ssum l, upsS a l) := by
  induction l with
  | nil => intro a h0 h1 hk; exact Ev.eq (Ev.ret _) (by simp [ssum, upsS])
  | cons x t ih =>
    intro a h0 h1 hk
    have e : ssum (x :: t) = x.length + ssum t := by simp [ssum]
    rw [e] at h1 ⊢
    have hx := hk x (by simp)
    simp only [mkSS]
    refine Ev.bnd (markIntS x a h0 (by omega) (by omega)) (Ev.bnd (ih (a + x.length) (by omega) (by omega) (fun y hy => hk y (by simp [hy]))) (Ev.eq (Ev.ret _) ?_))
    simp only [upsS, Prod.mk.injEq]
    exact ⟨by omega, trivial⟩
theorem heldIntSS_l0 (l : List (List Int)) : ∀ (pre : List (List Int)) (a : Int), 0 ≤ a → a + ssum l ≤ 4611686018427387904 → (∀ x ∈ l, x.length ≤ 1000) → pre.length + l.length ≤ 1000 →
    Ev (fun k => laws_heldIntSS.l0 k (pre ++ upsS a l) a (pre.length : Int)) (a + ssum l) := by
  induction l with
  | nil =>
    intro pre a h0 h1 hk hl
    refine Ev.succ ?_
    simp only [laws_heldIntSS.l0]
    exact Ev.neg (by simp [upsS]) (Ev.eq (Ev.ret _) (by simp [ssum]))
  | cons x t ih =>
    intro pre a h0 h1 hk hl
    have e : ssum (x :: t) = x.length + ssum t := by simp [ssum]
    rw [e] at h1 ⊢
    have hx := hk x (by simp)
    rw [List.length_cons] at hl
    have h := ih (pre ++ [ups a x.length]) (a + x.length) (by omega) (by omega) (fun y hy => hk y (by simp [hy])) (by rw [List.length_append, List.length_singleton]; omega)
    refine Ev.succ ?_
    simp only [laws_heldIntSS.l0, upsS]
    refine Ev.pos (by simp only [List.length_append, List.length_cons, upsS_len]; omega) (Ev.pos (by omega) ?_)
    rw [rdL2_mid', w64 (by omega) (by omega)]
    refine Ev.bnd (heldIntS x.length a h0 (by omega) (by omega)) (Ev.neg (by omega) (Ev.eq (by simpa using h) (by omega)))
theorem heldIntSS_ev (l : List (List Int)) (a : Int) (h0 : 0 ≤ a) (h : smSS l) (h1 : a ≤ 1000) : Ev (fun k => laws_heldIntSS.f k (upsS a l) a) (a + ssum l) := by
  have := ssum_le l h
  simp only [laws_heldIntSS.f]
  simpa using heldIntSS_l0 l [] a h0 (by omega) h.2 (by simpa using h.1)

theorem okB_sm {s : List Int} {b : Rows} (h : okB s 40 b) : smSS b := ⟨by have := h.1; omega, fun x hx => by have := (h.2 x hx).1; omega⟩
theorem Subsumes_ex (s : List Int) (hs : s.length ≤ 1048576) (c : List S72) (hc : c.length ≤ 1048576) (hkc : ∀ x ∈ c, smLit x) (d : List S72) (hd : d.length ≤ 1048576) (hkd : ∀ x ∈ d, smLit x) :
    ∃ r : List (List Int) × Bool, smSS r.1 ∧ Ev (fun k => spec_Subsumes.f k s c d) r ∧ Ev (fun k => impl_Subsumes.f k s c d) r := by
  have g1 := spec_GoodClause_ev s hs c hc
  have g2 := impl_GoodClause_ev s c
  have sm0 : smSS [] := ⟨by simp, by simp⟩
  by_cases g : goodClause s c = true
  · have g' := g
    unfold goodClause at g'
    rw [Bool.and_eq_true] at g'
    obtain ⟨b, hb, eb⟩ := spec_l4Clause_tot s hs d hd
    have eb := eb g'.1
    subst eb
    by_cases gd : isClause s d = true
    · obtain ⟨i1, i2, i3⟩ := subs_ev s g'.1 c d g'.2 gd
      refine ⟨mout (subsT s c d), ?_, ?_, ?_⟩
      · cases e : subsT s c d with
        | none => exact sm0
        | some y => exact okB_sm (i3 y e)
      · simp only [spec_Subsumes.f]
        exact Ev.bnd g1 (Ev.pos g (Ev.bnd hb (Ev.pos gd (Ev.bnd i2 (Ev.ret _)))))
      · simp only [impl_Subsumes.f]
        exact Ev.bnd g2 (Ev.pos g (Ev.bnd (impl_isClause_ev s g'.1 d) (Ev.pos gd (Ev.bnd i1 (Ev.ret _)))))
    · refine ⟨([], false), sm0, ?_, ?_⟩
      · simp only [spec_Subsumes.f]
        exact Ev.bnd g1 (Ev.pos g (Ev.bnd hb (Ev.neg gd (Ev.ret _))))
      · simp only [impl_Subsumes.f]
        exact Ev.bnd g2 (Ev.pos g (Ev.bnd (impl_isClause_ev s g'.1 d) (Ev.neg gd (Ev.ret _))))
  · refine ⟨([], false), sm0, ?_, ?_⟩
    · simp only [spec_Subsumes.f]
      exact Ev.bnd g1 (Ev.neg g (Ev.ret _))
    · simp only [impl_Subsumes.f]
      exact Ev.bnd g2 (Ev.neg g (Ev.ret _))

theorem FnExactSubsumes : laws_FnExactSubsumes.Pure := by
  intro l0 l1 l2 h0 h1 h2
  have hm : (maxLen : Nat) ≤ 9223372036854775807 := by unfold maxLen; omega
  have hs0 : l0.length ≤ 9223372036854775807 := by have := h0.1; omega
  have hs1 : l1.length ≤ 9223372036854775807 := by have := h1.1; omega
  have hok1 : ∀ x ∈ l1, okLitA x := fun x hx => by
    obtain ⟨_, f1, f2⟩ := h1.2 x hx
    exact ⟨by have := f1.1; omega, by have := f2.1; omega⟩
  have hs2 : l2.length ≤ 9223372036854775807 := by have := h2.1; omega
  have hok2 : ∀ x ∈ l2, okLitA x := fun x hx => by
    obtain ⟨_, f1, f2⟩ := h2.2 x hx
    exact ⟨by have := f1.1; omega, by have := f2.1; omega⟩
  clear h0 h1 h2 hm
  suffices hF : ∃ k, laws_FnExactSubsumes.Facts k l0 l1 l2 by
    obtain ⟨k, h⟩ := hF
    exact ⟨k, laws_FnExactSubsumes.f_of h⟩
  have hz0 := szSign_eq l0 1048576 (by omega) (by omega) hs0
  by_cases g0 : (l0.length : Int) ≤ 1048576
  rotate_left
  · exact ⟨0, ⟨-1, by rw [hz0, if_neg g0], .inl (by omega)⟩⟩
  rw [if_pos g0] at hz0
  have hb0 : l0.length ≤ 1048576 := by omega
  obtain ⟨z1, hz1, hzr1, hzk1⟩ := szLitS_ev l1 (1048576 - (l0.length : Int)) (by omega) (by omega) hs1 hok1
  by_cases g1 : z1 < 0
  · obtain ⟨k, ehz1⟩ := (Evp.of hz1).some
    exact ⟨k, ⟨_, hz0, .inr ⟨by omega, ⟨_, ehz1, .inl g1⟩⟩⟩⟩
  obtain ⟨hb1, hkA1⟩ := hzk1 (by omega)
  have hl1 : (l1.map cvLit).length ≤ 1048576 := by rw [List.length_map]; exact hb1
  have hk1 := cvLit_sm hkA1
  obtain ⟨z2, hz2, hzr2, hzk2⟩ := szLitS_ev l2 z1 (by omega) (by omega) hs2 hok2
  by_cases g2 : z2 < 0
  · obtain ⟨k, ⟨ehz1, ehz2⟩⟩ := (Evp.and (Evp.of hz1) (Evp.of hz2)).some
    exact ⟨k, ⟨_, hz0, .inr ⟨by omega, ⟨_, ehz1, .inr ⟨by omega, ⟨_, ehz2, .inl g2⟩⟩⟩⟩⟩⟩
  obtain ⟨hb2, hkA2⟩ := hzk2 (by omega)
  have hl2 : (l2.map cvLit).length ≤ 1048576 := by rw [List.length_map]; exact hb2
  have hk2 := cvLit_sm hkA2
  obtain ⟨⟨r0, r1⟩, hlen, es, ei⟩ := Subsumes_ex l0 hb0 (l1.map cvLit) hl1 hk1 (l2.map cvLit) hl2 hk2
  simp only at hlen
  have hT1 := ltot_le (l1.map cvLit) hl1 hk1
  have hT2 := ltot_le (l2.map cvLit) hl2 hk2
  have hT9 := ssum_le r0 hlen
  obtain ⟨k, ehz1, ehz2, t0, t1, t2, es, ei, q0, q0_, q1_, q2_, k0_, mi, hi⟩ := (Evp.and (Evp.of hz1) (Evp.and (Evp.of hz2) (Evp.and (Evp.of (toSign_ev l0 hb0)) (Evp.and (Evp.of (toLitS_ev l1 hb1 hkA1)) (Evp.and (Evp.of (toLitS_ev l2 hb2 hkA2)) (Evp.and (Evp.of es) (Evp.and (Evp.of ei) (Evp.and (Evp.of (eqIntSS_self r0 hlen)) (Evp.and (Evp.of (eqSign_self l0 hb0)) (Evp.and (Evp.of (eqLitS_self _ hl1 hk1)) (Evp.and (Evp.of (eqLitS_self _ hl2 hk2)) (Evp.and (Evp.of (markSign_ev l0 1 (by omega) (by omega) (by omega))) (Evp.and (Evp.of (mkSS_ev r0 1 (by omega) (by omega) hlen.2)) (Evp.of (heldIntSS_ev r0 1 (by omega) hlen (by omega)))))))))))))))).some
  exact ⟨k, ⟨_, hz0, .inr ⟨by omega, ⟨_, ehz1, .inr ⟨by omega, ⟨_, ehz2, .inr ⟨by omega, ⟨(l1.map cvLit), (l2.map cvLit), r0, r1, (1 + (l0.length : Int)), ((1 + (l0.length : Int)) + ltot (l1.map cvLit)), (((1 + (l0.length : Int)) + ltot (l1.map cvLit)) + ltot (l2.map cvLit)), _, _, _, ⟨t0, t1, t2, es, ei, q0, q0_, q1_, q2_, (by omega), k0_, (by omega), ⟨⟨by omega, rfl, by omega⟩, okMarkL_of (l1.map cvLit) hk1, by omega⟩, (by omega), ⟨⟨by omega, rfl, by omega⟩, okMarkL_of (l2.map cvLit) hk2, by omega⟩, mi, hi, (by omega)⟩⟩⟩⟩⟩⟩⟩⟩⟩

end Go.Proofs.Ytlgnanbnicmdaaa.Pure
