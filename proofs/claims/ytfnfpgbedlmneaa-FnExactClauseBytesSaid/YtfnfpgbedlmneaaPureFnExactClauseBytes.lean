/- The program's ClauseBytes returns what the reference's returns, for all arguments.
Conditions: none beyond what the row itself says. -/
import Derived.Test.YtfnfpgbedlmneaaQFnExactClauseBytesx7
namespace Go.Proofs.Ytfnfpgbedlmneaa.Pure
open Go.RowKit Go.Proofs.Ytfnfpgbedlmneaa.QFnExactClauseBytes Go.Proofs.YtfnfpgbedlmneaaW.PrintWords Go.Proofs.YtfnfpgbedlmneaaW.PrintLast Go.Proofs.YtfnfpgbedlmneaaW.PrintMore
set_option linter.unusedVariables false
set_option linter.unusedSimpArgs false

theorem w64 {x : Int} (h0 : -9223372036854775808 ≤ x) (h1 : x ≤ 9223372036854775807) : wrap64 x = x := by
  unfold wrap64; omega
theorem wf64 {a : Int} (h : (Lit.int .i64 a).wf = true) : -9223372036854775808 ≤ a ∧ a ≤ 9223372036854775807 := by
  simp only [Lit.wf, IntKind.min, IntKind.max, IntKind.signed, IntKind.bits, Bool.and_eq_true, decide_eq_true_eq, if_true] at h
  omega

theorem Ev.succ {α : Type} {g : Nat → Option α} {r : α} (h : Ev (fun k => g (k + 1)) r) : Ev g r := Ev.step (fun _ => rfl) h
theorem Ev.pos {α : Type} {c : Prop} [Decidable c] {a b : Nat → Option α} {r : α} (h : c) (e : Ev (fun k => a k) r) : Ev (fun k => if c then a k else b k) r := Ev.congr (fun _ => if_pos h) e
theorem Ev.neg {α : Type} {c : Prop} [Decidable c] {a b : Nat → Option α} {r : α} (h : ¬ c) (e : Ev (fun k => b k) r) : Ev (fun k => if c then a k else b k) r := Ev.congr (fun _ => if_neg h) e
theorem Ev.bnd {α β : Type} {g : Nat → Option α} {f : Nat → α → Option β} {a : α} {r : β} (h : Ev (fun k => g k) a) (k : Ev (fun n => f n a) r) : Ev (fun n => (g n).bind (fun x => f n x)) r := Ev.bind h k
theorem Ev.bnd1 {α β : Type} {g : Option α} {f : Nat → α → Option β} {a : α} {r : β} (h : g = some a) (k : Ev (fun n => f n a) r) : Ev (fun n => g.bind (fun x => f n x)) r := by
  rw [h]; exact k
theorem Ev.ret {α : Type} (r : α) : Ev (fun _ => some r) r := Ev.now r
theorem Ev.eq {α : Type} {g : Nat → Option α} {r r' : α} (h : Ev g r) (e : r = r') : Ev g r' := e ▸ h
theorem Ev.all {α : Type} {g : Nat → Option α} {r : α} (h : Ev (fun k => g k) r) : ∃ k, g k = some r := h.rounds
theorem rd_mid (pre : List Int) (x : Int) (post : List Int) : rd (pre ++ x :: post) (pre.length : Int) = x := by
  unfold rd; simp
theorem rd_nat (xs : List Int) (i : Nat) (h : i < xs.length) : rd xs (i : Int) = xs[i] := by
  unfold rd; simp [List.getD_eq_getElem?_getD, List.getElem?_eq_getElem h]

theorem toIntS_l0 (post : List Int) : ∀ (pre rest : List Int), rest.length = post.length → (pre ++ post).length ≤ 140737488351232 → Ev (fun k => laws_toIntS.l0 k (pre ++ post) (pre ++ rest) (pre.length : Int)) (pre ++ post) := by
  induction post with
  | nil =>
    intro pre rest hr hl
    obtain rfl : rest = [] := List.eq_nil_of_length_eq_zero hr
    refine Ev.succ ?_
    simp only [laws_toIntS.l0]
    exact Ev.neg (by simp) (Ev.ret _)
  | cons x post ih =>
    intro pre rest hr hl
    obtain ⟨y, rest, rfl⟩ : ∃ y t, rest = y :: t := by cases rest with | nil => simp at hr | cons y t => exact ⟨y, t, rfl⟩
    have h := ih (pre ++ [x]) rest (by simpa using hr) (by simpa using hl)
    simp only [List.length_append, List.length_cons, List.length_nil] at hl hr h
    refine Ev.succ ?_
    simp only [laws_toIntS.l0, List.length_append, List.length_cons]
    refine Ev.pos (by omega) (Ev.pos (by omega) (Ev.pos (by omega) ?_))
    rw [rd_mid, w64 (by omega) (by omega)]
    have e : (pre ++ y :: rest).set ((pre.length : Int)).toNat x = pre ++ [x] ++ rest := by simp
    rw [e]
    simpa using h
theorem toIntS (l : List Int) (h : l.length * 8 ≤ 140737488351232) : Ev (fun k => laws_toIntS.f k l) l := by
  simp only [laws_toIntS.f]
  refine Ev.pos (by omega) (Ev.pos (by omega) ?_)
  have := toIntS_l0 l [] (List.replicate l.length 0) (by simp) (by simp; omega)
  simpa using this

theorem eqIntS_l0 (pa : List Int) : ∀ (pa' pb pb' : List Int), pa'.length = pb'.length → pa.length = pb.length → (pa' ++ pa).length ≤ 140737488351232 → Ev (fun k => laws_eqIntS.l0 k (pa' ++ pa) (pb' ++ pb) (pa'.length : Int)) (decide (pa = pb)) := by
  induction pa with
  | nil =>
    intro pa' pb pb' h1 h2 hl
    obtain rfl : pb = [] := List.eq_nil_of_length_eq_zero h2.symm
    refine Ev.succ ?_
    simp only [laws_eqIntS.l0]
    exact Ev.neg (by simp) (Ev.eq (Ev.ret _) (by simp))
  | cons x pa ih =>
    intro pa' pb pb' h1 h2 hl
    obtain ⟨y, pb, rfl⟩ : ∃ y t, pb = y :: t := by cases pb with | nil => simp at h2 | cons y t => exact ⟨y, t, rfl⟩
    have h := ih (pa' ++ [x]) pb (pb' ++ [y]) (by simpa using h1) (by simpa using h2) (by simpa using hl)
    simp only [List.length_append, List.length_cons, List.length_nil] at hl h2 h
    refine Ev.succ ?_
    simp only [laws_eqIntS.l0, List.length_append, List.length_cons]
    refine Ev.pos (by omega) (Ev.pos (by omega) (Ev.pos (by omega) ?_))
    rw [rd_mid, show (pa'.length : Int) = (pb'.length : Int) by omega, rd_mid]
    by_cases e : x = y
    · subst e
      refine Ev.pos rfl ?_
      rw [w64 (by omega) (by omega)]
      refine Ev.eq (Ev.congr (fun k => ?_) h) (by simp)
      simp [h1]
    · exact Ev.neg e (Ev.eq (Ev.ret _) (by simp [e]))
theorem eqIntS (a b : List Int) (h : a.length ≤ 140737488351232) : Ev (fun k => laws_eqIntS.f k a b) (decide (a = b)) := by
  simp only [laws_eqIntS.f]
  by_cases e : a.length = b.length
  · exact Ev.pos (by omega) (by simpa using eqIntS_l0 a [] b [] rfl e (by simpa using h))
  · exact Ev.neg (by omega) (Ev.eq (Ev.ret _) (by simp only [false_eq_decide_iff]; intro h; exact e (by rw [h])))
theorem eqIntS_self (a : List Int) (h : a.length ≤ 140737488351232) : Ev (fun k => laws_eqIntS.f k a a) true := Ev.eq (eqIntS a a h) (by simp)

theorem spec_in_eq (a lo hi : Int) : spec_l1In.f a lo hi = some (decide (lo ≤ a ∧ a ≤ hi)) := by
  unfold spec_l1In.f
  by_cases h1 : a ≥ lo
  · rw [if_pos h1]
    by_cases h2 : a ≤ hi
    · rw [decide_eq_true h2, decide_eq_true ⟨h1, h2⟩]
    · rw [decide_eq_false h2, decide_eq_false (fun h => h2 h.2)]
  · rw [if_neg h1, decide_eq_false (fun h => h1 h.1)]
def inAll (lo hi : Int) (l : List Int) : Bool := l.all fun x => decide (lo ≤ x ∧ x ≤ hi)
theorem spec_l1All_l0 (lo hi : Int) (post : List Int) : ∀ pre : List Int, (pre ++ post).length ≤ 140737488351232 → Ev (fun k => spec_l1All.l0 k lo hi (pre ++ post) ((pre ++ post).length : Int) (pre.length : Int)) (inAll lo hi post) := by
  induction post with
  | nil =>
    intro pre hl
    refine Ev.succ ?_
    simp only [spec_l1All.l0]
    exact Ev.neg (by simp) (Ev.ret _)
  | cons x post ih =>
    intro pre hl
    have h := ih (pre ++ [x]) (by simpa using hl)
    simp only [List.length_append, List.length_cons] at hl
    refine Ev.succ ?_
    simp only [spec_l1All.l0]
    refine Ev.pos (by simp only [List.length_append, List.length_cons]; omega) (Ev.pos (by omega) (Ev.pos (by simp only [List.length_append, List.length_cons]; omega) ?_))
    rw [rd_mid]
    refine Ev.bnd1 (spec_in_eq _ _ _) ?_
    by_cases hx : lo ≤ x ∧ x ≤ hi
    · rw [decide_eq_true hx]
      refine Ev.pos rfl ?_
      rw [w64 (by omega) (by omega)]
      refine Ev.eq (by simpa using h) ?_
      simp [inAll, hx]
    · rw [decide_eq_false hx]
      exact Ev.neg (by simp) (Ev.eq (Ev.ret _) (by simp only [inAll, List.all_cons, decide_eq_false hx, Bool.false_and]))
theorem spec_l1All_ev (lo hi : Int) (l : List Int) (hl : l.length ≤ 140737488351232) : Ev (fun k => spec_l1All.f k l lo hi) (inAll lo hi l) := by
  simp only [spec_l1All.f]
  simpa using spec_l1All_l0 lo hi l [] (by simpa using hl)
theorem inAll_mem {lo hi : Int} {l : List Int} (h : inAll lo hi l = true) : ∀ x ∈ l, lo ≤ x ∧ x ≤ hi := by
  intro x hx
  unfold inAll at h
  simpa using List.all_eq_true.1 h x hx

theorem anyO_not {α : Type} (f : α → Option Bool) (p : α → Bool) (l : List α) (h : ∀ x ∈ l, f x = some (!p x)) : anyO f l = some (!l.all p) := by
  induction l with
  | nil => rfl
  | cons x t ih =>
    simp only [anyO]
    rw [h x (by simp), Option.bind_some]
    cases hp : p x with
    | true => simp [hp, ih (fun y hy => h y (by simp [hy]))]
    | false => simp [hp]

def goodSign (s : List Int) : Bool := decide (1 ≤ s.length ∧ s.length ≤ 10) && (inAll 0 3 s && (rd s 0 == 0))
theorem goodSign_len {s : List Int} (h : goodSign s = true) : 1 ≤ s.length ∧ s.length ≤ 10 := by
  unfold goodSign at h
  simp only [Bool.and_eq_true, decide_eq_true_eq] at h
  exact h.1
theorem goodSign_mem {s : List Int} (h : goodSign s = true) : ∀ x ∈ s, 0 ≤ x ∧ x ≤ 3 := by
  unfold goodSign at h
  simp only [Bool.and_eq_true] at h
  exact inAll_mem h.2.1
theorem goodSign_rd {s : List Int} (h : goodSign s = true) (x : Int) (h0 : 0 ≤ x) (h1 : x < s.length) : 0 ≤ rd s x ∧ rd s x ≤ 3 := by
  obtain ⟨n, rfl⟩ : ∃ n : Nat, x = n := ⟨x.toNat, by omega⟩
  have hn : n < s.length := by omega
  rw [rd_nat s n hn]
  exact goodSign_mem h _ (List.getElem_mem hn)
theorem spec_GoodSign_ev (s : List Int) (hl : s.length ≤ 140737488351232) : Ev (fun k => spec_GoodSign.f k s) (goodSign s) := by
  simp only [spec_GoodSign.f]
  refine Ev.bnd1 (spec_in_eq _ _ _) ?_
  by_cases g : 1 ≤ s.length ∧ s.length ≤ 10
  · have g' : (1 : Int) ≤ (s.length : Int) ∧ (s.length : Int) ≤ 10 := by omega
    refine Ev.pos (decide_eq_true g') (Ev.bnd (spec_l1All_ev 0 3 s hl) ?_)
    unfold goodSign
    rw [decide_eq_true g, Bool.true_and]
    cases ha : inAll 0 3 s with
    | true => exact Ev.pos rfl (Ev.pos (by omega) (Ev.eq (Ev.ret _) rfl))
    | false => exact Ev.neg (by simp) (Ev.eq (Ev.ret _) rfl)
  · have g' : ¬ ((1 : Int) ≤ (s.length : Int) ∧ (s.length : Int) ≤ 10) := by omega
    refine Ev.neg (by rw [decide_eq_false g']; simp) (Ev.eq (Ev.ret _) ?_)
    unfold goodSign
    rw [decide_eq_false g, Bool.false_and]
theorem impl_GoodSign_any (s : List Int) : impl_GoodSign_1_any.f s = some (!inAll 0 3 s) := by
  unfold impl_GoodSign_1_any.f inAll
  refine anyO_not _ _ _ (fun x _ => ?_)
  unfold impl_GoodSign_1.f
  by_cases h1 : x < 0
  · rw [if_pos h1, decide_eq_false (by omega)]; rfl
  · rw [if_neg h1]
    by_cases h2 : x ≤ 3
    · rw [decide_eq_true (show 0 ≤ x ∧ x ≤ 3 by omega), decide_eq_false (by omega)]; rfl
    · rw [decide_eq_false (show ¬ (0 ≤ x ∧ x ≤ 3) by omega), decide_eq_true (by omega)]; rfl
theorem impl_GoodSign_eq (s : List Int) : impl_GoodSign.f s = some (goodSign s) := by
  unfold impl_GoodSign.f goodSign
  by_cases g : 1 ≤ s.length ∧ s.length ≤ 10
  · rw [if_neg (by omega), if_neg (by omega), if_pos (by omega), decide_eq_true g, Bool.true_and]
    by_cases e : rd s 0 = 0
    · rw [if_pos e, impl_GoodSign_any, e]; simp
    · rw [if_neg e]; simp [e]
  · rw [decide_eq_false g, Bool.false_and]
    by_cases h1 : (s.length : Int) < 1
    · rw [if_pos h1]
    · rw [if_neg h1, if_pos (by omega)]

/-! Terms in prefix form. -/
/-- How many arguments a token takes. -/
def ar (s : List Int) (x : Int) : Nat := if x < 0 then 0 else (rd s x).toNat
/-- Whether a number may stand in a term. -/
def tok (s : List Int) (x : Int) : Bool := decide (-12 ≤ x ∧ x < s.length)
/-- What is left of a row when so many terms are read off it. -/
def eat (s : List Int) : List Int → Nat → Option (List Int)
  | l, 0 => some l
  | [], _ + 1 => none
  | x :: l, n + 1 => if tok s x = true then eat s l (n + ar s x) else none
def isTerm (s : List Int) (l : List Int) : Bool := decide (1 ≤ l.length ∧ l.length ≤ 40) && (eat s l 1 == some [])
def goodTerm (s : List Int) (l : List Int) : Bool := goodSign s && isTerm s l
theorem ar_le {s : List Int} (h : goodSign s = true) {x : Int} (ht : tok s x = true) : ar s x ≤ 3 := by
  unfold tok at ht
  simp only [decide_eq_true_eq] at ht
  unfold ar
  by_cases g : x < 0
  · rw [if_pos g]; omega
  · rw [if_neg g]
    have := goodSign_rd h x (by omega) (by omega)
    omega
theorem ar_rd {s : List Int} (h : goodSign s = true) {x : Int} (h0 : 0 ≤ x) (ht : tok s x = true) : rd s x = (ar s x : Int) := by
  unfold tok at ht
  simp only [decide_eq_true_eq] at ht
  unfold ar
  rw [if_neg (by omega)]
  have := goodSign_rd h x (by omega) (by omega)
  omega
theorem eat_suf (s : List Int) (l : List Int) : ∀ (n : Nat) (r : List Int), eat s l n = some r → ∃ c, l = c ++ r := by
  induction l with
  | nil =>
    intro n r h
    cases n with
    | zero => simp only [eat, Option.some.injEq] at h; exact ⟨[], by simp [h]⟩
    | succ n => simp [eat] at h
  | cons x l ih =>
    intro n r h
    cases n with
    | zero => simp only [eat, Option.some.injEq] at h; exact ⟨[], by simp [h]⟩
    | succ n =>
      simp only [eat] at h
      split at h
      · obtain ⟨c, e⟩ := ih _ _ h
        exact ⟨x :: c, by rw [e]; rfl⟩
      · simp at h
theorem eat_zero (s : List Int) (l : List Int) : eat s l 0 = some l := by cases l <;> rfl
theorem eat_split (s : List Int) (l : List Int) : ∀ (n m : Nat) (r : List Int), eat s l (n + m) = some r → ∃ mid, eat s l n = some mid ∧ eat s mid m = some r := by
  induction l with
  | nil =>
    intro n m r h
    cases n with
    | zero => exact ⟨[], eat_zero _ _, by simpa using h⟩
    | succ n => rw [show n + 1 + m = (n + m) + 1 by omega] at h; simp [eat] at h
  | cons x l ih =>
    intro n m r h
    cases n with
    | zero => exact ⟨x :: l, eat_zero _ _, by simpa using h⟩
    | succ n =>
      rw [show n + 1 + m = (n + m) + 1 by omega] at h
      simp only [eat] at h ⊢
      split at h
      · rename_i ht
        rw [if_pos ht]
        exact ih _ _ _ (by rw [← h]; congr 1; omega)
      · simp at h
theorem spec_l1End_l0 (s : List Int) (hs : goodSign s = true) (l : List Int) : ∀ (pre : List Int) (n : Nat), (pre ++ l).length ≤ 1000000000 → n ≤ 3 * pre.length + 3 →
    Ev (fun k => spec_l1End.l0 k (pre ++ l) (pre.length : Int) (n : Int) s) (match eat s l n with | some r => ((pre ++ l).length : Int) - r.length | none => -1) := by
  have hsl := goodSign_len hs
  induction l with
  | nil =>
    intro pre n hl hn
    refine Ev.succ ?_
    simp only [spec_l1End.l0]
    cases n with
    | zero => exact Ev.neg (by simp) (Ev.eq (Ev.ret _) (by simp [eat]))
    | succ n =>
      refine Ev.pos (by omega) (Ev.pos (by simp) (Ev.succ ?_))
      simp only [spec_l1End.j1]
      exact Ev.pos trivial (Ev.eq (Ev.ret _) (by simp [eat]))
  | cons x l ih =>
    intro pre n hl hn
    have hl' := hl
    simp only [List.length_append, List.length_cons] at hl
    refine Ev.succ ?_
    simp only [spec_l1End.l0]
    cases n with
    | zero => exact Ev.neg (by simp) (Ev.eq (Ev.ret _) (by simp only [eat, List.length_append, List.length_cons]; omega))
    | succ n =>
      refine Ev.pos (by omega) (Ev.neg (by simp only [List.length_append, List.length_cons]; omega) (Ev.pos (by omega) (Ev.pos (by simp only [List.length_append, List.length_cons]; omega) ?_)))
      rw [rd_mid, w64 (x := (s.length : Int) - 1) (by omega) (by omega)]
      refine Ev.bnd1 (spec_in_eq _ _ _) (Ev.succ ?_)
      simp only [spec_l1End.j1]
      by_cases g : -12 ≤ x ∧ x ≤ (s.length : Int) - 1
      · have ht : tok s x = true := by unfold tok; exact decide_eq_true (by omega)
        have har := ar_le hs ht
        have h := ih (pre ++ [x]) (n + ar s x) (by simpa using hl') (by simp only [List.length_append, List.length_cons, List.length_nil]; omega)
        refine Ev.neg (by rw [decide_eq_true g]; simp) (Ev.pos (by omega) (Ev.pos (by simp only [List.length_append, List.length_cons]; omega) ?_))
        have e : eat s (x :: l) (n + 1) = eat s l (n + ar s x) := by simp only [eat]; rw [if_pos ht]
        rw [e]
        have e0 : wrap64 ((pre.length : Int) + 1) = (pre.length : Int) + 1 := w64 (by omega) (by omega)
        have e1 : wrap64 (((n + 1 : Nat) : Int) - 1) = (n : Int) := by rw [w64 (by omega) (by omega)]; omega
        rw [rd_mid, e0, e1]
        have h' : Ev (fun k => spec_l1End.l0 k (pre ++ x :: l) ((pre.length : Int) + 1) ((n : Int) + (ar s x : Int)) s) (match eat s l (n + ar s x) with | some r => ((pre ++ x :: l).length : Int) - r.length | none => -1) := by simpa using h
        by_cases g0 : x ≥ 0
        · refine Ev.pos g0 (Ev.pos g0 (Ev.pos (by omega) ?_))
          rw [ar_rd hs g0 ht, w64 (by omega) (by omega)]
          exact h'
        · refine Ev.neg g0 ?_
          have e2 : ar s x = 0 := by unfold ar; rw [if_pos (by omega)]
          rw [e2] at h' ⊢
          simpa using h'
      · have ht : ¬ tok s x = true := by unfold tok; rw [decide_eq_true_eq]; omega
        refine Ev.pos (by rw [decide_eq_false g]; rfl) (Ev.eq (Ev.ret _) ?_)
        simp only [eat]
        rw [if_neg ht]
theorem spec_l1End_ev (s : List Int) (hs : goodSign s = true) (pre l : List Int) (hl : (pre ++ l).length ≤ 1000000000) :
    Ev (fun k => spec_l1End.f k s (pre ++ l) (pre.length : Int)) (match eat s l 1 with | some r => ((pre ++ l).length : Int) - r.length | none => -1) := by
  simp only [spec_l1End.f]
  exact spec_l1End_l0 s hs l pre 1 hl (by omega)
theorem spec_l1Term_ev (s : List Int) (hs : goodSign s = true) (l : List Int) : Ev (fun k => spec_l1Term.f k s l) (isTerm s l) := by
  simp only [spec_l1Term.f]
  refine Ev.bnd1 (spec_in_eq _ _ _) ?_
  unfold isTerm
  by_cases g : 1 ≤ l.length ∧ l.length ≤ 40
  · have g' : (1 : Int) ≤ (l.length : Int) ∧ (l.length : Int) ≤ 40 := by omega
    have h := spec_l1End_ev s hs [] l (by simp; omega)
    refine Ev.pos (decide_eq_true g') (Ev.bnd (by simpa using h) (Ev.eq (Ev.ret _) ?_))
    rw [decide_eq_true g, Bool.true_and]
    cases e : eat s l 1 with
    | none => simp
    | some r =>
      cases r with
      | nil => simp
      | cons y r => simp; omega
  · have g' : ¬ ((1 : Int) ≤ (l.length : Int) ∧ (l.length : Int) ≤ 40) := by omega
    refine Ev.neg (by rw [decide_eq_false g']; simp) (Ev.eq (Ev.ret _) ?_)
    rw [decide_eq_false g, Bool.false_and]
theorem impl_args_eq (s : List Int) (hs : goodSign s = true) (x : Int) (ht : tok s x = true) : impl_Sign_args.f s x = some (ar s x : Int) := by
  unfold impl_Sign_args.f
  by_cases g : x < 0
  · rw [if_pos g]; unfold ar; rw [if_pos g]; rfl
  · have ht' := ht
    unfold tok at ht'
    simp only [decide_eq_true_eq] at ht'
    rw [if_neg g, if_pos (by omega), if_pos (by omega), ar_rd hs (by omega) ht]
theorem impl_isTerm_l0 (s : List Int) (hs : goodSign s = true) (l : List Int) : ∀ (pre : List Int) (n : Nat), (pre ++ l).length ≤ 1000000 → n ≤ 3 * pre.length + 3 →
    Ev (fun k => impl_Sign_isTerm.l0 k (n : Int) (pre ++ l) ((pre ++ l).length : Int) (pre.length : Int) s) (eat s l n == some []) := by
  have hsl := goodSign_len hs
  induction l with
  | nil =>
    intro pre n hl hn
    refine Ev.succ ?_
    simp only [impl_Sign_isTerm.l0]
    refine Ev.neg (by simp) (Ev.eq (Ev.ret _) ?_)
    cases n with
    | zero => rfl
    | succ n => first | (simp [eat]; done) | (simp [eat]; omega)
  | cons x l ih =>
    intro pre n hl hn
    have hl' := hl
    simp only [List.length_append, List.length_cons] at hl
    refine Ev.succ ?_
    simp only [impl_Sign_isTerm.l0]
    refine Ev.pos (by simp only [List.length_append, List.length_cons]; omega) (Ev.pos (by omega) (Ev.pos (by simp only [List.length_append, List.length_cons]; omega) ?_))
    cases n with
    | zero => exact Ev.pos rfl (Ev.eq (Ev.ret _) (by simp [eat]))
    | succ n =>
      refine Ev.neg (by omega) ?_
      rw [rd_mid]
      by_cases g1 : x < -12
      · refine Ev.pos g1 (Ev.eq (Ev.ret _) ?_)
        have ht : ¬ tok s x = true := by unfold tok; rw [decide_eq_true_eq]; omega
        simp only [eat]
        rw [if_neg ht]; rfl
      · refine Ev.neg g1 ?_
        by_cases g2 : x ≥ (s.length : Int)
        · refine Ev.pos g2 (Ev.eq (Ev.ret _) ?_)
          have ht : ¬ tok s x = true := by unfold tok; rw [decide_eq_true_eq]; omega
          simp only [eat]
          rw [if_neg ht]; rfl
        · refine Ev.neg g2 ?_
          have ht : tok s x = true := by unfold tok; exact decide_eq_true (by omega)
          have har := ar_le hs ht
          have h := ih (pre ++ [x]) (n + ar s x) (by simpa using hl') (by simp only [List.length_append, List.length_cons, List.length_nil]; omega)
          refine Ev.bnd1 (impl_args_eq s hs x ht) ?_
          have e0 : wrap64 ((pre.length : Int) + 1) = (pre.length : Int) + 1 := w64 (by omega) (by omega)
          have e1 : wrap64 ((ar s x : Int) - 1) = (ar s x : Int) - 1 := w64 (by omega) (by omega)
          have e2 : wrap64 (((n + 1 : Nat) : Int) + ((ar s x : Int) - 1)) = (n : Int) + (ar s x : Int) := by rw [w64 (by omega) (by omega)]; omega
          rw [e0, e1, e2]
          refine Ev.eq (by simpa using h) ?_
          simp only [eat]
          rw [if_pos ht]
theorem impl_isTerm_ev (s : List Int) (hs : goodSign s = true) (l : List Int) : Ev (fun k => impl_Sign_isTerm.f k s l) (isTerm s l) := by
  simp only [impl_Sign_isTerm.f]
  unfold isTerm
  by_cases g : l.length > 40
  · refine Ev.pos (by omega) (Ev.eq (Ev.ret _) ?_)
    rw [decide_eq_false (by omega), Bool.false_and]
  · refine Ev.neg (by omega) ?_
    have h := impl_isTerm_l0 s hs l [] 1 (by simp; omega) (by omega)
    refine Ev.eq (by simpa using h) ?_
    cases l with
    | nil => simp [eat]
    | cons x l => rw [decide_eq_true (show 1 ≤ (x :: l).length ∧ (x :: l).length ≤ 40 by simp only [List.length_cons] at g ⊢; omega), Bool.true_and]

theorem szIntS_eq (l : List Int) (a : Int) (h0 : 0 ≤ a) (h1 : a ≤ 1048576) (hl : l.length ≤ 9223372036854775807) : laws_szIntS.f l a = some (if (l.length : Int) ≤ a then a - l.length else -1) := by
  unfold laws_szIntS.f
  rw [w64 (x := a - (l.length : Int)) (by omega) (by omega)]
  by_cases g : a - (l.length : Int) < 0
  · rw [if_pos g, if_neg (by omega)]
  · rw [if_neg g, if_pos (by omega)]
theorem szSign_eq (l : List Int) (a : Int) (h0 : 0 ≤ a) (h1 : a ≤ 1048576) (hl : l.length ≤ 9223372036854775807) : laws_szSign.f l a = some (if (l.length : Int) ≤ a then a - l.length else -1) := by
  unfold laws_szSign.f
  rw [szIntS_eq l a h0 h1 hl, Option.bind_some]
  by_cases g : (l.length : Int) ≤ a
  · rw [if_pos g, if_neg (by omega)]
  · rw [if_neg g]; rfl
theorem toSign_ev (l : List Int) (h : l.length ≤ 1048576) : Ev (fun k => laws_toSign.f k l) l := by
  simp only [laws_toSign.f]
  exact Ev.bnd (toIntS l (by omega)) (Ev.ret _)
theorem eqSign_self (l : List Int) (h : l.length ≤ 1048576) : Ev (fun k => laws_eqSign.f k l l) true := by
  simp only [laws_eqSign.f]
  exact Ev.bnd (eqIntS_self l (by omega)) (Ev.pos rfl (Ev.ret _))

/-! Literals as the laws hand them over. -/
def okLitA (x : S40) : Prop := x.f1.length ≤ 9223372036854775807 ∧ x.f2.length ≤ 9223372036854775807
def smLitA (x : S40) : Prop := x.f1.length ≤ 1048576 ∧ x.f2.length ≤ 1048576
def cvLit (x : S40) : S44 := ⟨x.f0, x.f1, x.f2⟩
def smLit (x : S44) : Prop := x.f1.length ≤ 1048576 ∧ x.f2.length ≤ 1048576
theorem rdLA_mid (pre : List S40) (x : S40) (post : List S40) : rd_T40 (pre ++ x :: post) (pre.length : Int) = x := by
  unfold rd_T40; simp
theorem rdLB_mid (pre : List S44) (x : S44) (post : List S44) : rd_T44 (pre ++ x :: post) (pre.length : Int) = x := by
  unfold rd_T44; simp
theorem szLit_eq (b : Bool) (f1 f2 : List Int) (a : Int) (h0 : 0 ≤ a) (h1 : a ≤ 1048576) (hf1 : f1.length ≤ 9223372036854775807) (hf2 : f2.length ≤ 9223372036854775807) : ∃ r, laws_szLit.f b f1 f2 a = some r ∧ r ≤ a ∧ (0 ≤ r → f1.length ≤ 1048576 ∧ f2.length ≤ 1048576) := by
  unfold laws_szLit.f
  rw [szIntS_eq f1 a h0 h1 hf1, Option.bind_some]
  by_cases g : (f1.length : Int) ≤ a
  · rw [if_pos g, if_neg (by omega), szIntS_eq f2 _ (by omega) (by omega) hf2, Option.bind_some]
    by_cases g2 : (f2.length : Int) ≤ a - f1.length
    · rw [if_pos g2, if_neg (by omega)]; exact ⟨_, rfl, by omega, fun _ => by omega⟩
    · rw [if_neg g2]; exact ⟨-1, rfl, by omega, by omega⟩
  · rw [if_neg g]; exact ⟨-1, rfl, by omega, by omega⟩
theorem szLitS_l0 (post : List S40) : ∀ (pre : List S40) (a : Int), 0 ≤ a → a ≤ 1048576 → (∀ x ∈ post, okLitA x) → (pre ++ post).length ≤ 1048576 →
    ∃ r, Ev (fun k => laws_szLitS.l0 k (pre ++ post) a (pre.length : Int)) r ∧ r ≤ a ∧ (0 ≤ r → ∀ x ∈ post, smLitA x) := by
  induction post with
  | nil =>
    intro pre a h0 h1 hk hl
    refine ⟨a, Ev.succ ?_, by omega, by simp⟩
    simp only [laws_szLitS.l0]
    exact Ev.neg (by simp) (Ev.ret _)
  | cons x post ih =>
    intro pre a h0 h1 hk hl
    have hl' := hl
    simp only [List.length_append, List.length_cons] at hl
    have hx := hk x (by simp)
    obtain ⟨r, e, hr, hs⟩ := szLit_eq x.f0 x.f1 x.f2 a h0 h1 hx.1 hx.2
    by_cases g : r < 0
    · refine ⟨-1, Ev.succ ?_, by omega, by omega⟩
      simp only [laws_szLitS.l0]
      refine Ev.pos (by simp only [List.length_append, List.length_cons]; omega) (Ev.pos (by omega) ?_)
      rw [rdLA_mid]
      exact Ev.bnd1 e (Ev.pos g (Ev.ret _))
    · obtain ⟨r2, e2, hr2, hs2⟩ := ih (pre ++ [x]) r (by omega) (by omega) (fun y hy => hk y (by simp [hy])) (by simpa using hl')
      refine ⟨r2, Ev.succ ?_, by omega, fun h y hy => ?_⟩
      · simp only [laws_szLitS.l0]
        refine Ev.pos (by simp only [List.length_append, List.length_cons]; omega) (Ev.pos (by omega) ?_)
        rw [rdLA_mid, w64 (x := (pre.length : Int) + 1) (by omega) (by omega)]
        exact Ev.bnd1 e (Ev.neg g (by simpa using e2))
      · rcases List.mem_cons.1 hy with rfl | hy
        · exact hs (by omega)
        · exact hs2 h y hy
theorem szLitS_ev (l : List S40) (a : Int) (h0 : 0 ≤ a) (h1 : a ≤ 1048576) (hl : l.length ≤ 9223372036854775807) (hk : ∀ x ∈ l, okLitA x) :
    ∃ r, Ev (fun k => laws_szLitS.f k l a) r ∧ r ≤ a ∧ (0 ≤ r → l.length ≤ 1048576 ∧ ∀ x ∈ l, smLitA x) := by
  simp only [laws_szLitS.f]
  rw [w64 (x := a - (l.length : Int)) (by omega) (by omega)]
  by_cases g : a - (l.length : Int) < 0
  · exact ⟨-1, Ev.pos g (Ev.ret _), by omega, by omega⟩
  · obtain ⟨r, e, hr, hs⟩ := szLitS_l0 l [] (a - l.length) (by omega) (by omega) hk (by simp; omega)
    exact ⟨r, Ev.neg g (by simpa using e), by omega, fun h => ⟨by omega, hs h⟩⟩
theorem toLit_ev (b : Bool) (f1 f2 : List Int) (h1 : f1.length ≤ 1048576) (h2 : f2.length ≤ 1048576) : Ev (fun k => laws_toLit.f k b f1 f2) (b, f1, f2) := by
  simp only [laws_toLit.f]
  exact Ev.bnd (toIntS f1 (by omega)) (Ev.bnd (toIntS f2 (by omega)) (Ev.ret _))
theorem toLitS_l0 (post : List S40) : ∀ (pre : List S40) (pre' rest : List S44), pre'.length = pre.length → rest.length = post.length → (pre ++ post).length ≤ 1048576 → (∀ x ∈ post, smLitA x) →
    Ev (fun k => laws_toLitS.l0 k (pre ++ post) (pre' ++ rest) (pre.length : Int)) (pre' ++ post.map cvLit) := by
  induction post with
  | nil =>
    intro pre pre' rest hp hr hl hk
    obtain rfl : rest = [] := List.eq_nil_of_length_eq_zero hr
    refine Ev.succ ?_
    simp only [laws_toLitS.l0]
    exact Ev.neg (by simp) (Ev.ret _)
  | cons x post ih =>
    intro pre pre' rest hp hr hl hk
    obtain ⟨y, rest, rfl⟩ : ∃ y t, rest = y :: t := by cases rest with | nil => simp at hr | cons y t => exact ⟨y, t, rfl⟩
    have h := ih (pre ++ [x]) (pre' ++ [cvLit x]) rest (by simpa using hp) (by simpa using hr) (by simpa using hl) (fun z hz => hk z (by simp [hz]))
    simp only [List.length_append, List.length_cons, List.length_nil] at hl hr h
    have hx := hk x (by simp)
    refine Ev.succ ?_
    simp only [laws_toLitS.l0, List.length_append, List.length_cons]
    refine Ev.pos (by omega) (Ev.pos (by omega) ?_)
    rw [rdLA_mid, w64 (by omega) (by omega)]
    refine Ev.bnd (toLit_ev _ _ _ hx.1 hx.2) (Ev.pos (by omega) ?_)
    have e : (pre' ++ y :: rest).set ((pre.length : Int)).toNat ⟨x.f0, x.f1, x.f2⟩ = pre' ++ [cvLit x] ++ rest := by simp [← hp, cvLit]
    rw [e]
    simpa using h
theorem toLitS_ev (l : List S40) (h : l.length ≤ 1048576) (hk : ∀ x ∈ l, smLitA x) : Ev (fun k => laws_toLitS.f k l) (l.map cvLit) := by
  simp only [laws_toLitS.f]
  refine Ev.pos (by omega) (Ev.pos (by omega) ?_)
  have := toLitS_l0 l [] [] (List.replicate l.length z44) rfl (by simp) (by simp; omega) hk
  simpa using this
theorem cvLit_sm {l : List S40} (hk : ∀ x ∈ l, smLitA x) : ∀ x ∈ l.map cvLit, smLit x := by
  intro x hx
  obtain ⟨y, hy, rfl⟩ := List.mem_map.1 hx
  exact hk y hy
theorem eqLit_self (b : Bool) (f1 f2 : List Int) (h1 : f1.length ≤ 1048576) (h2 : f2.length ≤ 1048576) : Ev (fun k => laws_eqLit.f k b f1 f2 b f1 f2) true := by
  simp only [laws_eqLit.f]
  exact Ev.neg (by simp) (Ev.bnd (eqIntS_self f1 (by omega)) (Ev.pos rfl (Ev.bnd (eqIntS_self f2 (by omega)) (Ev.pos rfl (Ev.ret _)))))
theorem eqLitS_l0 (post : List S44) : ∀ pre : List S44, (pre ++ post).length ≤ 1048576 → (∀ x ∈ post, smLit x) → Ev (fun k => laws_eqLitS.l0 k (pre ++ post) (pre ++ post) (pre.length : Int)) true := by
  induction post with
  | nil =>
    intro pre hl hk
    refine Ev.succ ?_
    simp only [laws_eqLitS.l0]
    exact Ev.neg (by simp) (Ev.ret _)
  | cons x post ih =>
    intro pre hl hk
    have h := ih (pre ++ [x]) (by simpa using hl) (fun y hy => hk y (by simp [hy]))
    have hx := hk x (by simp)
    simp only [List.length_append, List.length_cons] at hl
    refine Ev.succ ?_
    simp only [laws_eqLitS.l0]
    refine Ev.pos (by simp only [List.length_append, List.length_cons]; omega) (Ev.pos (by omega) (Ev.pos (by simp only [List.length_append, List.length_cons]; omega) ?_))
    rw [rdLB_mid, w64 (by omega) (by omega)]
    exact Ev.bnd (eqLit_self _ _ _ hx.1 hx.2) (Ev.pos rfl (by simpa using h))
theorem eqLitS_self (l : List S44) (hl : l.length ≤ 1048576) (hk : ∀ x ∈ l, smLit x) : Ev (fun k => laws_eqLitS.f k l l) true := by
  simp only [laws_eqLitS.f]
  exact Ev.pos trivial (by simpa using eqLitS_l0 l [] (by simpa using hl) hk)

/-! Literals and clauses over a signature. -/
def isLit (s : List Int) (x : S44) : Bool := isTerm s x.f1 && isTerm s x.f2
def isClause (s : List Int) (l : List S44) : Bool := decide (l.length ≤ 8) && l.all (isLit s)
theorem spec_l1End_tot (s : List Int) (hsl : s.length ≤ 1048576) (l : List Int) : ∀ (pre : List Int) (n : Int), (pre ++ l).length ≤ 1000000000 → ∃ r, Ev (fun k => spec_l1End.l0 k (pre ++ l) (pre.length : Int) n s) r := by
  induction l with
  | nil =>
    intro pre n hl
    by_cases g : n > 0
    · refine ⟨-1, Ev.succ ?_⟩
      simp only [spec_l1End.l0]
      refine Ev.pos g (Ev.pos (by simp) (Ev.succ ?_))
      simp only [spec_l1End.j1]
      exact Ev.pos trivial (Ev.ret _)
    · refine ⟨(pre.length : Int), Ev.succ ?_⟩
      simp only [spec_l1End.l0]
      exact Ev.neg g (Ev.ret _)
  | cons x l ih =>
    intro pre n hl
    have hl' := hl
    simp only [List.length_append, List.length_cons] at hl
    by_cases g : n > 0
    · by_cases g1 : -12 ≤ x ∧ x ≤ (s.length : Int) - 1
      · by_cases g2 : x ≥ 0
        · obtain ⟨r, hr⟩ := ih (pre ++ [x]) (wrap64 (wrap64 (n - 1) + rd s x)) (by simpa using hl')
          refine ⟨r, Ev.succ ?_⟩
          simp only [spec_l1End.l0]
          refine Ev.pos g (Ev.neg (by simp only [List.length_append, List.length_cons]; omega) (Ev.pos (by omega) (Ev.pos (by simp only [List.length_append, List.length_cons]; omega) ?_)))
          rw [rd_mid, w64 (x := (s.length : Int) - 1) (by omega) (by omega)]
          refine Ev.bnd1 (spec_in_eq _ _ _) (Ev.succ ?_)
          simp only [spec_l1End.j1]
          refine Ev.neg (by rw [decide_eq_true g1]; simp) (Ev.pos (by omega) (Ev.pos (by simp only [List.length_append, List.length_cons]; omega) ?_))
          rw [rd_mid, w64 (x := (pre.length : Int) + 1) (by omega) (by omega)]
          exact Ev.pos g2 (Ev.pos g2 (Ev.pos (by omega) (by simpa using hr)))
        · obtain ⟨r, hr⟩ := ih (pre ++ [x]) (wrap64 (n - 1)) (by simpa using hl')
          refine ⟨r, Ev.succ ?_⟩
          simp only [spec_l1End.l0]
          refine Ev.pos g (Ev.neg (by simp only [List.length_append, List.length_cons]; omega) (Ev.pos (by omega) (Ev.pos (by simp only [List.length_append, List.length_cons]; omega) ?_)))
          rw [rd_mid, w64 (x := (s.length : Int) - 1) (by omega) (by omega)]
          refine Ev.bnd1 (spec_in_eq _ _ _) (Ev.succ ?_)
          simp only [spec_l1End.j1]
          refine Ev.neg (by rw [decide_eq_true g1]; simp) (Ev.pos (by omega) (Ev.pos (by simp only [List.length_append, List.length_cons]; omega) ?_))
          rw [rd_mid, w64 (x := (pre.length : Int) + 1) (by omega) (by omega)]
          exact Ev.neg g2 (by simpa using hr)
      · refine ⟨-1, Ev.succ ?_⟩
        simp only [spec_l1End.l0]
        refine Ev.pos g (Ev.neg (by simp only [List.length_append, List.length_cons]; omega) (Ev.pos (by omega) (Ev.pos (by simp only [List.length_append, List.length_cons]; omega) ?_)))
        rw [rd_mid, w64 (x := (s.length : Int) - 1) (by omega) (by omega)]
        refine Ev.bnd1 (spec_in_eq _ _ _) (Ev.succ ?_)
        simp only [spec_l1End.j1]
        exact Ev.pos (by rw [decide_eq_false g1]; rfl) (Ev.ret _)
    · refine ⟨(pre.length : Int), Ev.succ ?_⟩
      simp only [spec_l1End.l0]
      exact Ev.neg g (Ev.ret _)
/-- The reference's word about a term over any row of numbers: it is the word about terms where the row is a signature. -/
theorem spec_l1Term_tot (s : List Int) (hsl : s.length ≤ 1048576) (l : List Int) : ∃ b, Ev (fun k => spec_l1Term.f k s l) b ∧ (goodSign s = true → b = isTerm s l) := by
  by_cases hs : goodSign s = true
  · exact ⟨_, spec_l1Term_ev s hs l, fun _ => rfl⟩
  · simp only [spec_l1Term.f]
    by_cases g : (1 : Int) ≤ (l.length : Int) ∧ (l.length : Int) ≤ 40
    · obtain ⟨r, h⟩ := spec_l1End_tot s hsl l [] 1 (by simp only [List.nil_append]; omega)
      refine ⟨_, Ev.bnd1 (spec_in_eq _ _ _) (Ev.pos (decide_eq_true g) (Ev.bnd (a := r) ?_ (Ev.ret _))), fun h => absurd h hs⟩
      simp only [spec_l1End.f]
      simpa using h
    · exact ⟨_, Ev.bnd1 (spec_in_eq _ _ _) (Ev.neg (by rw [decide_eq_false g]; simp) (Ev.ret _)), fun h => absurd h hs⟩
theorem spec_l4Lit_tot (s : List Int) (hsl : s.length ≤ 1048576) (x : S44) : ∃ b, Ev (fun k => spec_l4Lit.f k s x.f0 x.f1 x.f2) b ∧ (goodSign s = true → b = isLit s x) := by
  obtain ⟨b1, h1, e1⟩ := spec_l1Term_tot s hsl x.f1
  obtain ⟨b2, h2, e2⟩ := spec_l1Term_tot s hsl x.f2
  simp only [spec_l4Lit.f]
  cases b1 with
  | true => exact ⟨b2, Ev.bnd h1 (Ev.pos rfl (Ev.bnd h2 (Ev.ret _))), fun h => by unfold isLit; rw [← e1 h, ← e2 h]; rfl⟩
  | false => exact ⟨false, Ev.bnd h1 (Ev.neg (by simp) (Ev.ret _)), fun h => by unfold isLit; rw [← e1 h]; rfl⟩
theorem spec_l4Clause_l0 (s : List Int) (hsl : s.length ≤ 1048576) (x1 : List S44) (post : List S44) : ∀ pre : List S44, (pre ++ post).length ≤ 1048576 →
    ∃ b, Ev (fun k => spec_l4Clause.l0 k x1 (pre ++ post) ((pre ++ post).length : Int) (pre.length : Int) s) b ∧ (goodSign s = true → b = (post.all (isLit s) && decide (x1.length ≤ 8))) := by
  induction post with
  | nil =>
    intro pre hl
    refine ⟨decide ((x1.length : Int) ≤ 8), Ev.succ ?_, fun _ => ?_⟩
    · simp only [spec_l4Clause.l0]
      exact Ev.neg (by simp) (Ev.ret _)
    · rw [List.all_nil, Bool.true_and]; congr 1; simp only [eq_iff_iff]; omega
  | cons x post ih =>
    intro pre hl
    have hl' := hl
    simp only [List.length_append, List.length_cons] at hl
    obtain ⟨b1, h1, e1⟩ := spec_l4Lit_tot s hsl x
    have pref : ∀ {g : Nat → Option Bool} {r : Bool}, Ev (fun k => (spec_l4Lit.f k s x.f0 x.f1 x.f2).bind fun t => if t = true then g k else some false) r → Ev (fun k => if (pre.length : Int) < ((pre ++ x :: post).length : Int) then (if 0 ≤ (pre.length : Int) then (if (pre.length : Int) < ((pre ++ x :: post).length : Int) then ((spec_l4Lit.f k s ((rd_T44 (pre ++ x :: post) (pre.length : Int)).f0) ((rd_T44 (pre ++ x :: post) (pre.length : Int)).f1) ((rd_T44 (pre ++ x :: post) (pre.length : Int)).f2)).bind fun t => if t = true then g k else some false) else none) else none) else some (decide ((x1.length : Int) ≤ 8))) r := by
      intro g r h
      refine Ev.pos (by simp only [List.length_append, List.length_cons]; omega) (Ev.pos (by omega) (Ev.pos (by simp only [List.length_append, List.length_cons]; omega) ?_))
      rw [rdLB_mid]
      exact h
    cases b1 with
    | true =>
      obtain ⟨b2, h2, e2⟩ := ih (pre ++ [x]) (by simpa using hl')
      refine ⟨b2, Ev.succ ?_, fun h => by rw [e2 h, List.all_cons, ← e1 h, Bool.true_and]⟩
      simp only [spec_l4Clause.l0]
      rw [w64 (x := (pre.length : Int) + 1) (by omega) (by omega)]
      exact pref (Ev.bnd h1 (Ev.pos rfl (by simpa using h2)))
    | false =>
      refine ⟨false, Ev.succ ?_, fun h => by rw [List.all_cons, ← e1 h, Bool.false_and, Bool.false_and]⟩
      simp only [spec_l4Clause.l0]
      exact pref (Ev.bnd h1 (Ev.neg (by simp) (Ev.ret _)))
theorem spec_l4Clause_tot (s : List Int) (hsl : s.length ≤ 1048576) (l : List S44) (hl : l.length ≤ 1048576) : ∃ b, Ev (fun k => spec_l4Clause.f k s l) b ∧ (goodSign s = true → b = isClause s l) := by
  obtain ⟨b, h, e⟩ := spec_l4Clause_l0 s hsl l l [] (by simpa using hl)
  simp only [spec_l4Clause.f]
  exact ⟨b, by simpa using h, fun hs => by rw [e hs, isClause, Bool.and_comm]⟩
theorem impl_isLit_ev (s : List Int) (hs : goodSign s = true) (x : S44) : Ev (fun k => impl_Sign_isLit.f k s x.f0 x.f1 x.f2) (isLit s x) := by
  simp only [impl_Sign_isLit.f]
  refine Ev.bnd (impl_isTerm_ev s hs x.f1) ?_
  unfold isLit
  cases isTerm s x.f1 with
  | true => exact Ev.pos rfl (Ev.bnd (impl_isTerm_ev s hs x.f2) (Ev.eq (Ev.ret _) rfl))
  | false => exact Ev.neg (by simp) (Ev.ret _)
/-- A search through a row whose word takes rounds. -/
theorem anyO_ev {α : Type} (f : Nat → α → Option Bool) (p : α → Bool) (l : List α) (h : ∀ x ∈ l, Ev (fun k => f k x) (!p x)) : Ev (fun k => anyO (fun x => f k x) l) (!l.all p) := by
  induction l with
  | nil => exact Ev.ret _
  | cons x t ih =>
    simp only [anyO]
    refine Ev.bnd (h x (by simp)) ?_
    cases hp : p x with
    | true => exact Ev.neg (by simp) (Ev.eq (ih (fun y hy => h y (by simp [hy]))) (by simp [hp]))
    | false => exact Ev.pos rfl (Ev.eq (Ev.ret _) (by simp [hp]))
theorem impl_isClause_ev (s : List Int) (hs : goodSign s = true) (l : List S44) : Ev (fun k => impl_Sign_isClause.f k s l) (isClause s l) := by
  simp only [impl_Sign_isClause.f, isClause]
  by_cases g : l.length ≤ 8
  · refine Ev.pos (by omega) (Ev.bnd (a := !l.all (isLit s)) ?_ (Ev.eq (Ev.ret _) ?_))
    · simp only [impl_Sign_isClause_1_any.f]
      refine anyO_ev _ _ _ (fun x _ => ?_)
      simp only [impl_Sign_isClause_1.f]
      exact Ev.bnd (impl_isLit_ev s hs x) (Ev.ret _)
    · rw [decide_eq_true g, Bool.not_not, Bool.true_and]
  · exact Ev.neg (by omega) (Ev.eq (Ev.ret _) (by rw [decide_eq_false g, Bool.false_and]))

theorem son_append (xs ys : List Int) : strOfNums xs ++ strOfNums ys = strOfNums (xs ++ ys) := by
  apply ByteArray.ext
  simp [strOfNums]
theorem son_nil : (⟨#[]⟩ : ByteArray) = strOfNums [] := by simp [strOfNums]
/-- The base-128 digits of a number, as bytes. -/
def vbytes (n : Nat) : List Int := if n < 128 then [(n : Int)] else ((n % 128 + 128 : Nat) : Int) :: vbytes (n / 128)
termination_by n
decreasing_by omega
theorem vbytes_lt {n : Nat} (h : n < 128) : vbytes n = [(n : Int)] := by rw [vbytes, if_pos h]
theorem vbytes_ge {n : Nat} (h : ¬ n < 128) : vbytes n = ((n % 128 + 128 : Nat) : Int) :: vbytes (n / 128) := by rw [vbytes, if_neg h]
theorem vbytes_pos (n : Nat) : 0 < (vbytes n).length := by
  rw [vbytes]; split <;> simp
theorem vbytes_len (n : Nat) : (vbytes n).length ≤ n + 1 := by
  induction n using Nat.strongRecOn with
  | _ n ih =>
    by_cases h : n < 128
    · rw [vbytes_lt h]; simp
    · rw [vbytes_ge h]
      have := ih (n / 128) (by omega)
      simp only [List.length_cons]
      omega
theorem tdiv_nat (n m : Nat) : Int.tdiv (n : Int) (m : Int) = ((n / m : Nat) : Int) := rfl
theorem tmod_nat (n m : Nat) : Int.tmod (n : Int) (m : Int) = ((n % m : Nat) : Int) := rfl

theorem varint_spec (n : Nat) : ∀ xs : List Int, xs.length + n ≤ 1099511627776 → Ev (fun k => spec_l10Varint.l0 k (n : Int) (strOfNums xs)) (strOfNums (xs ++ vbytes n)) := by
  induction n using Nat.strongRecOn with
  | _ n ih =>
    intro xs hl
    by_cases h : n < 128
    · refine Ev.step (f := fun _ => some (strOfNums (xs ++ vbytes n))) (fun k => ?_) (Ev.now _)
      simp only [spec_l10Varint.l0]
      rw [if_neg (by omega)]
      simp only [Option.bind_some]
      rw [if_pos (by simp only [strOfNums_size, List.length_cons, List.length_nil]; omega), son_append, vbytes_lt h]
      rw [show (n : Int) % 256 = n by omega]
    · refine Ev.step (f := fun k => spec_l10Varint.l0 k ((n / 128 : Nat) : Int) (strOfNums (xs ++ [((n % 128 + 128 : Nat) : Int)]))) (fun k => ?_) ?_
      · simp only [spec_l10Varint.l0]
        rw [if_pos (by omega)]
        simp only [Option.bind_some]
        rw [if_pos (by simp only [strOfNums_size, List.length_cons, List.length_nil]; omega), son_append]
        rw [show (128 : Int) = ((128 : Nat) : Int) from rfl, tdiv_nat, tmod_nat]
        rw [w64 (by omega) (by omega), w64 (by omega) (by omega)]
        rw [show (((n % 128 : Nat) : Int) + ((128 : Nat) : Int)) % 256 = ((n % 128 + 128 : Nat) : Int) by omega]
      · have := ih (n / 128) (by omega) (xs ++ [((n % 128 + 128 : Nat) : Int)]) (by simp only [List.length_append, List.length_cons, List.length_nil]; omega)
        rw [List.append_assoc, List.singleton_append, ← vbytes_ge h] at this
        exact this
theorem varint_spec_f (n : Nat) (h : n ≤ 1099511627776) : Ev (fun k => spec_l10Varint.f k (n : Int)) (strOfNums (vbytes n)) := by
  have := varint_spec n [] (by simpa using h)
  rw [← son_nil] at this
  exact this

theorem varint_impl (n : Nat) : ∀ xs : List Int, xs.length + n ≤ 1099511627776 → Ev (fun k => impl_putVarint.l0 k xs (n : Int)) (xs ++ vbytes n) := by
  induction n using Nat.strongRecOn with
  | _ n ih =>
    intro xs hl
    by_cases h : n < 128
    · refine Ev.step (f := fun _ => some (xs ++ vbytes n)) (fun k => ?_) (Ev.now _)
      simp only [impl_putVarint.l0]
      rw [if_neg (by omega), if_pos (by omega), vbytes_lt h]
      rw [show (n : Int) % 256 = n by omega]
    · refine Ev.step (f := fun k => impl_putVarint.l0 k (xs ++ [((n % 128 + 128 : Nat) : Int)]) ((n / 128 : Nat) : Int)) (fun k => ?_) ?_
      · simp only [impl_putVarint.l0]
        rw [if_pos (by omega), if_pos (by omega)]
        rw [show (128 : Int) = ((128 : Nat) : Int) from rfl, tdiv_nat, tmod_nat]
        rw [w64 (by omega) (by omega)]
        rw [show (((n % 128 : Nat) : Int) + ((128 : Nat) : Int)) % 256 = ((n % 128 + 128 : Nat) : Int) by omega]
      · have := ih (n / 128) (by omega) (xs ++ [((n % 128 + 128 : Nat) : Int)]) (by simp only [List.length_append, List.length_cons, List.length_nil]; omega)
        rw [List.append_assoc, List.singleton_append, ← vbytes_ge h] at this
        exact this
theorem varint_impl_f (xs : List Int) (n : Nat) (h : xs.length + n ≤ 1099511627776) : Ev (fun k => impl_putVarint.f k xs (n : Int)) (xs ++ vbytes n) :=
  varint_impl n xs h

/-! Strings as lists of numbers. -/
theorem bo_size (s : ByteArray) : (bytesOf s).length = s.size := by
  unfold bytesOf; rw [List.length_map, data_length]
theorem bo_range (s : ByteArray) : ∀ x ∈ bytesOf s, 0 ≤ x ∧ x ≤ 255 := by
  intro x hx
  unfold bytesOf at hx
  obtain ⟨b, _, rfl⟩ := List.mem_map.1 hx
  have := b.toNat_lt
  omega
theorem bo_son (xs : List Int) (h : ∀ x ∈ xs, 0 ≤ x ∧ x ≤ 255) : bytesOf (strOfNums xs) = xs := by
  unfold bytesOf
  rw [strOfNums_data, List.map_map]
  conv => rhs; rw [← List.map_id xs]
  apply List.map_congr_left
  intro x hx
  have := h x hx
  simp only [Function.comp_apply, id_eq, UInt8.toNat_ofNat']
  omega
theorem son_bo (s : ByteArray) : strOfNums (bytesOf s) = s := by
  apply ByteArray.ext
  apply Array.toList_inj.1
  rw [strOfNums_data]
  unfold bytesOf
  rw [List.map_map]
  conv => rhs; rw [← List.map_id s.data.toList]
  apply List.map_congr_left
  intro x _
  simp
theorem bo_inj {a b : ByteArray} (h : bytesOf a = bytesOf b) : a = b := by rw [← son_bo a, ← son_bo b, h]
theorem toList_iff (a b : ByteArray) : a.toList = b.toList ↔ a = b := by
  rw [ByteArray.toList_eq, ByteArray.toList_eq]
  exact ⟨fun h => ByteArray.ext (Array.toList_inj.1 h), fun h => by rw [h]⟩
theorem son_inj {xs ys : List Int} (hx : ∀ x ∈ xs, 0 ≤ x ∧ x ≤ 255) (hy : ∀ x ∈ ys, 0 ≤ x ∧ x ≤ 255) (h : strOfNums xs = strOfNums ys) : xs = ys := by
  rw [← bo_son xs hx, ← bo_son ys hy, h]
theorem bo_append (a b : ByteArray) : bytesOf (a ++ b) = bytesOf a ++ bytesOf b := by
  unfold bytesOf; simp
theorem bo_extract (s : ByteArray) (a b : Nat) : bytesOf (s.extract a b) = ((bytesOf s).take b).drop a := by
  unfold bytesOf
  rw [ByteArray.data_extract, Array.toList_extract, List.extract_eq_take_drop, ← List.map_take, ← List.map_drop, List.drop_take]
theorem bo_bt (s : ByteArray) (i : Int) : bt s i = (bytesOf s).getD i.toNat 0 := by
  unfold bt bytesOf
  split
  · rename_i h
    rw [List.getD_eq_getElem?_getD, List.getElem?_map, List.getElem?_eq_getElem (by rw [data_length]; exact h)]
    rfl
  · rename_i h
    rw [List.getD_eq_getElem?_getD, List.getElem?_map, List.getElem?_eq_none (by rw [data_length]; omega)]
    rfl
theorem bo_empty : bytesOf (⟨#[]⟩ : ByteArray) = [] := rfl
theorem son_cut (s : ByteArray) (a : Int) (n : Nat) (h0 : 0 ≤ a) (h : a + n ≤ s.size) :
    strOfNums ((List.range n).map fun (j : Nat) => bt s (a + (j : Int))) = s.extract a.toNat (a + n).toNat := by
  apply bo_inj
  rw [bo_son _ (fun x hx => by obtain ⟨j, _, rfl⟩ := List.mem_map.1 hx; exact bt_range _ _), bo_extract]
  apply List.ext_getElem
  · simp only [List.length_map, List.length_range, List.length_drop, List.length_take, bo_size]; omega
  · intro j h1 h2
    simp only [List.length_map, List.length_range] at h1
    rw [List.getElem_map, List.getElem_range, List.getElem_drop, List.getElem_take, bo_bt, List.getD_eq_getElem?_getD, List.getElem?_eq_getElem (by rw [bo_size]; omega)]
    simp only [Option.getD_some]
    congr 1
    omega

def zig (n : Int) : Int := if n < 0 then -2 * n - 1 else 2 * n
/-- Does the list have an encoding, behind this last number? -/
def lbOk : Int → List Int → Bool
  | _, [] => true
  | last, n :: t => if -1073741823 ≤ n ∧ n ≤ 1073741823 ∧ -536870911 ≤ n - last ∧ n - last ≤ 536870911 then lbOk n t else false
theorem lbOk_no {last n : Int} {t : List Int} (h : ¬ (-1073741823 ≤ n ∧ n ≤ 1073741823 ∧ -536870911 ≤ n - last ∧ n - last ≤ 536870911)) : ¬ lbOk last (n :: t) = true := by
  simp only [lbOk]; rw [if_neg h]; simp
def lbs : Int → List Int → List Int
  | _, [] => []
  | last, n :: t => vbytes (zig (n - last)).toNat ++ lbs n t
theorem zig_range {n : Int} (h1 : -536870911 ≤ n) (h2 : n ≤ 536870911) : 0 ≤ zig n ∧ zig n ≤ 1073741822 := by
  unfold zig; split <;> omega
theorem spec_zig {n : Int} (h1 : -536870911 ≤ n) (h2 : n ≤ 536870911) : spec_l10Zig.f n = some (zig n) := by
  unfold spec_l10Zig.f zig
  split
  · rw [w64 (x := -2 * n) (by omega) (by omega), w64 (by omega) (by omega)]
  · rw [w64 (by omega) (by omega)]
theorem lbs_len (t : List Int) : ∀ last, lbOk last t = true → (lbs last t).length ≤ t.length * 1073741823 := by
  induction t with
  | nil => intro last h; simp [lbs]
  | cons n t ih =>
    intro last h
    simp only [lbOk] at h
    split at h
    · rename_i hn
      have h1 := ih n h
      have h2 := vbytes_len (zig (n - last)).toNat
      have h3 := zig_range hn.2.2.1 hn.2.2.2
      simp only [lbs, List.length_append, List.length_cons]
      omega
    · simp at h
theorem spec_list_l0 (post : List Int) : ∀ (pre : List Int) (acc : List Int) (last : Int), lbOk last post = true → (pre ++ post).length ≤ 200 → acc.length + post.length * 1073741823 ≤ 1099511627776 →
    Ev (fun k => spec_l10List.l0 k (strOfNums acc) last (pre ++ post) ((pre ++ post).length : Int) (pre.length : Int)) (strOfNums (acc ++ lbs last post)) := by
  induction post with
  | nil =>
    intro pre acc last ho hl ha
    refine Ev.succ ?_
    simp only [spec_l10List.l0]
    exact Ev.neg (by simp) (Ev.eq (Ev.ret _) (by simp [lbs]))
  | cons n post ih =>
    intro pre acc last ho hl ha
    simp only [lbOk] at ho
    split at ho
    · rename_i hn
      have h3 := zig_range hn.2.2.1 hn.2.2.2
      have h2 := vbytes_len (zig (n - last)).toNat
      simp only [List.length_append, List.length_cons] at hl ha
      have h := ih (pre ++ [n]) (acc ++ vbytes (zig (n - last)).toNat) n ho (by simp only [List.length_append, List.length_cons, List.length_nil]; omega) (by simp only [List.length_append]; omega)
      refine Ev.succ ?_
      simp only [spec_l10List.l0]
      refine Ev.pos (by simp only [List.length_append, List.length_cons]; omega) (Ev.pos (by omega) (Ev.pos (by simp only [List.length_append, List.length_cons]; omega) ?_))
      rw [rd_mid, w64 (x := n - last) (by omega) (by omega)]
      refine Ev.bnd1 (spec_zig hn.2.2.1 hn.2.2.2) ?_
      have e : zig (n - last) = (((zig (n - last)).toNat : Nat) : Int) := by omega
      rw [e]
      refine Ev.bnd (varint_spec_f _ (by omega)) ?_
      refine Ev.pos (by simp only [strOfNums_size]; omega) ?_
      rw [son_append, w64 (by omega) (by omega)]
      simpa [lbs, List.append_assoc] using h
    · simp at ho
theorem spec_list (l : List Int) (ho : lbOk 0 l = true) (hl : l.length ≤ 200) : Ev (fun k => spec_l10List.f k l) (strOfNums (vbytes l.length ++ lbs 0 l)) := by
  simp only [spec_l10List.f]
  refine Ev.bnd (varint_spec_f l.length (by omega)) ?_
  have h2 := vbytes_len l.length
  have := spec_list_l0 l [] (vbytes l.length) 0 ho (by simpa using hl) (by omega)
  simpa using this
/-- What ListBytes answers. -/
def listBytes (l : List Int) : ByteArray × Bool := if l.length ≤ 200 ∧ lbOk 0 l = true then (strOfNums (vbytes l.length ++ lbs 0 l), true) else ((⟨#[]⟩ : ByteArray), false)

theorem impl_zig_in {n : Int} (h1 : -536870911 ≤ n) (h2 : n ≤ 536870911) : Ev (fun k => impl_ZigOf.f k n) (zig n, true) := by
  simp only [impl_ZigOf.f]
  refine Ev.neg (by omega) ?_
  rw [decide_eq_false (by omega)]
  refine Ev.succ ?_
  simp only [impl_ZigOf.j0]
  refine Ev.neg (by simp) ?_
  by_cases h : n < 0
  · refine Ev.pos h (Ev.eq (Ev.ret _) ?_)
    unfold zig
    rw [if_pos h, w64 (x := -2 * n) (by omega) (by omega), w64 (by omega) (by omega)]
  · refine Ev.neg h (Ev.eq (Ev.ret _) ?_)
    unfold zig
    rw [if_neg h, w64 (by omega) (by omega)]
theorem impl_zig_out {n : Int} (h : ¬ (-536870911 ≤ n ∧ n ≤ 536870911)) : Ev (fun k => impl_ZigOf.f k n) (0, false) := by
  simp only [impl_ZigOf.f]
  by_cases h1 : n < -536870911
  · refine Ev.pos h1 (Ev.succ ?_)
    simp only [impl_ZigOf.j0]
    exact Ev.pos trivial (Ev.ret _)
  · refine Ev.neg h1 ?_
    rw [decide_eq_true (by omega)]
    refine Ev.succ ?_
    simp only [impl_ZigOf.j0]
    exact Ev.pos trivial (Ev.ret _)
theorem impl_lb_l0 (post : List Int) : ∀ (pre : List Int) (last : Int) (acc : List Int), (∀ x ∈ post, -9223372036854775808 ≤ x ∧ x ≤ 9223372036854775807) → -1073741823 ≤ last ∧ last ≤ 1073741823 → (pre ++ post).length ≤ 200 → acc.length + post.length * 1073741823 ≤ 1099511627776 - 1073741823 →
    Ev (fun k => impl_ListBytes.l0 k acc last (pre ++ post) ((pre ++ post).length : Int) (pre.length : Int)) (if lbOk last post = true then (strOfNums (acc ++ lbs last post), true) else ((⟨#[]⟩ : ByteArray), false)) := by
  induction post with
  | nil =>
    intro pre last acc hw hl0 hl ha
    refine Ev.succ ?_
    simp only [impl_ListBytes.l0]
    exact Ev.neg (by simp) (Ev.eq (Ev.ret _) (by simp [lbs, lbOk]))
  | cons n post ih =>
    intro pre last acc hw hl0 hl ha
    have hn := hw n (by simp)
    have hl' := hl
    simp only [List.length_append, List.length_cons] at hl ha
    refine Ev.succ ?_
    simp only [impl_ListBytes.l0]
    refine Ev.pos (by simp only [List.length_append, List.length_cons]; omega) (Ev.pos (by omega) (Ev.pos (by simp only [List.length_append, List.length_cons]; omega) ?_))
    rw [rd_mid]
    have out : (b : Bool) → b = true → lbOk last (n :: post) = false → Ev (fun k => impl_ListBytes.j1 k acc last n (pre ++ n :: post) ((pre ++ n :: post).length : Int) (pre.length : Int) b) (if lbOk last (n :: post) = true then (strOfNums (acc ++ lbs last (n :: post)), true) else ((⟨#[]⟩ : ByteArray), false)) := by
      intro b hb he
      subst hb
      rw [he]
      refine Ev.succ ?_
      simp only [impl_ListBytes.j1]
      exact Ev.pos trivial (Ev.eq (Ev.ret _) (by simp))
    by_cases h1 : n < -1073741823
    · exact Ev.pos h1 (out true rfl (by simp only [lbOk]; rw [if_neg (by omega)]))
    · refine Ev.neg h1 ?_
      by_cases h2 : n > 1073741823
      · exact out _ (decide_eq_true h2) (by simp only [lbOk]; rw [if_neg (by omega)])
      · rw [decide_eq_false h2]
        refine Ev.succ ?_
        simp only [impl_ListBytes.j1]
        refine Ev.neg (by simp) ?_
        rw [w64 (x := n - last) (by omega) (by omega)]
        by_cases h3 : -536870911 ≤ n - last ∧ n - last ≤ 536870911
        · refine Ev.bnd (impl_zig_in h3.1 h3.2) ?_
          refine Ev.pos rfl ?_
          have hz := zig_range h3.1 h3.2
          have hv := vbytes_len (zig (n - last)).toNat
          have e : zig (n - last) = (((zig (n - last)).toNat : Nat) : Int) := by omega
          have e2 : lbOk last (n :: post) = lbOk n post := by simp only [lbOk]; rw [if_pos ⟨by omega, by omega, h3.1, h3.2⟩]
          have h := ih (pre ++ [n]) n (acc ++ vbytes (zig (n - last)).toNat) (fun x hx => hw x (by simp [hx])) (by omega) (by simpa using hl') (by simp only [List.length_append]; omega)
          simp only
          rw [e]
          refine Ev.bnd (varint_impl_f acc _ (by omega)) ?_
          rw [w64 (by omega) (by omega), e2]
          simpa [lbs] using h
        · refine Ev.bnd (impl_zig_out h3) ?_
          refine Ev.neg (by simp) (Ev.eq (Ev.ret _) ?_)
          rw [if_neg (lbOk_no (fun h => h3 ⟨h.2.2.1, h.2.2.2⟩))]
theorem impl_ListBytes_ev (l : List Int) (hw : ∀ x ∈ l, -9223372036854775808 ≤ x ∧ x ≤ 9223372036854775807) : Ev (fun k => impl_ListBytes.f k l) (listBytes l) := by
  simp only [impl_ListBytes.f]
  by_cases h : l.length ≤ 200
  · refine Ev.neg (by omega) ?_
    refine Ev.bnd (varint_impl_f [] l.length (by simp; omega)) ?_
    have h2 := vbytes_len l.length
    have := impl_lb_l0 l [] 0 (vbytes l.length) hw (by omega) (by simpa using h) (by omega)
    refine Ev.eq (by simpa using this) ?_
    unfold listBytes
    by_cases ho : lbOk 0 l = true
    · rw [if_pos ho, if_pos ⟨h, ho⟩]
    · rw [if_neg ho, if_neg (fun hh => ho hh.2)]
  · exact Ev.pos (by omega) (Ev.eq (Ev.ret _) (by unfold listBytes; rw [if_neg (fun hh => h hh.1)]))

/-! The bytes of a clause. -/
theorem eat_tok (s : List Int) (l : List Int) : ∀ n, eat s l n = some [] → ∀ x ∈ l, tok s x = true := by
  induction l with
  | nil => intro n h x hx; cases hx
  | cons y l ih =>
    intro n h x hx
    cases n with
    | zero => simp [eat] at h
    | succ n =>
      simp only [eat] at h
      split at h
      · rename_i g
        rcases List.mem_cons.1 hx with rfl | hx
        · exact g
        · exact ih _ h x hx
      · simp at h
theorem term_small (s t : List Int) (hs : goodSign s = true) (h : isTerm s t = true) : t.length ≤ 40 ∧ ∀ x ∈ t, -12 ≤ x ∧ x ≤ 12 := by
  have h10 := goodSign_len hs
  unfold isTerm at h
  rw [Bool.and_eq_true, decide_eq_true_eq, beq_iff_eq] at h
  refine ⟨h.1.2, fun x hx => ?_⟩
  have := eat_tok s t 1 h.2 x hx
  unfold tok at this
  rw [decide_eq_true_eq] at this
  omega
theorem lbs_small (t : List Int) : ∀ last, -12 ≤ last → last ≤ 12 → (∀ x ∈ t, -12 ≤ x ∧ x ≤ 12) → lbOk last t = true ∧ (lbs last t).length = t.length := by
  induction t with
  | nil => intro last h0 h1 hx; exact ⟨rfl, rfl⟩
  | cons n t ih =>
    intro last h0 h1 hx
    have hn := hx n (by simp)
    obtain ⟨i1, i2⟩ := ih n hn.1 hn.2 (fun x h => hx x (by simp [h]))
    refine ⟨?_, ?_⟩
    · simp only [lbOk]; rw [if_pos ⟨by omega, by omega, by omega, by omega⟩]; exact i1
    · have hz : (zig (n - last)).toNat < 128 := by unfold zig; split <;> omega
      simp only [lbs, List.length_append, List.length_cons, i2]
      rw [vbytes_lt hz, List.length_cons, List.length_nil]
      omega
def rowB (t : List Int) : ByteArray := strOfNums (vbytes t.length ++ lbs 0 t)
theorem sb_son (s : ByteArray) : strOfNums (sb s) = s := son_bo s
theorem sb_len (s : ByteArray) : (sb s).length = s.size := bo_size s
theorem rowB_size (t : List Int) (h40 : t.length ≤ 40) (hx : ∀ x ∈ t, -12 ≤ x ∧ x ≤ 12) : (rowB t).size ≤ 41 := by
  unfold rowB
  rw [strOfNums_size, List.length_append, (lbs_small t 0 (by omega) (by omega) hx).2, vbytes_lt (by omega), List.length_cons, List.length_nil]
  omega
theorem wrow_ev (L t : List Int) (hL : L.length ≤ 1000000) (h40 : t.length ≤ 40) (hx : ∀ x ∈ t, -12 ≤ x ∧ x ≤ 12) : Ev (fun k => wrow k L t) (L ++ sb (rowB t)) := by
  have hz := rowB_size t h40 hx
  have hb := impl_ListBytes_ev t (fun x h => by have := hx x h; omega)
  have e : listBytes t = (rowB t, true) := by
    unfold listBytes
    rw [if_pos ⟨by omega, (lbs_small t 0 (by omega) (by omega) hx).1⟩]; rfl
  rw [e] at hb
  simp only [wrow]
  exact Ev.bnd hb (Ev.pos (by simp only; omega) (Ev.ret _))
theorem spec_row_ev (t : List Int) (h40 : t.length ≤ 40) (hx : ∀ x ∈ t, -12 ≤ x ∧ x ≤ 12) : Ev (fun k => spec_l10List.f k t) (rowB t) := spec_list t (lbs_small t 0 (by omega) (by omega) hx).1 (by omega)
theorem clause_l0 (s : List Int) (hs : goodSign s = true) (post : List S44) : ∀ (pre : List S44) (L : List Int), (∀ x ∈ post, isLit s x = true) → (pre ++ post).length ≤ 8 → L.length + 100 * post.length ≤ 10000 →
    ∃ fin : List Int, Ev (fun k => wlits k L post) fin ∧ Ev (fun k => spec_l12Clause.l0 k (strOfNums L) (pre ++ post) ((pre ++ post).length : Int) (pre.length : Int)) (strOfNums fin) := by
  induction post with
  | nil =>
    intro pre L hl h8 hL
    refine ⟨L, ?_, Ev.succ ?_⟩
    · simp only [wlits]; exact Ev.ret _
    · simp only [spec_l12Clause.l0]
      exact Ev.neg (by simp) (Ev.ret _)
  | cons x post ih =>
    intro pre L hl h8 hL
    have h8' := h8
    simp only [List.length_append, List.length_cons] at h8 hL
    have hx := hl x (by simp)
    unfold isLit at hx
    rw [Bool.and_eq_true] at hx
    obtain ⟨a1, a2⟩ := term_small s x.f1 hs hx.1
    obtain ⟨b1, b2⟩ := term_small s x.f2 hs hx.2
    have z1 := rowB_size x.f1 a1 a2
    have z2 := rowB_size x.f2 b1 b2
    have s1 := spec_row_ev x.f1 a1 a2
    have s2 := spec_row_ev x.f2 b1 b2
    obtain ⟨n, hn, hnx⟩ : ∃ n : Nat, n ≤ 1 ∧ (if x.f0 = true then (1 : Int) else 0) = n := by
      cases x.f0 with
      | true => exact ⟨1, by omega, rfl⟩
      | false => exact ⟨0, by omega, rfl⟩
    have hv : vbytes n = [(n : Int)] := vbytes_lt (by omega)
    have hp := varint_impl_f L n (by omega)
    have hq := varint_spec_f n (by omega)
    rw [hv] at hp hq
    have w1 := wrow_ev (L ++ [(n : Int)]) x.f1 (by simp only [List.length_append, List.length_cons, List.length_nil]; omega) a1 a2
    have w2 := wrow_ev (L ++ [(n : Int)] ++ sb (rowB x.f1)) x.f2 (by simp only [List.length_append, List.length_cons, List.length_nil, sb_len]; omega) b1 b2
    obtain ⟨fin, e1, e2⟩ := ih (pre ++ [x]) (L ++ [(n : Int)] ++ sb (rowB x.f1) ++ sb (rowB x.f2)) (fun y hy => hl y (by simp [hy])) (by simpa using h8') (by simp only [List.length_append, List.length_cons, List.length_nil, sb_len]; omega)
    refine ⟨fin, ?_, ?_⟩
    · simp only [wlits, wlit]
      rw [hnx]
      exact Ev.bnd (a := L ++ [(n : Int)] ++ sb (rowB x.f1) ++ sb (rowB x.f2)) (Ev.bnd hp (Ev.bnd w1 w2)) e1
    · have es : strOfNums (L ++ [(n : Int)] ++ sb (rowB x.f1) ++ sb (rowB x.f2)) = strOfNums L ++ ((strOfNums [(n : Int)] ++ rowB x.f1) ++ rowB x.f2) := by
        rw [← son_append, ← son_append, ← son_append, sb_son, sb_son, ByteArray.append_assoc, ByteArray.append_assoc, ByteArray.append_assoc]
      rw [es] at e2
      have q1 : (strOfNums [(n : Int)]).size = 1 := by rw [strOfNums_size]; rfl
      have q0 : (strOfNums L).size = L.length := strOfNums_size L
      refine Ev.succ ?_
      simp only [spec_l12Clause.l0, List.length_append, List.length_cons]
      rw [rdLB_mid, w64 (x := (pre.length : Int) + 1) (by omega) (by omega)]
      refine Ev.pos (by omega) (Ev.pos (by omega) (Ev.pos (by omega) ?_))
      cases h0 : x.f0 with
      | true =>
        rw [h0] at hnx
        obtain rfl : n = 1 := by simp at hnx; omega
        exact Ev.pos rfl (Ev.bnd hq (Ev.bnd s1 (Ev.pos (by omega) (Ev.bnd s2 (Ev.pos (by rw [ByteArray.size_append]; omega) (Ev.pos (by rw [ByteArray.size_append, ByteArray.size_append]; omega) (by simpa using e2)))))))
      | false =>
        rw [h0] at hnx
        obtain rfl : n = 0 := by simp at hnx; omega
        exact Ev.neg (by simp) (Ev.bnd hq (Ev.bnd s1 (Ev.pos (by omega) (Ev.bnd s2 (Ev.pos (by rw [ByteArray.size_append]; omega) (Ev.pos (by rw [ByteArray.size_append, ByteArray.size_append]; omega) (by simpa using e2)))))))
theorem clauseBytes_ex (s : List Int) (hsl : s.length ≤ 1048576) (c : List S44) (hc : c.length ≤ 1048576) : ∃ r : ByteArray × Bool, Ev (fun k => spec_ClauseBytes.f k s c) r ∧ Ev (fun k => impl_ClauseBytes.f k s c) r := by
  obtain ⟨b, hb, eb⟩ := spec_l4Clause_tot s hsl c hc
  have hg := spec_GoodSign_ev s (by omega)
  have ig := impl_GoodSign_eq s
  simp only [spec_ClauseBytes.f, impl_ClauseBytes.f, spec_GoodClause.f, impl_GoodClause.f]
  cases hs : goodSign s with
  | false =>
    rw [hs] at hg ig
    exact ⟨((⟨#[]⟩ : ByteArray), false), Ev.bnd (a := false) (Ev.bnd hg (Ev.neg (by simp) (Ev.ret _))) (Ev.neg (by simp) (Ev.ret _)), Ev.bnd (a := false) (Ev.bnd1 ig (Ev.neg (by simp) (Ev.ret _))) (Ev.neg (by simp) (Ev.ret _))⟩
  | true =>
    rw [hs] at hg ig
    have ic := impl_isClause_ev s hs c
    have e := eb hs
    subst e
    cases hcl : isClause s c with
    | false =>
      rw [hcl] at hb ic
      exact ⟨((⟨#[]⟩ : ByteArray), false), Ev.bnd (a := false) (Ev.bnd hg (Ev.pos rfl (Ev.bnd hb (Ev.ret _)))) (Ev.neg (by simp) (Ev.ret _)), Ev.bnd (a := false) (Ev.bnd1 ig (Ev.pos rfl (Ev.bnd ic (Ev.ret _)))) (Ev.neg (by simp) (Ev.ret _))⟩
    | true =>
      rw [hcl] at hb ic
      unfold isClause at hcl
      rw [Bool.and_eq_true, decide_eq_true_eq] at hcl
      have hv : vbytes c.length = [(c.length : Int)] := vbytes_lt (by omega)
      have hp := varint_impl_f [] c.length (by simp only [List.length_nil]; omega)
      have hq := varint_spec_f c.length (by omega)
      rw [hv] at hp hq
      obtain ⟨fin, e1, e2⟩ := clause_l0 s hs c [] ([] ++ [(c.length : Int)]) (fun x hx => List.all_eq_true.1 hcl.2 x hx) (by simpa using hcl.1) (by simp only [List.nil_append, List.length_cons, List.length_nil]; omega)
      refine ⟨(strOfNums fin, true), Ev.bnd (a := true) (Ev.bnd hg (Ev.pos rfl (Ev.bnd hb (Ev.ret _)))) (Ev.pos rfl (Ev.bnd (a := strOfNums fin) ?_ (Ev.ret _))), Ev.bnd (a := true) (Ev.bnd1 ig (Ev.pos rfl (Ev.bnd ic (Ev.ret _)))) (Ev.pos rfl (Ev.pos (by omega) (Ev.bnd hp (Ev.bnd e1 (Ev.ret _)))))⟩
      simp only [spec_l12Clause.f]
      exact Ev.bnd hq (by simpa using e2)

theorem FnExactClauseBytes : laws_FnExactClauseBytes.Pure := by
  intro s l hs hl
  have hm : (maxLen : Nat) ≤ 9223372036854775807 := by unfold maxLen; omega
  have hok : ∀ x ∈ l, okLitA x := fun x hx => by
    obtain ⟨_, g1, g2⟩ := hl.2 x hx
    exact ⟨by have := g1.1; omega, by have := g2.1; omega⟩
  have hsm : s.length ≤ 9223372036854775807 := by have := hs.1; omega
  have hlm : l.length ≤ 9223372036854775807 := by have := hl.1; omega
  clear hs hl hm
  refine Ev.all ?_
  simp only [laws_FnExactClauseBytes.f]
  refine Ev.bnd1 (szSign_eq s 1048576 (by omega) (by omega) hsm) ?_
  by_cases g2 : (s.length : Int) ≤ 1048576
  · rw [if_pos g2]
    refine Ev.neg (by omega) ?_
    obtain ⟨r, h1, hr, hk⟩ := szLitS_ev l (1048576 - (s.length : Int)) (by omega) (by omega) hlm hok
    refine Ev.bnd h1 ?_
    by_cases g : r < 0
    · exact Ev.pos g (Ev.ret _)
    · refine Ev.neg g ?_
      obtain ⟨hl1, hk1⟩ := hk (by omega)
      have hs1 : s.length ≤ 1048576 := by omega
      have t1 := toSign_ev s hs1
      have t2 := toLitS_ev l hl1 hk1
      have hl2 : (l.map cvLit).length ≤ 1048576 := by rw [List.length_map]; exact hl1
      have hk2 := cvLit_sm hk1
      obtain ⟨q, e1, e2⟩ := clauseBytes_ex s hs1 _ hl2
      refine Ev.bnd t1 (Ev.bnd t2 (Ev.bnd e1 (Ev.bnd t1 (Ev.bnd t2 (Ev.bnd e2 (Ev.pos rfl (Ev.succ ?_)))))))
      simp only [laws_FnExactClauseBytes.j0]
      exact Ev.neg (by simp) (Ev.bnd t1 (Ev.bnd (eqSign_self s hs1) (Ev.pos rfl (Ev.bnd t2 (Ev.bnd (eqLitS_self _ hl2 hk2) (Ev.pos rfl (Ev.ret _)))))))
  · rw [if_neg g2]
    exact Ev.pos (by omega) (Ev.ret _)

end Go.Proofs.Ytfnfpgbedlmneaa.Pure
