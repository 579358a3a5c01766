/- The program's CostBy returns what the reference's returns, for all arguments.
Conditions: none beyond what the row itself says. -/
import Derived.Test.YtgbjmojghcbneaaQFnExactCostByx3
namespace Go.Proofs.Ytgbjmojghcbneaa.Pure
open Go.RowKit Go.Proofs.Ytgbjmojghcbneaa.QFnExactCostBy Go.Proofs.YtgbjmojghcbneaaW.PrintWords Go.Proofs.YtgbjmojghcbneaaW.PrintLast Go.Proofs.YtgbjmojghcbneaaW.PrintMore
set_option linter.unusedVariables false
set_option linter.unusedSimpArgs false

theorem w64 {x : Int} (h0 : -9223372036854775808 ≤ x) (h1 : x ≤ 9223372036854775807) : wrap64 x = x := by
  unfold wrap64; omega
theorem wf64 {a : Int} (h : (Lit.int .i64 a).wf = true) : -9223372036854775808 ≤ a ∧ a ≤ 9223372036854775807 := by
  simp only [Lit.wf, IntKind.min, IntKind.max, IntKind.signed, IntKind.bits, Bool.and_eq_true, decide_eq_true_eq, if_true] at h
  omega

theorem Ev.succ {α : Type} {g : Nat → Option α} {r : α} (h : Ev (fun k => g (k + 1)) r) : Ev g r := Ev.step (fun _ => rfl) h
theorem Ev.pos {α : Type} {c : Prop} [Decidable c] {a b : Nat → Option α} {r : α} (h : c) (e : Ev (fun k => a k) r) : Ev (fun k => if c then a k else b k) r := Ev.congr (fun _ => if_pos h) e
theorem Ev.neg {α : Type} {c : Prop} [Decidable c] {a b : Nat → Option α} {r : α} (h : ¬ c) (e : Ev (fun k => b k) r) : Ev (fun k => if c then a k else b k) r := Ev.congr (fun _ => if_neg h) e
theorem Ev.bnd {α β : Type} {g : Nat → Option α} {f : Nat → α → Option β} {a : α} {r : β} (h : Ev (fun k => g k) a) (k : Ev (fun n => f n a) r) : Ev (fun n => (g n).bind (fun x => f n x)) r := Ev.bind h k
theorem Ev.bnd1 {α β : Type} {g : Option α} {f : Nat → α → Option β} {a : α} {r : β} (h : g = some a) (k : Ev (fun n => f n a) r) : Ev (fun n => g.bind (fun x => f n x)) r := by
  rw [h]; exact k
theorem Ev.ret {α : Type} (r : α) : Ev (fun _ => some r) r := Ev.now r
theorem Ev.eq {α : Type} {g : Nat → Option α} {r r' : α} (h : Ev g r) (e : r = r') : Ev g r' := e ▸ h
theorem Ev.all {α : Type} {g : Nat → Option α} {r : α} (h : Ev (fun k => g k) r) : ∃ k, g k = some r := h.rounds
theorem rd_mid (pre : List Int) (x : Int) (post : List Int) : rd (pre ++ x :: post) (pre.length : Int) = x := by
  unfold rd; simp
theorem rd_nat (xs : List Int) (i : Nat) (h : i < xs.length) : rd xs (i : Int) = xs[i] := by
  unfold rd; simp [List.getD_eq_getElem?_getD, List.getElem?_eq_getElem h]

theorem toIntS_l0 (post : List Int) : ∀ (pre rest : List Int), rest.length = post.length → (pre ++ post).length ≤ 140737488351232 → Ev (fun k => laws_toIntS.l0 k (pre ++ post) (pre ++ rest) (pre.length : Int)) (pre ++ post) := by
  induction post with
  | nil =>
    intro pre rest hr hl
    obtain rfl : rest = [] := List.eq_nil_of_length_eq_zero hr
    refine Ev.succ ?_
    simp only [laws_toIntS.l0]
    exact Ev.neg (by simp) (Ev.ret _)
  | cons x post ih =>
    intro pre rest hr hl
    obtain ⟨y, rest, rfl⟩ : ∃ y t, rest = y :: t := by cases rest with | nil => simp at hr | cons y t => exact ⟨y, t, rfl⟩
    have h := ih (pre ++ [x]) rest (by simpa using hr) (by simpa using hl)
    simp only [List.length_append, List.length_cons, List.length_nil] at hl hr h
    refine Ev.succ ?_
    simp only [laws_toIntS.l0, List.length_append, List.length_cons]
    refine Ev.pos (by omega) (Ev.pos (by omega) (Ev.pos (by omega) ?_))
    rw [rd_mid, w64 (by omega) (by omega)]
    have e : (pre ++ y :: rest).set ((pre.length : Int)).toNat x = pre ++ [x] ++ rest := by simp
    rw [e]
    simpa using h
theorem toIntS (l : List Int) (h : l.length * 8 ≤ 140737488351232) : Ev (fun k => laws_toIntS.f k l) l := by
  simp only [laws_toIntS.f]
  refine Ev.pos (by omega) (Ev.pos (by omega) ?_)
  have := toIntS_l0 l [] (List.replicate l.length 0) (by simp) (by simp; omega)
  simpa using this

theorem eqIntS_l0 (pa : List Int) : ∀ (pa' pb pb' : List Int), pa'.length = pb'.length → pa.length = pb.length → (pa' ++ pa).length ≤ 140737488351232 → Ev (fun k => laws_eqIntS.l0 k (pa' ++ pa) (pb' ++ pb) (pa'.length : Int)) (decide (pa = pb)) := by
  induction pa with
  | nil =>
    intro pa' pb pb' h1 h2 hl
    obtain rfl : pb = [] := List.eq_nil_of_length_eq_zero h2.symm
    refine Ev.succ ?_
    simp only [laws_eqIntS.l0]
    exact Ev.neg (by simp) (Ev.eq (Ev.ret _) (by simp))
  | cons x pa ih =>
    intro pa' pb pb' h1 h2 hl
    obtain ⟨y, pb, rfl⟩ : ∃ y t, pb = y :: t := by cases pb with | nil => simp at h2 | cons y t => exact ⟨y, t, rfl⟩
    have h := ih (pa' ++ [x]) pb (pb' ++ [y]) (by simpa using h1) (by simpa using h2) (by simpa using hl)
    simp only [List.length_append, List.length_cons, List.length_nil] at hl h2 h
    refine Ev.succ ?_
    simp only [laws_eqIntS.l0, List.length_append, List.length_cons]
    refine Ev.pos (by omega) (Ev.pos (by omega) (Ev.pos (by omega) ?_))
    rw [rd_mid, show (pa'.length : Int) = (pb'.length : Int) by omega, rd_mid]
    by_cases e : x = y
    · subst e
      refine Ev.pos rfl ?_
      rw [w64 (by omega) (by omega)]
      refine Ev.eq (Ev.congr (fun k => ?_) h) (by simp)
      simp [h1]
    · exact Ev.neg e (Ev.eq (Ev.ret _) (by simp [e]))
theorem eqIntS (a b : List Int) (h : a.length ≤ 140737488351232) : Ev (fun k => laws_eqIntS.f k a b) (decide (a = b)) := by
  simp only [laws_eqIntS.f]
  by_cases e : a.length = b.length
  · exact Ev.pos (by omega) (by simpa using eqIntS_l0 a [] b [] rfl e (by simpa using h))
  · exact Ev.neg (by omega) (Ev.eq (Ev.ret _) (by simp only [false_eq_decide_iff]; intro h; exact e (by rw [h])))
theorem eqIntS_self (a : List Int) (h : a.length ≤ 140737488351232) : Ev (fun k => laws_eqIntS.f k a a) true := Ev.eq (eqIntS a a h) (by simp)

theorem spec_in_eq (a lo hi : Int) : spec_l1In.f a lo hi = some (decide (lo ≤ a ∧ a ≤ hi)) := by
  unfold spec_l1In.f
  by_cases h1 : a ≥ lo
  · rw [if_pos h1]
    by_cases h2 : a ≤ hi
    · rw [decide_eq_true h2, decide_eq_true ⟨h1, h2⟩]
    · rw [decide_eq_false h2, decide_eq_false (fun h => h2 h.2)]
  · rw [if_neg h1, decide_eq_false (fun h => h1 h.1)]
def inAll (lo hi : Int) (l : List Int) : Bool := l.all fun x => decide (lo ≤ x ∧ x ≤ hi)
theorem spec_l1All_l0 (lo hi : Int) (post : List Int) : ∀ pre : List Int, (pre ++ post).length ≤ 140737488351232 → Ev (fun k => spec_l1All.l0 k lo hi (pre ++ post) ((pre ++ post).length : Int) (pre.length : Int)) (inAll lo hi post) := by
  induction post with
  | nil =>
    intro pre hl
    refine Ev.succ ?_
    simp only [spec_l1All.l0]
    exact Ev.neg (by simp) (Ev.ret _)
  | cons x post ih =>
    intro pre hl
    have h := ih (pre ++ [x]) (by simpa using hl)
    simp only [List.length_append, List.length_cons] at hl
    refine Ev.succ ?_
    simp only [spec_l1All.l0]
    refine Ev.pos (by simp only [List.length_append, List.length_cons]; omega) (Ev.pos (by omega) (Ev.pos (by simp only [List.length_append, List.length_cons]; omega) ?_))
    rw [rd_mid]
    refine Ev.bnd1 (spec_in_eq _ _ _) ?_
    by_cases hx : lo ≤ x ∧ x ≤ hi
    · rw [decide_eq_true hx]
      refine Ev.pos rfl ?_
      rw [w64 (by omega) (by omega)]
      refine Ev.eq (by simpa using h) ?_
      simp [inAll, hx]
    · rw [decide_eq_false hx]
      exact Ev.neg (by simp) (Ev.eq (Ev.ret _) (by simp only [inAll, List.all_cons, decide_eq_false hx, Bool.false_and]))
theorem spec_l1All_ev (lo hi : Int) (l : List Int) (hl : l.length ≤ 140737488351232) : Ev (fun k => spec_l1All.f k l lo hi) (inAll lo hi l) := by
  simp only [spec_l1All.f]
  simpa using spec_l1All_l0 lo hi l [] (by simpa using hl)
theorem inAll_mem {lo hi : Int} {l : List Int} (h : inAll lo hi l = true) : ∀ x ∈ l, lo ≤ x ∧ x ≤ hi := by
  intro x hx
  unfold inAll at h
  simpa using List.all_eq_true.1 h x hx

def within (m : Int) (l : List Int) : Bool := decide (l.length ≤ 12) && inAll 0 m l
theorem impl_aw1 (a m : Int) : impl_areWithin_1.f a m = some (!decide (0 ≤ a ∧ a ≤ m)) := by
  unfold impl_areWithin_1.f
  by_cases h : a < 0
  · rw [if_pos h, decide_eq_false (fun h2 => absurd h2.1 (by omega))]; rfl
  · rw [if_neg h]
    by_cases h2 : a > m
    · rw [decide_eq_true h2, decide_eq_false (fun h3 => absurd h3.2 (by omega))]; rfl
    · rw [decide_eq_false h2, decide_eq_true ⟨by omega, by omega⟩]; rfl
theorem anyO_not {α : Type} (f : α → Option Bool) (p : α → Bool) (l : List α) (h : ∀ x ∈ l, f x = some (!p x)) : anyO f l = some (!l.all p) := by
  induction l with
  | nil => rfl
  | cons x t ih =>
    simp only [anyO]
    rw [h x (by simp), Option.bind_some]
    cases hp : p x with
    | true => simp [hp, ih (fun y hy => h y (by simp [hy]))]
    | false => simp [hp]
theorem impl_areWithin_eq (l : List Int) (m : Int) : impl_areWithin.f l m = some (within m l) := by
  unfold impl_areWithin.f within
  by_cases h : l.length ≤ 12
  · rw [if_pos (by omega), decide_eq_true h]
    unfold impl_areWithin_1_any.f
    rw [anyO_not _ (fun x => decide (0 ≤ x ∧ x ≤ m)) l (fun x _ => impl_aw1 x m)]
    simp [inAll]
  · rw [if_neg (by omega), decide_eq_false h]; rfl

theorem shr_4096 (n : Int) : 0 ≤ shr .i64 4096 n ∧ shr .i64 4096 n ≤ 4096 := by
  unfold shr
  have h : (0 : Int) ≤ 2 ^ min n.toNat (IntKind.bits .i64) := Int.pow_nonneg (by omega)
  exact ⟨Int.ediv_nonneg (by omega) h, Int.ediv_le_self _ (by omega)⟩
theorem u64_id {n : Int} (h0 : 0 ≤ n) (h1 : n ≤ 9223372036854775807) : IntKind.u64.wrap n = n := by
  simp [IntKind.wrap, IntKind.bits, IntKind.signed]; omega
/-- The sum of 4096 / 2^n over the lengths that are not 0, behind a sum. -/
def kr : Int → List Int → Int
  | s, [] => s
  | s, n :: t => kr (if n > 0 then s + shr .i64 4096 n else s) t
theorem spec_kraft_l0 (post : List Int) : ∀ (pre : List Int) (s : Int), 0 ≤ s → s + post.length * 4096 ≤ 1000000000000 → inAll 0 12 post = true → (pre ++ post).length ≤ 140737488351232 → Ev (fun k => spec_l11Kraft.l0 k s (pre ++ post) ((pre ++ post).length : Int) (pre.length : Int)) (kr s post) := by
  induction post with
  | nil =>
    intro pre s h0 h1 hp hl
    refine Ev.succ ?_
    simp only [spec_l11Kraft.l0]
    exact Ev.neg (by simp) (Ev.ret _)
  | cons n post ih =>
    intro pre s h0 h1 hp hl
    have hn := inAll_mem hp n (by simp)
    have hp' : inAll 0 12 post = true := by simp only [inAll, List.all_cons, Bool.and_eq_true] at hp; exact hp.2
    have hl' : (pre ++ [n] ++ post).length ≤ 140737488351232 := by simpa using hl
    simp only [List.length_append, List.length_cons] at hl h1
    have hs := shr_4096 n
    refine Ev.succ ?_
    simp only [spec_l11Kraft.l0]
    refine Ev.pos (by simp only [List.length_append, List.length_cons]; omega) (Ev.pos (by omega) (Ev.pos (by simp only [List.length_append, List.length_cons]; omega) ?_))
    rw [w64 (x := (pre.length : Int) + 1) (by omega) (by omega)]
    by_cases g : n > 0
    · refine Ev.pos (by rw [rd_mid]; exact g) ?_
      rw [rd_mid, u64_id (by omega) (by omega)]
      refine Ev.pos (by omega) ?_
      rw [w64 (x := s + shr .i64 4096 n) (by omega) (by omega)]
      have h := ih (pre ++ [n]) (s + shr .i64 4096 n) (by omega) (by omega) hp' hl'
      simp only [kr, if_pos g]
      simpa using h
    · refine Ev.neg (by rw [rd_mid]; exact g) ?_
      have h := ih (pre ++ [n]) s (by omega) (by omega) hp' hl'
      simp only [kr, if_neg g]
      simpa using h
theorem within_facts {m : Int} {l : List Int} (h : within m l = true) : l.length ≤ 12 ∧ inAll 0 m l = true := by
  simpa [within] using h
theorem spec_kraft (l : List Int) (h : within 12 l = true) : Ev (fun k => spec_l11Kraft.f k l) (kr 0 l) := by
  obtain ⟨h1, h2⟩ := within_facts h
  simp only [spec_l11Kraft.f]
  simpa using spec_kraft_l0 l [] 0 (by omega) (by omega) h2 (by simp; omega)
theorem spec_lengths (l : List Int) (hl : l.length ≤ 140737488351232) : Ev (fun k => spec_l11Lengths.f k l) (within 12 l) := by
  simp only [spec_l11Lengths.f]
  by_cases h : l.length ≤ 12
  · exact Ev.pos (by omega) (Ev.bnd (spec_l1All_ev 0 12 l hl) (Ev.eq (Ev.ret _) (by simp [within, h])))
  · exact Ev.neg (by omega) (Ev.eq (Ev.ret _) (by simp [within, h]))

theorem impl_kraft_l0 (post : List Int) : ∀ (pre : List Int) (s : Int), 0 ≤ s → s + post.length * 4096 ≤ 1000000000000 → inAll 0 12 post = true → (pre ++ post).length ≤ 140737488351232 → Ev (fun k => impl_KraftOf.l0 k s (pre ++ post) ((pre ++ post).length : Int) (pre.length : Int)) (kr s post, true) := by
  induction post with
  | nil =>
    intro pre s h0 h1 hp hl
    refine Ev.succ ?_
    simp only [impl_KraftOf.l0]
    exact Ev.neg (by simp) (Ev.ret _)
  | cons n post ih =>
    intro pre s h0 h1 hp hl
    have hn := inAll_mem hp n (by simp)
    have hp' : inAll 0 12 post = true := by simp only [inAll, List.all_cons, Bool.and_eq_true] at hp; exact hp.2
    have hl' : (pre ++ [n] ++ post).length ≤ 140737488351232 := by simpa using hl
    simp only [List.length_append, List.length_cons] at hl h1
    have hs := shr_4096 n
    refine Ev.succ ?_
    simp only [impl_KraftOf.l0]
    refine Ev.pos (by simp only [List.length_append, List.length_cons]; omega) (Ev.pos (by omega) (Ev.pos (by simp only [List.length_append, List.length_cons]; omega) ?_))
    rw [w64 (x := (pre.length : Int) + 1) (by omega) (by omega)]
    by_cases g : n > 0
    · refine Ev.pos (by rw [rd_mid]; exact g) ?_
      rw [rd_mid]
      refine Ev.pos (by omega) ?_
      rw [w64 (x := s + shr .i64 4096 n) (by omega) (by omega)]
      have h := ih (pre ++ [n]) (s + shr .i64 4096 n) (by omega) (by omega) hp' hl'
      simp only [kr, if_pos g]
      simpa using h
    · refine Ev.neg (by rw [rd_mid]; exact g) ?_
      have h := ih (pre ++ [n]) s (by omega) (by omega) hp' hl'
      simp only [kr, if_neg g]
      simpa using h
def kraftOf (l : List Int) : Int × Bool := if within 12 l = true then (kr 0 l, true) else (0, false)
theorem impl_KraftOf_ev (l : List Int) : Ev (fun k => impl_KraftOf.f k l) (kraftOf l) := by
  simp only [impl_KraftOf.f, impl_areWithin_eq, Option.bind_some, kraftOf]
  by_cases h : within 12 l = true
  · rw [if_pos h]
    obtain ⟨h1, h2⟩ := within_facts h
    exact Ev.pos h (by simpa using impl_kraft_l0 l [] 0 (by omega) (by omega) h2 (by simp; omega))
  · rw [if_neg h]
    exact Ev.neg h (Ev.ret _)

def goodLengths (l : List Int) : Bool := within 12 l && decide (kr 0 l ≤ 4096)
theorem spec_GoodLengths_ev (l : List Int) (hl : l.length ≤ 140737488351232) : Ev (fun k => spec_GoodLengths.f k l) (goodLengths l) := by
  simp only [spec_GoodLengths.f, goodLengths]
  refine Ev.bnd (spec_lengths l hl) ?_
  by_cases h : within 12 l = true
  · exact Ev.pos h (Ev.bnd (spec_kraft l h) (Ev.eq (Ev.ret _) (by rw [h]; rfl)))
  · exact Ev.neg h (Ev.eq (Ev.ret _) (by simp [h]))
theorem impl_GoodLengths_ev (l : List Int) : Ev (fun k => impl_GoodLengths.f k l) (goodLengths l) := by
  simp only [impl_GoodLengths.f, goodLengths]
  refine Ev.bnd (impl_KraftOf_ev l) ?_
  unfold kraftOf
  by_cases h : within 12 l = true
  · rw [if_pos h]
    exact Ev.pos rfl (Ev.eq (Ev.ret _) (by rw [h]; rfl))
  · rw [if_neg h]
    exact Ev.neg (by simp) (Ev.eq (Ev.ret _) (by simp [h]))

theorem spec_counts (l : List Int) (hl : l.length ≤ 140737488351232) : Ev (fun k => spec_l11Counts.f k l) (within 1000 l) := by
  simp only [spec_l11Counts.f]
  by_cases h : l.length ≤ 12
  · exact Ev.pos (by omega) (Ev.bnd (spec_l1All_ev 0 1000 l hl) (Ev.eq (Ev.ret _) (by simp [within, h])))
  · exact Ev.neg (by omega) (Ev.eq (Ev.ret _) (by simp [within, h]))
/-- The two loops go alike, round for round. -/
theorem cost_same (a c : List Int) (z : Int) : ∀ (k : Nat) (s i : Int), spec_CostBy.l0 k a s c z i = impl_CostBy.l0 k a s c z i := by
  intro k
  induction k with
  | zero => intro s i; rfl
  | succ k ih => intro s i; simp only [spec_CostBy.l0, impl_CostBy.l0, ih]
theorem cost_ends (a c : List Int) (hac : c.length = a.length) (hl : c.length ≤ 12) (d : Nat) : ∀ (s i : Int), 0 ≤ i → i + d = c.length → ∃ r, Ev (fun k => impl_CostBy.l0 k a s c (c.length : Int) i) r := by
  induction d with
  | zero =>
    intro s i h0 hi
    refine ⟨(s, true), Ev.succ ?_⟩
    simp only [impl_CostBy.l0]
    exact Ev.neg (by omega) (Ev.ret _)
  | succ d ih =>
    intro s i h0 hi
    obtain ⟨r, hr⟩ := ih (wrap64 (s + wrap64 (rd c i * rd a i))) (i + 1) (by omega) (by omega)
    have hwr : wrap64 (i + 1) = i + 1 := w64 (by omega) (by omega)
    by_cases g : rd c i > 0
    · by_cases g2 : rd a i = 0
      · refine ⟨(0, false), Ev.succ ?_⟩
        simp only [impl_CostBy.l0]
        exact Ev.pos (by omega) (Ev.pos h0 (Ev.pos (by omega) (Ev.pos g (Ev.pos (by omega) (Ev.pos g2 (Ev.ret _))))))
      · refine ⟨r, Ev.succ ?_⟩
        simp only [impl_CostBy.l0, hwr]
        exact Ev.pos (by omega) (Ev.pos h0 (Ev.pos (by omega) (Ev.pos g (Ev.pos (by omega) (Ev.neg g2 hr)))))
    · refine ⟨r, Ev.succ ?_⟩
      simp only [impl_CostBy.l0, hwr]
      exact Ev.pos (by omega) (Ev.pos h0 (Ev.pos (by omega) (Ev.neg g (Ev.pos (by omega) hr))))
theorem cost_both (a c : List Int) (hla : a.length ≤ 140737488351232) (hlc : c.length ≤ 140737488351232) : ∃ r, Ev (fun k => spec_CostBy.f k a c) r ∧ Ev (fun k => impl_CostBy.f k a c) r := by
  simp only [spec_CostBy.f, impl_CostBy.f, impl_areWithin_eq, Option.bind_some]
  have out1 : Ev (fun k => spec_CostBy.j0 k a c true) (0, false) := by
    refine Ev.succ ?_
    simp only [spec_CostBy.j0]
    exact Ev.pos trivial (Ev.ret _)
  have out2 : Ev (fun k => impl_CostBy.j0 k a c true) (0, false) := by
    refine Ev.succ ?_
    simp only [impl_CostBy.j0]
    exact Ev.pos trivial (Ev.ret _)
  by_cases h1 : goodLengths a = true
  · by_cases h2 : within 1000 c = true
    · by_cases h3 : c.length = a.length
      · obtain ⟨r, hr⟩ := cost_ends a c h3 (within_facts h2).1 c.length 0 0 (by omega) (by omega)
        refine ⟨r, Ev.bnd (spec_GoodLengths_ev a hla) (Ev.pos h1 (Ev.bnd (spec_counts c hlc) (Ev.pos h2 ?_))), Ev.bnd (impl_GoodLengths_ev a) (Ev.pos h1 (Ev.pos h2 ?_))⟩
        · rw [h3, bne_self_eq_false]
          refine Ev.succ ?_
          simp only [spec_CostBy.j0]
          refine Ev.neg (by simp) (Ev.congr (fun k => cost_same a c _ k _ _) hr)
        · rw [h3, bne_self_eq_false]
          refine Ev.succ ?_
          simp only [impl_CostBy.j0]
          exact Ev.neg (by simp) hr
      · refine ⟨(0, false), Ev.bnd (spec_GoodLengths_ev a hla) (Ev.pos h1 (Ev.bnd (spec_counts c hlc) (Ev.pos h2 ?_))), Ev.bnd (impl_GoodLengths_ev a) (Ev.pos h1 (Ev.pos h2 ?_))⟩
        · rw [show ((c.length : Int) != (a.length : Int)) = true by simp; omega]; exact out1
        · rw [show ((a.length : Int) != (c.length : Int)) = true by simp; omega]; exact out2
    · exact ⟨_, Ev.bnd (spec_GoodLengths_ev a hla) (Ev.pos h1 (Ev.bnd (spec_counts c hlc) (Ev.neg h2 out1))), Ev.bnd (impl_GoodLengths_ev a) (Ev.pos h1 (Ev.neg h2 out2))⟩
  · exact ⟨_, Ev.bnd (spec_GoodLengths_ev a hla) (Ev.neg h1 out1), Ev.bnd (impl_GoodLengths_ev a) (Ev.neg h1 out2)⟩
theorem FnExactCostBy : laws_FnExactCostBy.Pure := by
  intro a c _ ha hwa _ hc hwc
  refine Ev.all ?_
  simp only [laws_FnExactCostBy.f]
  by_cases g : (a.length : Int) > 1048576
  · exact Ev.pos g (Ev.ret _)
  · refine Ev.neg g ?_
    by_cases g2 : (c.length : Int) > 1048576
    · exact Ev.pos g2 (Ev.ret _)
    · refine Ev.neg g2 ?_
      obtain ⟨r, h1, h2⟩ := cost_both a c (by omega) (by omega)
      refine Ev.bnd (toIntS a ha) (Ev.bnd (toIntS c hc) (Ev.bnd h1 (Ev.bnd (toIntS a ha) (Ev.bnd (toIntS c hc) (Ev.bnd h2 (Ev.pos rfl ?_))))))
      refine Ev.succ ?_
      simp only [laws_FnExactCostBy.j0]
      refine Ev.neg (by simp) ?_
      exact Ev.bnd (toIntS a ha) (Ev.bnd (eqIntS_self a (by omega)) (Ev.pos rfl (Ev.bnd (toIntS c hc) (Ev.bnd (eqIntS_self c (by omega)) (Ev.pos rfl (Ev.ret _))))))

end Go.Proofs.Ytgbjmojghcbneaa.Pure
