/- The program's TakeSum returns what the reference's returns, for all arguments.
Conditions: none beyond what the row itself says. -/
import Derived.Test.YtghbmflbkpaohaaPFnExactTakeSumx1
namespace Go.Proofs.Ytghbmflbkpaohaa.Pure
open Go.RowKit Go.Proofs.Ytghbmflbkpaohaa.PFnExactTakeSum Go.Proofs.YtghbmflbkpaohaaW.PrintWords Go.Proofs.YtghbmflbkpaohaaW.PrintLast Go.Proofs.YtghbmflbkpaohaaW.PrintMore
set_option linter.unusedVariables false
set_option linter.unusedSimpArgs false

theorem w64 {x : Int} (h0 : -9223372036854775808 ≤ x) (h1 : x ≤ 9223372036854775807) : wrap64 x = x := by
  unfold wrap64; omega
theorem wf64 {a : Int} (h : (Lit.int .i64 a).wf = true) : -9223372036854775808 ≤ a ∧ a ≤ 9223372036854775807 := by
  simp only [Lit.wf, IntKind.min, IntKind.max, IntKind.signed, IntKind.bits, Bool.and_eq_true, decide_eq_true_eq, if_true] at h
  omega

/-- One of the eight steps of the checksum. -/
def sumBit (n : Int) : Int := if wrap64 (n * 2) ≥ 65536 then Go.bits .xor .i64 (wrap64 (n * 2)) 69665 else wrap64 (n * 2)
def sumIter : Nat → Int → Int
  | 0, n => n
  | e + 1, n => sumIter e (sumBit n)
def sumGo (s : ByteArray) : Nat → Int → Int → Int
  | 0, n, _ => n
  | d + 1, n, i => sumGo s d (sumIter 8 (Go.bits .xor .i64 n (wrap64 (256 * wrap64 (bt s i))))) (i + 1)
def crc (s : ByteArray) : Int := sumGo s s.size 65535 0

theorem spec_sum_l1 (s : ByteArray) (r i : Int) (e : Nat) : ∀ (n j : Int), 0 ≤ j → j + e = 8 → Ev (fun k => spec_l10Sum.l0 k s (sumIter e n) (wrap64 (i + 1))) r → Ev (fun k => spec_l10Sum.l1 k s n i j) r := by
  induction e with
  | zero =>
    intro n j h0 hj h
    refine Ev.step (fun k => ?_) h
    simp only [spec_l10Sum.l1]
    rw [if_neg (by omega)]
    rfl
  | succ e ih =>
    intro n j h0 hj h
    refine Ev.step (fun k => ?_) (ih (sumBit n) (j + 1) (by omega) (by omega) h)
    simp only [spec_l10Sum.l1]
    rw [if_pos (by omega), w64 (x := j + 1) (by omega) (by omega)]
    unfold sumBit
    split <;> rfl
theorem spec_sum_l0 (s : ByteArray) (hs : s.size ≤ 140737488351232) (d : Nat) : ∀ (n i : Int), 0 ≤ i → i + d = s.size → Ev (fun k => spec_l10Sum.l0 k s n i) (sumGo s d n i) := by
  induction d with
  | zero =>
    intro n i h0 hi
    refine Ev.step (fun k => ?_) (Ev.now _)
    simp only [spec_l10Sum.l0]
    rw [if_neg (by omega)]
    rfl
  | succ d ih =>
    intro n i h0 hi
    have h := ih (sumIter 8 (Go.bits .xor .i64 n (wrap64 (256 * wrap64 (bt s i))))) (i + 1) (by omega) (by omega)
    refine Ev.step (fun k => ?_) (spec_sum_l1 s _ i 8 (Go.bits .xor .i64 n (wrap64 (256 * wrap64 (bt s i)))) 0 (by omega) (by omega) (by rw [w64 (x := i + 1) (by omega) (by omega)]; exact h))
    simp only [spec_l10Sum.l0]
    rw [if_pos (by omega), if_pos h0]
theorem spec_sum (s : ByteArray) (hs : s.size ≤ 140737488351232) : Ev (fun k => spec_l10Sum.f k s) (crc s) :=
  spec_sum_l0 s hs s.size 65535 0 (by omega) (by omega)
theorem impl_sum_l1 (s : ByteArray) (r z i : Int) (e : Nat) : ∀ (n j : Int), 0 ≤ j → j + e = 8 → Ev (fun k => impl_sumOf.l0 k s (sumIter e n) z (wrap64 (i + 1))) r → Ev (fun k => impl_sumOf.l1 k s n z i j) r := by
  induction e with
  | zero =>
    intro n j h0 hj h
    refine Ev.step (fun k => ?_) h
    simp only [impl_sumOf.l1]
    rw [if_neg (by omega)]
    rfl
  | succ e ih =>
    intro n j h0 hj h
    refine Ev.step (fun k => ?_) (ih (sumBit n) (j + 1) (by omega) (by omega) h)
    simp only [impl_sumOf.l1]
    rw [if_pos (by omega), w64 (x := j + 1) (by omega) (by omega)]
    unfold sumBit
    split <;> rfl
theorem impl_sum_l0 (s : ByteArray) (hs : s.size ≤ 140737488351232) (d : Nat) : ∀ (n i : Int), 0 ≤ i → i + d = s.size → Ev (fun k => impl_sumOf.l0 k s n (s.size : Int) i) (sumGo s d n i) := by
  induction d with
  | zero =>
    intro n i h0 hi
    refine Ev.step (fun k => ?_) (Ev.now _)
    simp only [impl_sumOf.l0]
    rw [if_neg (by omega)]
    rfl
  | succ d ih =>
    intro n i h0 hi
    have h := ih (sumIter 8 (Go.bits .xor .i64 n (wrap64 (256 * wrap64 (bt s i))))) (i + 1) (by omega) (by omega)
    refine Ev.step (fun k => ?_) (impl_sum_l1 s _ (s.size : Int) i 8 (Go.bits .xor .i64 n (wrap64 (256 * wrap64 (bt s i)))) 0 (by omega) (by omega) (by rw [w64 (x := i + 1) (by omega) (by omega)]; exact h))
    simp only [impl_sumOf.l0]
    rw [if_pos (by omega), if_pos h0, if_pos (by omega)]
theorem impl_sum (s : ByteArray) (hs : s.size ≤ 140737488351232) : Ev (fun k => impl_sumOf.f k s) (crc s) :=
  impl_sum_l0 s hs s.size 65535 0 (by omega) (by omega)

theorem FnExactTakeSum : laws_FnExactTakeSum.Pure := by
  intro s hs
  by_cases g2 : s.size < 2
  · refine ⟨0, ?_⟩
    simp only [laws_FnExactTakeSum.f, spec_TakeSum.f, impl_TakeSum.f, spec_l10Text.f]
    rw [if_neg (by omega), if_pos (show (s.size : Int) < 2 by omega)]
    have g3 : (s.size : Int) ≤ 100000 := by omega
    have g4 : (s.size : Int) < 2 := by omega
    simp only [g3, decide_true, if_true, Option.bind_some, if_pos g4]
    simp
  · by_cases g1 : s.size > 100000
    · refine ⟨0, ?_⟩
      simp only [laws_FnExactTakeSum.f, spec_TakeSum.f, impl_TakeSum.f, spec_l10Text.f]
      by_cases g0 : (s.size : Int) > 1048576
      · rw [if_pos g0]
      · rw [if_neg g0, if_neg (show ¬ (s.size : Int) < 2 by omega), if_pos (show (s.size : Int) > 100000 by omega)]
        have g3 : ¬ (s.size : Int) ≤ 100000 := by omega
        simp [g3]
    · have hw : wrap64 ((s.size : Int) - 2) = ((s.size - 2 : Nat) : Int) := by unfold wrap64; omega
      obtain ⟨t, ht⟩ : ∃ t, t = s.extract 0 (((s.size - 2 : Nat) : Int)).toNat := ⟨_, rfl⟩
      have hts : t.size ≤ 140737488351232 := by rw [ht, ByteArray.size_extract]; omega
      obtain ⟨K1, h1⟩ := spec_sum t hts
      obtain ⟨K2, h2⟩ := impl_sum t hts
      refine ⟨max K1 K2, ?_⟩
      have e1 := h1 (max K1 K2) (by omega)
      have e2 := h2 (max K1 K2) (by omega)
      simp only at e1 e2
      simp only [laws_FnExactTakeSum.f, spec_TakeSum.f, impl_TakeSum.f, spec_l10Text.f, spec_l10With.f, impl_summed.f, hw, ← ht, e1, e2]
      rw [if_neg (by omega), if_neg (show ¬ (s.size : Int) < 2 by omega), if_neg (show ¬ (s.size : Int) > 100000 by omega)]
      have g3 : (s.size : Int) ≤ 100000 := by omega
      have g4 : (0 : Int) ≤ ((s.size - 2 : Nat) : Int) := by omega
      have g5 : ((s.size - 2 : Nat) : Int) ≤ (s.size : Int) := by omega
      have g6 : ∀ xs : List Int, xs.length = 2 → t.size + (strOfNums xs).size ≤ 9223372036854775807 := fun xs hx => by rw [strOfNums_size, hx]; omega
      simp only [g3, decide_true, if_true, Option.bind_some, if_neg (show ¬ (s.size : Int) < 2 by omega), if_pos g4, if_pos g5]
      rw [if_pos (g6 _ rfl)]
      simp only [Option.bind_some]
      split <;> simp

end Go.Proofs.Ytghbmflbkpaohaa.Pure
