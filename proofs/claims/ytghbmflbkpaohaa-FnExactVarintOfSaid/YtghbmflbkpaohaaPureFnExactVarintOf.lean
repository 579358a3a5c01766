/- The program's VarintOf returns what the reference's returns, for all arguments.
Conditions: none beyond what the row itself says. -/
import Derived.Test.YtghbmflbkpaohaaQFnExactVarintOfx1
namespace Go.Proofs.Ytghbmflbkpaohaa.Pure
open Go.RowKit Go.Proofs.Ytghbmflbkpaohaa.QFnExactVarintOf Go.Proofs.YtghbmflbkpaohaaW.PrintWords Go.Proofs.YtghbmflbkpaohaaW.PrintLast Go.Proofs.YtghbmflbkpaohaaW.PrintMore
set_option linter.unusedVariables false
set_option linter.unusedSimpArgs false

theorem w64 {x : Int} (h0 : -9223372036854775808 ≤ x) (h1 : x ≤ 9223372036854775807) : wrap64 x = x := by
  unfold wrap64; omega
theorem wf64 {a : Int} (h : (Lit.int .i64 a).wf = true) : -9223372036854775808 ≤ a ∧ a ≤ 9223372036854775807 := by
  simp only [Lit.wf, IntKind.min, IntKind.max, IntKind.signed, IntKind.bits, Bool.and_eq_true, decide_eq_true_eq, if_true] at h
  omega

theorem son_append (xs ys : List Int) : strOfNums xs ++ strOfNums ys = strOfNums (xs ++ ys) := by
  apply ByteArray.ext
  simp [strOfNums]
theorem son_nil : (⟨#[]⟩ : ByteArray) = strOfNums [] := by simp [strOfNums]
/-- The base-128 digits of a number, as bytes. -/
def vbytes (n : Nat) : List Int := if n < 128 then [(n : Int)] else ((n % 128 + 128 : Nat) : Int) :: vbytes (n / 128)
termination_by n
decreasing_by omega
theorem vbytes_lt {n : Nat} (h : n < 128) : vbytes n = [(n : Int)] := by rw [vbytes, if_pos h]
theorem vbytes_ge {n : Nat} (h : ¬ n < 128) : vbytes n = ((n % 128 + 128 : Nat) : Int) :: vbytes (n / 128) := by rw [vbytes, if_neg h]
theorem vbytes_pos (n : Nat) : 0 < (vbytes n).length := by
  rw [vbytes]; split <;> simp
theorem vbytes_len (n : Nat) : (vbytes n).length ≤ n + 1 := by
  induction n using Nat.strongRecOn with
  | _ n ih =>
    by_cases h : n < 128
    · rw [vbytes_lt h]; simp
    · rw [vbytes_ge h]
      have := ih (n / 128) (by omega)
      simp only [List.length_cons]
      omega
theorem tdiv_nat (n m : Nat) : Int.tdiv (n : Int) (m : Int) = ((n / m : Nat) : Int) := rfl
theorem tmod_nat (n m : Nat) : Int.tmod (n : Int) (m : Int) = ((n % m : Nat) : Int) := rfl

theorem varint_spec (n : Nat) : ∀ xs : List Int, xs.length + n ≤ 1099511627776 → Ev (fun k => spec_l10Varint.l0 k (n : Int) (strOfNums xs)) (strOfNums (xs ++ vbytes n)) := by
  induction n using Nat.strongRecOn with
  | _ n ih =>
    intro xs hl
    by_cases h : n < 128
    · refine Ev.step (f := fun _ => some (strOfNums (xs ++ vbytes n))) (fun k => ?_) (Ev.now _)
      simp only [spec_l10Varint.l0]
      rw [if_neg (by omega)]
      simp only [Option.bind_some]
      rw [if_pos (by simp only [strOfNums_size, List.length_cons, List.length_nil]; omega), son_append, vbytes_lt h]
      rw [show (n : Int) % 256 = n by omega]
    · refine Ev.step (f := fun k => spec_l10Varint.l0 k ((n / 128 : Nat) : Int) (strOfNums (xs ++ [((n % 128 + 128 : Nat) : Int)]))) (fun k => ?_) ?_
      · simp only [spec_l10Varint.l0]
        rw [if_pos (by omega)]
        simp only [Option.bind_some]
        rw [if_pos (by simp only [strOfNums_size, List.length_cons, List.length_nil]; omega), son_append]
        rw [show (128 : Int) = ((128 : Nat) : Int) from rfl, tdiv_nat, tmod_nat]
        rw [w64 (by omega) (by omega), w64 (by omega) (by omega)]
        rw [show (((n % 128 : Nat) : Int) + ((128 : Nat) : Int)) % 256 = ((n % 128 + 128 : Nat) : Int) by omega]
      · have := ih (n / 128) (by omega) (xs ++ [((n % 128 + 128 : Nat) : Int)]) (by simp only [List.length_append, List.length_cons, List.length_nil]; omega)
        rw [List.append_assoc, List.singleton_append, ← vbytes_ge h] at this
        exact this
theorem varint_impl (n : Nat) : ∀ xs : List Int, xs.length + n ≤ 1099511627776 → Ev (fun k => impl_putVarint.l0 k xs (n : Int)) (xs ++ vbytes n) := by
  induction n using Nat.strongRecOn with
  | _ n ih =>
    intro xs hl
    by_cases h : n < 128
    · refine Ev.step (f := fun _ => some (xs ++ vbytes n)) (fun k => ?_) (Ev.now _)
      simp only [impl_putVarint.l0]
      rw [if_neg (by omega), if_pos (by omega), vbytes_lt h]
      rw [show (n : Int) % 256 = n by omega]
    · refine Ev.step (f := fun k => impl_putVarint.l0 k (xs ++ [((n % 128 + 128 : Nat) : Int)]) ((n / 128 : Nat) : Int)) (fun k => ?_) ?_
      · simp only [impl_putVarint.l0]
        rw [if_pos (by omega), if_pos (by omega)]
        rw [show (128 : Int) = ((128 : Nat) : Int) from rfl, tdiv_nat, tmod_nat]
        rw [w64 (by omega) (by omega)]
        rw [show (((n % 128 : Nat) : Int) + ((128 : Nat) : Int)) % 256 = ((n % 128 + 128 : Nat) : Int) by omega]
      · have := ih (n / 128) (by omega) (xs ++ [((n % 128 + 128 : Nat) : Int)]) (by simp only [List.length_append, List.length_cons, List.length_nil]; omega)
        rw [List.append_assoc, List.singleton_append, ← vbytes_ge h] at this
        exact this
theorem varint_spec_f (n : Nat) (h : n ≤ 1099511627776) : Ev (fun k => spec_l10Varint.f k (n : Int)) (strOfNums (vbytes n)) := by
  have := varint_spec n [] (by simpa using h)
  rw [← son_nil] at this
  exact this
theorem varint_impl_f (xs : List Int) (n : Nat) (h : xs.length + n ≤ 1099511627776) : Ev (fun k => impl_putVarint.f k xs (n : Int)) (xs ++ vbytes n) :=
  varint_impl n xs h

theorem FnExactVarintOf : laws_FnExactVarintOf.Pure := by
  intro a hw
  by_cases h : 0 ≤ a ∧ a ≤ 1073741823
  · obtain ⟨n, rfl⟩ : ∃ n : Nat, a = n := ⟨a.toNat, by omega⟩
    obtain ⟨K1, h1⟩ := varint_spec_f n (by omega)
    obtain ⟨K2, h2⟩ := varint_impl_f [] n (by simp; omega)
    refine ⟨max K1 K2, ?_⟩
    have e1 := h1 (max K1 K2) (by omega)
    have e2 := h2 (max K1 K2) (by omega)
    simp only at e1 e2
    simp only [laws_FnExactVarintOf.f, spec_VarintOf.f, impl_VarintOf.f, spec_l1In.f, impl_isNumber.f, e1, e2]
    have g1 : (n : Int) ≥ 0 := by omega
    have g2 : (n : Int) ≤ 1073741823 := by omega
    simp [g2]
  · refine ⟨0, ?_⟩
    simp only [laws_FnExactVarintOf.f, spec_VarintOf.f, impl_VarintOf.f, spec_l1In.f, impl_isNumber.f]
    by_cases g1 : a ≥ 0
    · have g2 : ¬ a ≤ 1073741823 := by omega
      simp [g1, g2]
    · simp [g1]

end Go.Proofs.Ytghbmflbkpaohaa.Pure
