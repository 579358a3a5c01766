/- The program's UnZig returns what the reference's returns, for all arguments.
Conditions: none beyond what the row itself says. -/
import Derived.Test.YtghbmflbkpaohaaPFnExactUnZigx1
namespace Go.Proofs.Ytghbmflbkpaohaa.Pure
open Go.RowKit Go.Proofs.Ytghbmflbkpaohaa.PFnExactUnZig Go.Proofs.YtghbmflbkpaohaaW.PrintWords Go.Proofs.YtghbmflbkpaohaaW.PrintLast Go.Proofs.YtghbmflbkpaohaaW.PrintMore
set_option linter.unusedVariables false
set_option linter.unusedSimpArgs false

theorem w64 {x : Int} (h0 : -9223372036854775808 ≤ x) (h1 : x ≤ 9223372036854775807) : wrap64 x = x := by
  unfold wrap64; omega
theorem wf64 {a : Int} (h : (Lit.int .i64 a).wf = true) : -9223372036854775808 ≤ a ∧ a ≤ 9223372036854775807 := by
  simp only [Lit.wf, IntKind.min, IntKind.max, IntKind.signed, IntKind.bits, Bool.and_eq_true, decide_eq_true_eq, if_true] at h
  omega

theorem FnExactUnZig : laws_FnExactUnZig.Pure := by
  intro a hw
  refine ⟨1, ?_⟩
  have hb := wf64 hw
  simp only [laws_FnExactUnZig.f, spec_UnZig.f, spec_l1In.f, impl_UnZig.f, impl_UnZig.j0, spec_l10UnZig.f]
  by_cases h1 : a < 0
  · have h1' : ¬ (0 ≤ a) := by omega
    simp [h1, h1']
  · have h1' : 0 ≤ a := by omega
    by_cases h2 : a > 1073741822
    · have h2' : ¬ (a ≤ 1073741822) := by omega
      simp [h1, h1', h2, h2']
    · have h2' : a ≤ 1073741822 := by omega
      by_cases h3 : Int.tmod a 2 = 1 <;> simp [h1, h1', h2, h2', h3]

end Go.Proofs.Ytghbmflbkpaohaa.Pure
