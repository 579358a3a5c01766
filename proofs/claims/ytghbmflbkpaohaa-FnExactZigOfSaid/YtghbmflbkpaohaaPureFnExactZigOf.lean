/- The program's ZigOf returns what the reference's returns, for all arguments.
Conditions: none beyond what the row itself says. -/
import Derived.Test.YtghbmflbkpaohaaPFnExactZigOfx1
namespace Go.Proofs.Ytghbmflbkpaohaa.Pure
open Go.RowKit Go.Proofs.Ytghbmflbkpaohaa.PFnExactZigOf Go.Proofs.YtghbmflbkpaohaaW.PrintWords Go.Proofs.YtghbmflbkpaohaaW.PrintLast Go.Proofs.YtghbmflbkpaohaaW.PrintMore
set_option linter.unusedVariables false
set_option linter.unusedSimpArgs false

theorem w64 {x : Int} (h0 : -9223372036854775808 ≤ x) (h1 : x ≤ 9223372036854775807) : wrap64 x = x := by
  unfold wrap64; omega
theorem wf64 {a : Int} (h : (Lit.int .i64 a).wf = true) : -9223372036854775808 ≤ a ∧ a ≤ 9223372036854775807 := by
  simp only [Lit.wf, IntKind.min, IntKind.max, IntKind.signed, IntKind.bits, Bool.and_eq_true, decide_eq_true_eq, if_true] at h
  omega

theorem FnExactZigOf : laws_FnExactZigOf.Pure := by
  intro a hw
  refine ⟨1, ?_⟩
  have hb := wf64 hw
  simp only [laws_FnExactZigOf.f, spec_ZigOf.f, spec_l1In.f, impl_ZigOf.f, impl_ZigOf.j0, spec_l10Zig.f]
  by_cases h1 : a < -536870911
  · have h1' : ¬ (-536870911 ≤ a) := by omega
    simp [h1, h1']
  · have h1' : -536870911 ≤ a := by omega
    by_cases h2 : a > 536870911
    · have h2' : ¬ (a ≤ 536870911) := by omega
      simp [h1, h1', h2, h2']
    · have h2' : a ≤ 536870911 := by omega
      by_cases h3 : a < 0 <;> simp [h1, h1', h2, h2', h3]

end Go.Proofs.Ytghbmflbkpaohaa.Pure
