/- The program's LeastOneKind returns what the reference's returns, for all arguments (the pure statement behind the printed walk); no condition. -/
import Derived.Test.YtjoicciipimlmaaCommonCrowd
import Derived.Test.YtjoicciipimlmaaPx2
namespace Go.Proofs.Ytjoicciipimlmaa.Pure
open Go.RowKit Go.Proofs.Ytjoicciipimlmaa.P Go.Proofs.YtjoicciipimlmaaW.PrintWords Go.Proofs.YtjoicciipimlmaaW.PrintLast
set_option linter.unusedSimpArgs false
set_option linter.unusedVariables false
theorem FnExactLeastOneKind : laws_FnExactLeastOneKind.Pure := by
  intro a _
  refine ⟨16, ?_⟩
  by_cases h : 0 ≤ a ∧ a ≤ 12
  · rcases twelve h with rfl | rfl | rfl | rfl | rfl | rfl | rfl | rfl | rfl | rfl | rfl | rfl | rfl <;> kernel_rfl
  · unfold laws_FnExactLeastOneKind.f spec_LeastOneKind.f impl_LeastOneKind.f
    rw [paPeople_f, areCrowd_f]
    simp [h]
end Go.Proofs.Ytjoicciipimlmaa.Pure
