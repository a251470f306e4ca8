/- The program's GroupBound returns what the reference's returns, for all arguments (the pure statement behind the printed walk); no condition. -/
import Derived.Test.YtjoicciipimlmaaCommonKinds
import Derived.Test.YtjoicciipimlmaaPx1
import Derived.Test.YtjoicciipimlmaaPx2
namespace Go.Proofs.Ytjoicciipimlmaa.Pure
open Go.RowKit Go.Proofs.Ytjoicciipimlmaa.P Go.Proofs.YtjoicciipimlmaaW.PrintWords Go.Proofs.YtjoicciipimlmaaW.PrintLast
set_option linter.unusedSimpArgs false
set_option linter.unusedVariables false
theorem FnExactGroupBound : laws_FnExactGroupBound.Pure := by
  intro a b _ _
  refine ⟨9, ?_⟩
  by_cases h : (1 ≤ a ∧ a ≤ 4) ∧ (1 ≤ b ∧ b ≤ 4)
  · rcases four h.1 with rfl | rfl | rfl | rfl <;> rcases four h.2 with rfl | rfl | rfl | rfl <;> kernel_rfl
  · unfold laws_FnExactGroupBound.f spec_GroupBound.f impl_GroupBound.f
    rw [trk, sides]
    simp [h]
end Go.Proofs.Ytjoicciipimlmaa.Pure
