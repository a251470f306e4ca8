/- The program's LeastMustHave returns what the reference's returns, for all arguments (the pure statement behind the printed walk); no condition. -/
import Derived.Test.YtjoicciipimlmaaCommonKinds
import Derived.Test.YtjoicciipimlmaaPx1
namespace Go.Proofs.Ytjoicciipimlmaa.Pure
open Go.RowKit Go.Proofs.Ytjoicciipimlmaa.P Go.Proofs.YtjoicciipimlmaaW.PrintWords Go.Proofs.YtjoicciipimlmaaW.PrintLast
set_option linter.unusedSimpArgs false
set_option linter.unusedVariables false
theorem FnExactLeastMustHave : laws_FnExactLeastMustHave.Pure := by
  intro a b _ _
  refine ⟨3, ?_⟩
  by_cases h : (1 ≤ a ∧ a ≤ 4) ∧ (1 ≤ b ∧ b ≤ 4)
  · rcases four h.1 with rfl | rfl | rfl | rfl <;> rcases four h.2 with rfl | rfl | rfl | rfl <;> kernel_rfl
  · unfold laws_FnExactLeastMustHave.f spec_LeastMustHave.f impl_LeastMustHave.f
    rw [trk, sides]
    simp only [h, decide_false, Option.bind_some, Bool.false_eq_true, if_false]
    simp [spec_LeastMustHave.j0, impl_LeastMustHave.j0]
end Go.Proofs.Ytjoicciipimlmaa.Pure
