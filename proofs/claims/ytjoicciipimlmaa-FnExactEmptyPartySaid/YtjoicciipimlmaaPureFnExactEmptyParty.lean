/- The program's EmptyParty returns what the reference's returns, for all arguments (the pure statement behind the printed walk); no condition. -/
import Derived.Test.YtjoicciipimlmaaCommonCrowd
import Derived.Test.YtjoicciipimlmaaPx3
import Derived.Test.YtjoicciipimlmaaPx4
import Derived.Test.YtjoicciipimlmaaPx5
namespace Go.Proofs.Ytjoicciipimlmaa.Pure
open Go.RowKit Go.Proofs.Ytjoicciipimlmaa.P Go.Proofs.YtjoicciipimlmaaW.PrintWords Go.Proofs.YtjoicciipimlmaaW.PrintLast
set_option linter.unusedSimpArgs false
set_option linter.unusedVariables false
theorem FnExactEmptyParty : laws_FnExactEmptyParty.Pure := by
  intro a _
  refine ⟨3, ?_⟩
  by_cases h : 0 ≤ a ∧ a ≤ 12
  · simp [laws_FnExactEmptyParty.f, spec_EmptyParty.f, impl_EmptyParty.f, paPeople_f, areCrowd_f, h, laws_eqParty.f, laws_eqPairS.f, laws_eqPairS.l0, laws_FnExactEmptyParty.j0, laws_FnExactEmptyParty.j1, laws_markParty.f, laws_heldParty.f, laws_markPairS.f, laws_markPairS.l0, laws_heldPairS.f, laws_heldPairS.l0]
  · simp [laws_FnExactEmptyParty.f, spec_EmptyParty.f, impl_EmptyParty.f, paPeople_f, areCrowd_f, h, laws_eqParty.f, laws_eqPairS.f, laws_eqPairS.l0, laws_FnExactEmptyParty.j0, laws_FnExactEmptyParty.j1, laws_markParty.f, laws_heldParty.f, laws_markPairS.f, laws_markPairS.l0, laws_heldPairS.f, laws_heldPairS.l0]
end Go.Proofs.Ytjoicciipimlmaa.Pure
