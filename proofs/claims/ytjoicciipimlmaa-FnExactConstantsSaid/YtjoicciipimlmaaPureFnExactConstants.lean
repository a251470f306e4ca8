/- The program's constants are those that the reference names (the pure statement behind the printed walk); no condition. -/
import Derived.Test.YtjoicciipimlmaaPx1
namespace Go.Proofs.Ytjoicciipimlmaa.Pure
open Go.RowKit Go.Proofs.Ytjoicciipimlmaa.P Go.Proofs.YtjoicciipimlmaaW.PrintWords Go.Proofs.YtjoicciipimlmaaW.PrintLast
set_option linter.unusedSimpArgs false
set_option linter.unusedVariables false
theorem FnExactConstants : laws_FnExactConstants.Pure := rfl
end Go.Proofs.Ytjoicciipimlmaa.Pure
