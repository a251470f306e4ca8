/- The program's IsNumbers returns what the reference's returns, for all arguments (the pure statement behind the printed walk); no condition. -/
import Derived.Test.YtjoicciipimlmaaCommonInts
import Derived.Test.YtjoicciipimlmaaCommonNumbers
import Derived.Test.YtjoicciipimlmaaPx2
import Derived.Test.YtjoicciipimlmaaPx3
namespace Go.Proofs.Ytjoicciipimlmaa.Pure
open Go.RowKit Go.Proofs.Ytjoicciipimlmaa.P Go.Proofs.YtjoicciipimlmaaW.PrintWords Go.Proofs.YtjoicciipimlmaaW.PrintLast
set_option linter.unusedSimpArgs false
set_option linter.unusedVariables false
theorem FnExactIsNumbers : laws_FnExactIsNumbers.Pure := by
  intro l _ hb _
  have hl : l.length ≤ 17592186044415 := by omega
  refine Ev.rounds ?_
  unfold laws_FnExactIsNumbers.f
  by_cases h : (l.length : Int) > 1048576
  · simp only [if_pos h]; exact Ev.now _
  · simp only [if_neg h]
    refine Ev.bind (toIntS_ev l (by omega)) ?_
    unfold spec_IsNumbers.f
    refine Ev.bind (Ev.bind (deGood_ev l) (Ev.now _)) ?_
    refine Ev.bind (toIntS_ev l (by omega)) ?_
    simp only [isNumbers_f l (show l.length < 4611686018427387904 by omega), Option.bind_some, bne_self_eq_false, Bool.false_eq_true, if_false]
    refine Ev.bind (toIntS_ev l (by omega)) ?_
    refine Ev.bind (eqIntS_ev l l (by omega)) ?_
    simp [Ev.now]
end Go.Proofs.Ytjoicciipimlmaa.Pure
