/- Plain lemmas: both tests of a number of people say that it lies from 0 to 12. -/
import Derived.Test.YtjoicciipimlmaaCommonAll
import Derived.Test.YtjoicciipimlmaaPx2
namespace Go.Proofs.Ytjoicciipimlmaa.Pure
open Go.RowKit Go.Proofs.Ytjoicciipimlmaa.P Go.Proofs.YtjoicciipimlmaaW.PrintWords Go.Proofs.YtjoicciipimlmaaW.PrintLast
set_option linter.unusedSimpArgs false
set_option linter.unusedVariables false
theorem paPeople_f (a : Int) : spec_paPeople.f a = some (decide (0 ≤ a ∧ a ≤ 12)) := by
  unfold spec_paPeople.f
  rw [l1In_f]; simp [Bool.decide_and]
theorem areCrowd_f (a : Int) : impl_areCrowd.f a = some (decide (0 ≤ a ∧ a ≤ 12)) := by
  unfold impl_areCrowd.f
  rw [within_f]; simp [Bool.decide_and]
theorem twelve {a : Int} (h : 0 ≤ a ∧ a ≤ 12) : a = 0 ∨ a = 1 ∨ a = 2 ∨ a = 3 ∨ a = 4 ∨ a = 5 ∨ a = 6 ∨ a = 7 ∨ a = 8 ∨ a = 9 ∨ a = 10 ∨ a = 11 ∨ a = 12 := by omega
end Go.Proofs.Ytjoicciipimlmaa.Pure
