/- Plain lemmas: both tests of two sizes say that each lies from 1 to 4. -/
import Derived.Test.YtjoicciipimlmaaCommonAll
import Derived.Test.YtjoicciipimlmaaPx1
namespace Go.Proofs.Ytjoicciipimlmaa.Pure
open Go.RowKit Go.Proofs.Ytjoicciipimlmaa.P Go.Proofs.YtjoicciipimlmaaW.PrintWords Go.Proofs.YtjoicciipimlmaaW.PrintLast
set_option linter.unusedSimpArgs false
set_option linter.unusedVariables false
theorem trk (a b : Int) : spec_trKinds.f a b = some (decide ((1 ≤ a ∧ a ≤ 4) ∧ (1 ≤ b ∧ b ≤ 4))) := by
  unfold spec_trKinds.f
  rw [l1In_f, l1In_f]
  by_cases h : 1 ≤ a ∧ a ≤ 4
  · simp [h]
  · have : (decide (1 ≤ a) && decide (a ≤ 4)) = false := by simp; omega
    simp [this, h]
theorem sides (a b : Int) : impl_areSides.f a b = some (decide ((1 ≤ a ∧ a ≤ 4) ∧ (1 ≤ b ∧ b ≤ 4))) := by
  unfold impl_areSides.f
  rw [within_f, within_f]
  by_cases h : 1 ≤ a ∧ a ≤ 4
  · simp [h]
  · have : (decide (1 ≤ a) && decide (a ≤ 4)) = false := by simp; omega
    simp [this, h]
theorem four {a : Int} (h : 1 ≤ a ∧ a ≤ 4) : a = 1 ∨ a = 2 ∨ a = 3 ∨ a = 4 := by omega
end Go.Proofs.Ytjoicciipimlmaa.Pure
