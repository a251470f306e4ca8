/- Plain lemmas: the reference's deGood and the program's IsNumbers are one test: at most twelve numbers, each from 0 to one less than how many there are. -/
import Derived.Test.YtjoicciipimlmaaCommonAll
import Derived.Test.YtjoicciipimlmaaCommonInts
import Derived.Test.YtjoicciipimlmaaPx2
import Derived.Test.YtjoicciipimlmaaPx3
namespace Go.Proofs.Ytjoicciipimlmaa.Pure
open Go.RowKit Go.Proofs.Ytjoicciipimlmaa.P Go.Proofs.YtjoicciipimlmaaW.PrintWords Go.Proofs.YtjoicciipimlmaaW.PrintLast
set_option linter.unusedSimpArgs false
set_option linter.unusedVariables false
def isNums (l : List Int) : Bool := decide (l.length ≤ 12) && inAll l 0 ((l.length : Int) - 1)
theorem deGood_ev (l : List Int) : Ev (fun k => spec_deGood.f k l) (isNums l) := by
  unfold spec_deGood.f isNums
  by_cases h : l.length ≤ 12
  · simp only [if_pos (show (l.length : Int) ≤ 12 by omega), h, decide_true, Bool.true_and, w64 (i := (l.length : Int) - 1) (by omega) (by omega)]
    exact Ev.bind (l1All_ev l 0 _ (by omega)) (Ev.now _)
  · simp only [if_neg (show ¬ (l.length : Int) ≤ 12 by omega), h, decide_false, Bool.false_and]
    exact Ev.now _
theorem isNumbers_f (l : List Int) (hl : l.length < 4611686018427387904) : impl_IsNumbers.f l = some (isNums l) := by
  unfold impl_IsNumbers.f impl_areCrowd.f isNums
  rw [within_f]
  by_cases h : l.length ≤ 12
  · have e : (decide (0 ≤ (l.length : Int)) && decide ((l.length : Int) ≤ 12)) = true := by simp; omega
    rw [e]
    simp only [Option.bind_some, if_true, h, decide_true, Bool.true_and]
    rw [w64 (by omega) (by omega), areWithin_f]; rfl
  · have e : (decide (0 ≤ (l.length : Int)) && decide ((l.length : Int) ≤ 12)) = false := by simp; omega
    rw [e]
    simp [h]
end Go.Proofs.Ytjoicciipimlmaa.Pure
