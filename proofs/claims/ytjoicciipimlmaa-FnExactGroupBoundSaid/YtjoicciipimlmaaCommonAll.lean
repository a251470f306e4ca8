/- Plain lemmas: the reference's bounds' tests (l1In, l1All) say that all numbers of a list lie within bounds. Condition: the list's length. -/
import Derived.Test.YtjoicciipimlmaaCommonInts
import Derived.Test.YtjoicciipimlmaaPx1
import Derived.Test.YtjoicciipimlmaaPx2
import Derived.Test.YtjoicciipimlmaaPx3
namespace Go.Proofs.Ytjoicciipimlmaa.Pure
open Go.RowKit Go.Proofs.Ytjoicciipimlmaa.P Go.Proofs.YtjoicciipimlmaaW.PrintWords Go.Proofs.YtjoicciipimlmaaW.PrintLast
set_option linter.unusedSimpArgs false
set_option linter.unusedVariables false
theorem l1In_f (a lo hi : Int) : spec_l1In.f a lo hi = some (decide (lo ≤ a) && decide (a ≤ hi)) := by
  unfold spec_l1In.f
  by_cases h : lo ≤ a
  · rw [if_pos h]; simp [h]
  · rw [if_neg h]; simp [h]
theorem within_f (a lo hi : Int) : impl_within.f a lo hi = some (decide (lo ≤ a) && decide (a ≤ hi)) := by
  unfold impl_within.f
  by_cases h : lo ≤ a
  · rw [if_pos h]; simp [h]
  · rw [if_neg h]; simp [h]
theorem getD_get (l : List Int) (i : Nat) (h : i < l.length) : l.getD i 0 = l[i] := by simp [List.getD_eq_getElem?_getD, h]
def inAll (l : List Int) (lo hi : Int) : Bool := l.all fun n => decide (lo ≤ n) && decide (n ≤ hi)
theorem l1All_l0 (l : List Int) (lo hi : Int) (hl : l.length < 4611686018427387904) : ∀ (d i : Nat), i + d = l.length → Ev (fun k => spec_l1All.l0 k lo hi l (l.length : Int) i) (inAll (l.drop i) lo hi)
  | 0, i, hd => by
    refine Ev.one (fun k => ?_)
    rw [spec_l1All.l0, if_neg (by omega), List.drop_of_length_le (by omega)]; rfl
  | d + 1, i, hd => by
    have hi' : i < l.length := by omega
    have e : rd l (i : Int) = l[i] := getD_get l i hi'
    have eD : inAll (l.drop i) lo hi = ((decide (lo ≤ l[i]) && decide (l[i] ≤ hi)) && inAll (l.drop (i + 1)) lo hi) := by
      rw [List.drop_eq_getElem_cons hi']; rfl
    rw [eD]
    cases hb : (decide (lo ≤ l[i]) && decide (l[i] ≤ hi)) with
    | false =>
      refine Ev.one (fun k => ?_)
      rw [spec_l1All.l0, if_pos (by omega), if_pos (by omega), if_pos (by omega), l1In_f, e, hb]; rfl
    | true =>
      refine Ev.step (fun k => ?_) (l1All_l0 l lo hi hl d (i + 1) (by omega))
      rw [spec_l1All.l0, if_pos (by omega), if_pos (by omega), if_pos (by omega), l1In_f, e, hb, w1 (by omega)]; rfl
theorem l1All_ev (l : List Int) (lo hi : Int) (hl : l.length < 4611686018427387904) : Ev (fun k => spec_l1All.f k l lo hi) (inAll l lo hi) := by
  unfold spec_l1All.f
  simpa using l1All_l0 l lo hi hl l.length 0 (by omega)
theorem areWithin_f (l : List Int) (lo hi : Int) : impl_areWithin.f l lo hi = some (inAll l lo hi) := rfl
end Go.Proofs.Ytjoicciipimlmaa.Pure
