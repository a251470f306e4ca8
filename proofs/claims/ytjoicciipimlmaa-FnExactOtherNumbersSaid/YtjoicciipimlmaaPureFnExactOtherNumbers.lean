/- The program's OtherNumbers returns what the reference's returns, for all arguments (the pure statement behind the printed walk); no condition. -/
import Derived.Test.YtjoicciipimlmaaCommonAll
import Derived.Test.YtjoicciipimlmaaCommonInts
import Derived.Test.YtjoicciipimlmaaCommonNumbers
import Derived.Test.YtjoicciipimlmaaPx5
import Derived.Test.YtjoicciipimlmaaPx6
namespace Go.Proofs.Ytjoicciipimlmaa.Pure
open Go.RowKit Go.Proofs.Ytjoicciipimlmaa.P Go.Proofs.YtjoicciipimlmaaW.PrintWords Go.Proofs.YtjoicciipimlmaaW.PrintLast
set_option linter.unusedSimpArgs false
set_option linter.unusedVariables false
def others (l : List Int) : List Int := l.map fun n => (l.length : Int) - 1 - n
theorem specOther_l0 (l : List Int) (hl : l.length ≤ 12) (hb : ∀ x ∈ l, 0 ≤ x ∧ x ≤ 12) : ∀ (d i : Nat) (a : List Int), i + d = l.length → a.length = i → Ev (fun k => spec_OtherNumbers.l0 k l a l (l.length : Int) i) (a ++ (l.drop i).map (fun n => (l.length : Int) - 1 - n), true)
  | 0, i, a, hd, ha => by
    refine Ev.one (fun k => ?_)
    rw [spec_OtherNumbers.l0, if_neg (by omega), List.drop_of_length_le (by omega)]; simp
  | d + 1, i, a, hd, ha => by
    have hi' : i < l.length := by omega
    have e : rd l (i : Int) = l[i] := getD_get l i hi'
    have hx := hb l[i] (List.getElem_mem hi')
    refine Ev.step (fun k => ?_) (Ev.cast (specOther_l0 l hl hb d (i + 1) (a ++ [(l.length : Int) - 1 - l[i]]) (by omega) (by simp [ha])) ?_)
    · rw [spec_OtherNumbers.l0, if_pos (by omega), if_pos (by omega), if_pos (by omega), if_pos (by omega), e, w1 (by omega), w64 (i := (l.length : Int) - 1) (by omega) (by omega), w64 (by omega) (by omega)]
    · rw [show l.drop i = l[i] :: l.drop (i + 1) from List.drop_eq_getElem_cons hi', List.map_cons, List.append_assoc, List.singleton_append]
theorem implOther_l0 (l : List Int) (hl : l.length ≤ 12) (hb : ∀ x ∈ l, 0 ≤ x ∧ x ≤ 12) : ∀ (d i : Nat) (a : List Int), i + d = l.length → a.length = i → Ev (fun k => impl_OtherNumbers.l0 k l a l (l.length : Int) i) (a ++ (l.drop i).map (fun n => (l.length : Int) - 1 - n), true)
  | 0, i, a, hd, ha => by
    refine Ev.one (fun k => ?_)
    rw [impl_OtherNumbers.l0, if_neg (by omega), List.drop_of_length_le (by omega)]; simp
  | d + 1, i, a, hd, ha => by
    have hi' : i < l.length := by omega
    have e : rd l (i : Int) = l[i] := getD_get l i hi'
    have hx := hb l[i] (List.getElem_mem hi')
    refine Ev.step (fun k => ?_) (Ev.cast (implOther_l0 l hl hb d (i + 1) (a ++ [(l.length : Int) - 1 - l[i]]) (by omega) (by simp [ha])) ?_)
    · rw [impl_OtherNumbers.l0, if_pos (by omega), if_pos (by omega), if_pos (by omega), if_pos (by omega), e, w1 (by omega), w64 (i := (l.length : Int) - 1) (by omega) (by omega), w64 (by omega) (by omega)]
    · rw [show l.drop i = l[i] :: l.drop (i + 1) from List.drop_eq_getElem_cons hi', List.map_cons, List.append_assoc, List.singleton_append]
theorem isNums_bounds {l : List Int} (h : isNums l = true) : l.length ≤ 12 ∧ ∀ x ∈ l, 0 ≤ x ∧ x ≤ 12 := by
  unfold isNums inAll at h
  simp at h
  exact ⟨h.1, fun x hx => by have := h.2 x hx; omega⟩
def othersR (l : List Int) : List Int × Bool := if isNums l = true then (others l, true) else ([], false)
theorem specOther_ev (l : List Int) : Ev (fun k => spec_OtherNumbers.f k l) (othersR l) := by
  unfold spec_OtherNumbers.f othersR
  refine Ev.bind (deGood_ev l) ?_
  by_cases h : isNums l = true
  · simp only [if_pos h]
    have hb := isNums_bounds h
    have := specOther_l0 l hb.1 hb.2 l.length 0 [] (by omega) rfl
    simpa [others] using this
  · simp only [if_neg h]
    exact Ev.now _
theorem implOther_ev (l : List Int) (hl : l.length < 4611686018427387904) : Ev (fun k => impl_OtherNumbers.f k l) (othersR l) := by
  unfold impl_OtherNumbers.f othersR
  simp only [isNumbers_f l hl, Option.bind_some]
  by_cases h : isNums l = true
  · simp only [if_pos h]
    have hb := isNums_bounds h
    have := implOther_l0 l hb.1 hb.2 l.length 0 [] (by omega) rfl
    simpa [others] using this
  · simp only [if_neg h]
    exact Ev.now _
theorem othersR_len (l : List Int) (hl : l.length ≤ 17592186044415) : (othersR l).1.length ≤ 17592186044415 := by
  unfold othersR
  split <;> simp [others]; omega
theorem FnExactOtherNumbers : laws_FnExactOtherNumbers.Pure := by
  intro l _ hb _
  have hl : l.length ≤ 17592186044415 := by omega
  have ho := othersR_len l hl
  obtain ⟨R, hs, hi, hr⟩ : ∃ R : List Int × Bool, Ev (fun k => spec_OtherNumbers.f k l) R ∧ Ev (fun k => impl_OtherNumbers.f k l) R ∧ R.1.length ≤ 17592186044415 := ⟨_, specOther_ev l, implOther_ev l (by omega), ho⟩
  clear ho
  refine Ev.rounds ?_
  unfold laws_FnExactOtherNumbers.f
  by_cases h : (l.length : Int) > 1048576
  · simp only [if_pos h]; exact Ev.now _
  · simp only [if_neg h]
    refine Ev.bind (toIntS_ev l (by omega)) ?_
    refine Ev.bind hs ?_
    refine Ev.bind (toIntS_ev l (by omega)) ?_
    refine Ev.bind hi ?_
    refine Ev.bind (eqIntS_self R.1 (by omega)) ?_
    simp only [if_true, bne_self_eq_false]
    refine Ev.step (fun k => rfl) ?_
    simp only [laws_FnExactOtherNumbers.j0, Bool.false_eq_true, if_false]
    refine Ev.bind (toIntS_ev l (by omega)) ?_
    refine Ev.bind (eqIntS_self l (by omega)) ?_
    simp only [if_true]
    obtain ⟨z, hz, hm, hE⟩ := markIntS_ev l 1 (by omega) (by omega)
    refine Ev.bind hE ?_
    simp only [if_neg (show ¬ (1 + (l.length : Int) < 0) by omega)]
    refine Ev.bind (eqIntS_self R.1 (by omega)) ?_
    simp only [if_true, bne_self_eq_false]
    refine Ev.step (fun k => rfl) ?_
    simp only [laws_FnExactOtherNumbers.j1, Bool.false_eq_true, if_false]
    obtain ⟨y, hy, hn, hF⟩ := markIntS_ev R.1 1 (by omega) (by omega)
    refine Ev.bind hF ?_
    refine Ev.bind (heldIntS_ev y 1 (by omega) (by omega) hn) ?_
    simp only [hy, if_neg (show ¬ (1 + (R.1.length : Int) < 0) by omega), if_true]
    refine Ev.bind (toIntS_ev l (by omega)) ?_
    refine Ev.bind hi ?_
    refine Ev.bind (eqIntS_self R.1 (by omega)) ?_
    simp only [if_true, bne_self_eq_false]
    refine Ev.step (fun k => rfl) ?_
    simp only [laws_FnExactOtherNumbers.j2, Bool.false_eq_true, if_false]
    refine Ev.bind (heldIntS_ev y 1 (by omega) (by omega) hn) ?_
    simp only [hy, if_neg (show ¬ (1 + (R.1.length : Int) < 0) by omega), if_true]
    exact Ev.now _
end Go.Proofs.Ytjoicciipimlmaa.Pure
