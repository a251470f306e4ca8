/- The program's MostWithout returns what the reference's returns, for all arguments (the pure statement behind the printed walk); no condition. -/
import Derived.Test.YtiopgbpjkjnphaaPx14
import Derived.Test.YtiopgbpjkjnphaaPx15
import Derived.Test.YtiopgbpjkjnphaaPx2
namespace Go.Proofs.Ytiopgbpjkjnphaa.Pure
open Go.RowKit Go.Proofs.Ytiopgbpjkjnphaa.P Go.Proofs.YtiopgbpjkjnphaaW.PrintWords Go.Proofs.YtiopgbpjkjnphaaW.PrintLast
set_option linter.unusedSimpArgs false
set_option linter.unusedVariables false
theorem mw_in : ∀ i : Fin 12, ∀ j : Fin 12, j.val ≤ i.val → laws_FnExactMostWithout.f 400 ((i.val : Int) + 1) ((j.val : Int) + 2) = some true := by decide +kernel
theorem l1In_f (a lo hi : Int) : spec_l1In.f a lo hi = some (decide (lo ≤ a) && decide (a ≤ hi)) := by
  unfold spec_l1In.f
  by_cases h : lo ≤ a
  · rw [if_pos h]; simp [h]
  · rw [if_neg h]; simp [h]
theorem w64 {i : Int} (h0 : -9223372036854775808 ≤ i) (h : i ≤ 9223372036854775807) : wrap64 i = i := by unfold wrap64; omega
theorem wf_range {b : Int} (h : (Lit.int .i64 b).wf = true) : -9223372036854775808 ≤ b ∧ b ≤ 9223372036854775807 := by
  have h_ := h
  simp only [Lit.wf, Bool.and_eq_true, decide_eq_true_eq] at h_
  exact ⟨h_.1, h_.2⟩
theorem within_f (a lo hi : Int) : impl_within.f a lo hi = some (decide (lo ≤ a) && decide (a ≤ hi)) := by
  unfold impl_within.f
  by_cases h : lo ≤ a
  · rw [if_pos h]; simp [h]
  · rw [if_neg h]; simp [h]
theorem FnExactMostWithout : laws_FnExactMostWithout.Pure := by
  intro a b wa wb
  obtain ⟨b1, b2⟩ := wf_range wb
  by_cases h : 1 ≤ a ∧ a ≤ 12
  · by_cases h2 : 2 ≤ b ∧ b ≤ a + 1
    · have hm := mw_in ⟨(a - 1).toNat, by omega⟩ ⟨(b - 2).toNat, by omega⟩ (by show (b - 2).toNat ≤ (a - 1).toNat; omega)
      have e1 : (((a - 1).toNat : Nat) : Int) + 1 = a := by omega
      have e2 : (((b - 2).toNat : Nat) : Int) + 2 = b := by omega
      refine ⟨400, ?_⟩
      have hm2 : laws_FnExactMostWithout.f 400 ((((a - 1).toNat : Nat) : Int) + 1) ((((b - 2).toNat : Nat) : Int) + 2) = some true := hm
      rw [e1, e2] at hm2
      exact hm2
    · refine ⟨0 + 1, ?_⟩
      have e1 : (decide (1 ≤ a) && decide (a ≤ 12)) = true := by simp; omega
      have e2 : (decide (2 ≤ b) && decide (b ≤ wrap64 (a + 1))) = false := by
        rw [w64 (by omega) (by omega)]
        simp
        omega
      have e3 : (decide (1 ≤ wrap64 (b - 1)) && decide (wrap64 (b - 1) ≤ a)) = false := by
        simp
        unfold wrap64
        omega
      unfold laws_FnExactMostWithout.f spec_MostWithout.f impl_MostWithout.f impl_TuranParty.f
      simp only [l1In_f, within_f, Option.bind_some, e1, e2, e3, if_true, Bool.not_false, spec_MostWithout.j0, impl_TuranParty.j0]
      simp
  · refine ⟨0 + 1, ?_⟩
    have e1 : (decide (1 ≤ a) && decide (a ≤ 12)) = false := by simp; omega
    unfold laws_FnExactMostWithout.f spec_MostWithout.f impl_MostWithout.f impl_TuranParty.f
    simp only [l1In_f, within_f, Option.bind_some, e1, Bool.false_eq_true, if_false, if_true, spec_MostWithout.j0, impl_TuranParty.j0]
    simp
end Go.Proofs.Ytiopgbpjkjnphaa.Pure
