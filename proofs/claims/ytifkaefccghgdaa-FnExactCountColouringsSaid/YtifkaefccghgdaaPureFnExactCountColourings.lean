/- The program's CountColourings returns what the reference's returns, for all arguments (the plain statement behind the printed walk); no condition. -/
import Derived.Lib.TrailingZeros
import Derived.Test.YtifkaefccghgdaaPx0
import Derived.Test.YtifkaefccghgdaaPx1
import Derived.Test.YtifkaefccghgdaaPx10
import Derived.Test.YtifkaefccghgdaaPx11
import Derived.Test.YtifkaefccghgdaaPx2
import Derived.Test.YtifkaefccghgdaaPx5
import Derived.Test.YtifkaefccghgdaaPx7
import Derived.Test.YtifkaefccghgdaaPx9
namespace Go.Proofs.Ytifkaefccghgdaa.Pure
open Go.RowKit Go.Proofs.Ytifkaefccghgdaa.P Go.Proofs.YtifkaefccghgdaaW.PrintWords Go.Proofs.YtifkaefccghgdaaW.PrintLast
set_option linter.unusedSimpArgs false
set_option linter.unusedVariables false
theorem Ev.one {α : Type} {g : Nat → Option α} {r : α} (h : ∀ k, g (k + 1) = some r) : Ev g r := Ev.step h (Ev.now r)
abbrev Rel := Nat → Nat → Bool
def prodP (C : Nat) : Nat → Nat
  | 0 => 1
  | m + 1 => prodP C m * (C - m)
theorem w64 {i : Int} (h0 : -9223372036854775808 ≤ i) (h : i ≤ 9223372036854775807) : wrap64 i = i := by unfold wrap64; omega
theorem prodP_le (C : Nat) (hC : C ≤ 12) : ∀ k, prodP C k ≤ 12 ^ k
  | 0 => Nat.le_refl _
  | k + 1 => by
    rw [prodP, Nat.pow_succ]
    exact Nat.mul_le_mul (prodP_le C hC k) (by omega)
theorem waysI_prod (C : Nat) (hC : C ≤ 12) : ∀ k, k ≤ 8 → waysI (C : Int) k = ((prodP C k : Nat) : Int)
  | 0, _ => rfl
  | k + 1, hk => by
    have h1 := prodP_le C hC (k + 1)
    have h12 : 12 ^ (k + 1) ≤ 12 ^ 8 := Nat.pow_le_pow_right (by decide) (by omega)
    have h12' : (12 : Nat) ^ 8 = 429981696 := rfl
    rw [prodP] at h1
    rw [waysI, waysI_prod C hC k (by omega), prodP, show (if (C : Int) - (k : Int) < 0 then 0 else (C : Int) - (k : Int)) = ((C - k : Nat) : Int) by split <;> omega, ← Int.natCast_mul, w64 (by omega) (by omega)]
theorem cc_fold (C : Nat) (hC : C ≤ 12) : ∀ (l : List (List Int × Nat)) (acc : Nat), (∀ p ∈ l, p.2 ≤ 8) → acc + (l.map fun p => prodP C p.2).sum ≤ 429981696 → l.foldl (fun s p => ccStep (C : Int) s p.1 p.2) (acc : Int) = ((acc + (l.map fun p => prodP C p.2).sum : Nat) : Int)
  | [], acc, _, _ => by simp
  | x :: l, acc, h, hb => by
    rw [List.map_cons, List.sum_cons] at hb
    rw [List.foldl_cons, List.map_cons, List.sum_cons, ccStep, waysI_prod C hC x.2 (h x List.mem_cons_self), w64 (by omega) (by omega), show ((acc : Int) + (prodP C x.2 : Int)) = ((acc + prodP C x.2 : Nat) : Int) by omega, cc_fold C hC l (acc + prodP C x.2) (fun p hp => h p (List.mem_cons_of_mem _ hp)) (by omega), Nat.add_assoc]
theorem cols_congr (r s : Nat → Nat → Bool) (n : Nat) (h : ∀ a b, a < n → b < n → r a b = s a b) : ∀ (d : Nat) (cs : List Int) (m : Nat), cs.length + d ≤ n → cols r d cs m = cols s d cs m
  | 0, cs, m, _ => rfl
  | d + 1, cs, m, hd => by
    have hc : ∀ k, clashAt r cs k cs.length = clashAt s cs k cs.length := by
      intro k
      unfold clashAt
      rw [Bool.eq_iff_iff, List.any_eq_true, List.any_eq_true]
      constructor
      · rintro ⟨b, h1, h2⟩
        exact ⟨b, h1, by rw [← h _ b (by omega) (by rw [List.mem_range] at h1; omega)]; exact h2⟩
      · rintro ⟨b, h1, h2⟩
        exact ⟨b, h1, by rw [h _ b (by omega) (by rw [List.mem_range] at h1; omega)]; exact h2⟩
    unfold cols
    congr 1
    funext k
    rw [hc k, cols_congr r s n h d _ _ (by rw [List.length_append, List.length_singleton]; omega)]

def idFrom (m d : Nat) : List Int := (List.range' m d).map fun i : Nat => (i : Int)
theorem idFrom_succ (m d : Nat) : idFrom m (d + 1) = (m : Int) :: idFrom (m + 1) d := by simp [idFrom, List.range'_succ]
theorem cols_le (r : Nat → Nat → Bool) : ∀ (d : Nat) (cs : List Int) (m : Nat), ∀ p ∈ cols r d cs m, p.2 ≤ m + d ∧ (p.2 = m + d → p.1 = cs ++ idFrom m d)
  | 0, cs, m, p, h => by simp [cols] at h; subst h; simp [idFrom]
  | d + 1, cs, m, p, h => by
    unfold cols at h
    rw [List.mem_flatMap] at h
    obtain ⟨k, hk, h⟩ := h
    rw [List.mem_range] at hk
    split at h
    · simp at h
    · have ih := cols_le r d _ _ p h
      by_cases hkm : k = m
      · subst hkm
        rw [show max k (k + 1) = k + 1 by omega] at ih
        refine ⟨by omega, fun he => ?_⟩
        rw [ih.2 (by omega), idFrom_succ, List.append_assoc, List.singleton_append]
      · rw [show max m (k + 1) = m by omega] at ih
        exact ⟨by omega, fun he => by omega⟩
def apartB (r : Rel) (a : Nat) (S : List Nat) : Bool := S.all fun b => !r a b
def posN (cs : List Int) (q n : Nat) : List Nat := (List.range n).filter fun b => cs.getD b 0 == (q : Int)
theorem clash_apart (r : Rel) (cs : List Int) (k : Nat) : clashAt r cs k cs.length = !apartB r cs.length (posN cs k cs.length) := by
  unfold clashAt apartB posN
  rw [Bool.eq_iff_iff, List.any_eq_true, Bool.not_eq_true', ← Bool.not_eq_true, List.all_eq_true]
  constructor
  · rintro ⟨b, hb, h⟩ h2
    rw [Bool.and_eq_true] at h
    have := h2 b (List.mem_filter.2 ⟨hb, h.1⟩)
    rw [h.2] at this
    cases this
  · intro h
    apply Classical.byContradiction
    intro h2
    refine h fun b hb => ?_
    obtain ⟨h3, h4⟩ := List.mem_filter.1 hb
    cases hr : r cs.length b with
    | false => rfl
    | true => exact absurd ⟨b, h3, by rw [h4, hr]; rfl⟩ h2
def setsOf (cs : List Int) (m : Nat) : List (List Nat) := (List.range m).map fun q => posN cs q cs.length
theorem setsOf_get (cs : List Int) (m k : Nat) (h : k < m) : (setsOf cs m).getD k [] = posN cs k cs.length := by simp [setsOf, List.getD_eq_getElem?_getD, h]
theorem setsOf_len (cs : List Int) (m : Nat) : (setsOf cs m).length = m := by simp [setsOf]
theorem posN_snoc (cs : List Int) (k : Int) (q : Nat) : posN (cs ++ [k]) q (cs ++ [k]).length = posN cs q cs.length ++ if k = (q : Int) then [cs.length] else [] := by
  unfold posN
  rw [List.length_append, List.length_singleton, List.range_succ, List.filter_append]
  congr 1
  · refine List.filter_congr fun b hb => ?_
    have hb := List.mem_range.1 hb
    rw [List.getD_eq_getElem?_getD, List.getD_eq_getElem?_getD, List.getElem?_append_left hb]
  · have : (cs ++ [k]).getD cs.length 0 = k := by rw [List.getD_eq_getElem?_getD, List.getElem?_append_right (Nat.le_refl _)]; simp
    rw [List.filter_cons, this]
    by_cases h : k = (q : Int)
    · rw [if_pos (by simpa using h), if_pos h]; rfl
    · rw [if_neg (by simpa using h), if_neg h]; rfl
theorem setsOf_new (cs : List Int) (m : Nat) (h : ∀ b, b < cs.length → cs.getD b 0 ≠ (m : Int)) : setsOf (cs ++ [(m : Int)]) (m + 1) = setsOf cs m ++ [[cs.length]] := by
  unfold setsOf
  rw [List.range_succ, List.map_append]
  congr 1
  · refine List.map_congr_left fun q hq => ?_
    have hq := List.mem_range.1 hq
    rw [posN_snoc, if_neg (by omega), List.append_nil]
  · rw [List.map_singleton, posN_snoc, if_pos rfl]
    have : posN cs m cs.length = [] := List.filter_eq_nil_iff.2 fun b hb => by simpa using h b (List.mem_range.1 hb)
    rw [this]; rfl
theorem setsOf_old (cs : List Int) (m k : Nat) (h : k < m) : setsOf (cs ++ [(k : Int)]) m = (setsOf cs m).set k (posN cs k cs.length ++ [cs.length]) := by
  apply List.ext_getElem?
  intro i
  by_cases hi : i < m
  · by_cases e : k = i
    · subst e
      rw [List.getElem?_set_self (by rw [setsOf_len]; exact h)]
      simp only [setsOf, List.getElem?_map, List.getElem?_range hi, Option.map_some]
      rw [posN_snoc, if_pos rfl]
    · rw [List.getElem?_set_ne e]
      simp only [setsOf, List.getElem?_map, List.getElem?_range hi, Option.map_some]
      rw [posN_snoc, if_neg (by omega), List.append_nil]
  · rw [List.getElem?_eq_none (by rw [setsOf_len]; omega), List.getElem?_eq_none (by rw [List.length_set, setsOf_len]; omega)]
theorem sum_flat {α β : Type} (f : α → List β) (g : β → Nat) : ∀ l : List α, ((l.flatMap f).map g).sum = (l.map fun x => ((f x).map g).sum).sum
  | [] => rfl
  | x :: l => by rw [List.flatMap_cons, List.map_append, List.sum_append, sum_flat f g l, List.map_cons, List.sum_cons]
theorem sum_mul (c : Nat) : ∀ l : List Nat, (l.map fun x => c * x).sum = c * l.sum
  | [] => by simp
  | x :: l => by rw [List.map_cons, List.sum_cons, sum_mul c l, List.sum_cons, Nat.mul_add]
def waysP (r : Rel) (C : Nat) : Nat → List (List Nat) → Nat → Nat
  | 0, _, _ => 1
  | d + 1, S, a => ((List.range S.length).map fun k => if apartB r a (S.getD k []) then waysP r C d (S.set k (S.getD k [] ++ [a])) (a + 1) else 0).sum + (C - S.length) * waysP r C d (S ++ [[a]]) (a + 1)
theorem cols_ways (r : Rel) (C : Nat) : ∀ (d : Nat) (cs : List Int) (m : Nat), (∀ b, b < cs.length → 0 ≤ cs.getD b 0 ∧ cs.getD b 0 < (m : Int)) → ((cols r d cs m).map fun p => prodP C p.2).sum = prodP C m * waysP r C d (setsOf cs m) cs.length
  | 0, cs, m, h => by simp [cols, waysP]
  | d + 1, cs, m, h => by
    have hl (k : Int) : (cs ++ [k]).length = cs.length + 1 := by simp
    have hget (k : Int) : ∀ b, b < cs.length → (cs ++ [k]).getD b 0 = cs.getD b 0 := fun b hb => by rw [List.getD_eq_getElem?_getD, List.getD_eq_getElem?_getD, List.getElem?_append_left hb]
    have hlast (k : Int) : (cs ++ [k]).getD cs.length 0 = k := by rw [List.getD_eq_getElem?_getD, List.getElem?_append_right (Nat.le_refl _)]; simp
    rw [cols, sum_flat, List.range_succ, List.map_append, List.sum_append, waysP, Nat.mul_add, setsOf_len]
    congr 1
    · rw [← sum_mul, List.map_map]
      congr 1
      refine List.map_congr_left fun k hk => ?_
      have hk := List.mem_range.1 hk
      have ih := cols_ways r C d (cs ++ [(k : Int)]) (max m (k + 1)) (fun b hb => by
        rw [hl] at hb
        by_cases e : b = cs.length
        · subst e; rw [hlast]; omega
        · have := h b (by omega); rw [hget _ b (by omega)]; omega)
      rw [show max m (k + 1) = m by omega] at ih ⊢
      simp only [Function.comp]
      rw [clash_apart, setsOf_get cs m k hk]
      cases apartB r cs.length (posN cs k cs.length) with
      | false => simp
      | true =>
        simp only [Bool.not_true, Bool.false_eq_true, if_false, if_true]
        rw [ih, setsOf_old cs m k hk, hl]
    · have hne : ∀ b, b < cs.length → cs.getD b 0 ≠ (m : Int) := fun b hb => by have := h b hb; omega
      have hp : posN cs m cs.length = [] := List.filter_eq_nil_iff.2 fun b hb => by simpa using hne b (List.mem_range.1 hb)
      have ih := cols_ways r C d (cs ++ [(m : Int)]) (max m (m + 1)) (fun b hb => by
        rw [hl] at hb
        by_cases e : b = cs.length
        · subst e; rw [hlast]; omega
        · have := h b (by omega); rw [hget _ b (by omega)]; omega)
      rw [show max m (m + 1) = m + 1 by omega] at ih
      rw [List.map_singleton, List.sum_singleton, clash_apart, hp]
      simp only [apartB, List.all_nil, Bool.not_true, Bool.false_eq_true, if_false]
      rw [show max m (m + 1) = m + 1 by omega, ih, setsOf_new cs m hne, hl, prodP, Nat.mul_assoc]
theorem wraps_u16 (n : Int) (h0 : 0 ≤ n) (h1 : n < 2 ^ 16) : IntKind.u16.wrap n = n := by
  simp [IntKind.wrap, IntKind.bits, IntKind.signed]; omega
theorem and16 (x y : Nat) (hx : x < 65536) (hy : y < 65536) : Go.bits .and .u16 (x : Int) (y : Int) = ((x &&& y : Nat) : Int) := (bits_nat .u16 16 (by decide) wraps_u16 x y hx hy).1
/-! ### tables of bits -/
def bitsOf : Nat → (Nat → Bool) → Nat
  | 0, _ => 0
  | m + 1, f => bitsOf m f + (f m).toNat * 2 ^ m
theorem bitsOf_lt : ∀ (m : Nat) (f : Nat → Bool), bitsOf m f < 2 ^ m
  | 0, _ => by simp [bitsOf]
  | m + 1, f => by
    have := bitsOf_lt m f
    have h2 : (f m).toNat * 2 ^ m ≤ 2 ^ m := by cases f m <;> simp
    rw [bitsOf, Nat.pow_succ]; omega
theorem bitsOf_u16 (m : Nat) (hm : m ≤ 12) (f : Nat → Bool) : bitsOf m f < 65536 :=
  Nat.lt_of_lt_of_le (bitsOf_lt m f) (Nat.le_trans (Nat.pow_le_pow_right (by decide) hm) (by decide))
def tab (m : Nat) (r : Rel) : List Int := (List.range m).map fun a => ((bitsOf m (r a) : Nat) : Int)
theorem map_range_getD {α : Type} (m : Nat) (f : Nat → α) (d : α) (a : Nat) (h : a < m) : ((List.range m).map f).getD a d = f a := by simp [List.getD_eq_getElem?_getD, h]
theorem tab_at (m : Nat) (r : Rel) (a : Nat) (h : a < m) : rd (tab m r) (a : Int) = ((bitsOf m (r a) : Nat) : Int) := map_range_getD m _ _ a h
theorem tab_len (m : Nat) (r : Rel) : (tab m r).length = m := by simp [tab]
theorem testBit_bitsOf : ∀ (m : Nat) (f : Nat → Bool) (i : Nat), (bitsOf m f).testBit i = (decide (i < m) && f i)
  | 0, f, i => by simp [bitsOf]
  | m + 1, f, i => by
    have ih := testBit_bitsOf m f
    by_cases hi : i < m
    · have h1 : i < m + 1 := by omega
      cases hf : f m with
      | false => simp [bitsOf, hf, ih i, hi, h1]
      | true => rw [bitsOf, hf, Bool.toNat_true, Nat.one_mul, Nat.add_comm, Nat.testBit_two_pow_add_gt hi, ih i]; simp [hi, h1]
    · by_cases e : i = m
      · subst e
        cases hf : f i with
        | false => simp [bitsOf, hf, ih i]
        | true => rw [bitsOf, hf, Bool.toNat_true, Nat.one_mul, Nat.add_comm, Nat.testBit_two_pow_add_eq, ih i]; simp
      · have h1 : ¬ i < m + 1 := by omega
        rw [Nat.testBit_lt_two_pow (Nat.lt_of_lt_of_le (bitsOf_lt (m + 1) f) (Nat.pow_le_pow_right (by decide) (by omega)))]
        simp [h1]
theorem has_f (m : Nat) (hm : m ≤ 12) (r : Rel) (a b : Nat) (ha : a < m) (hb : b < m) : impl_table_has.f (tab m r) (a : Int) (b : Int) = some (r a b) := by
  unfold impl_table_has.f
  rw [if_pos (by omega), if_pos (by rw [tab_len]; omega), if_pos (by omega), tab_at m r a ha]
  have hX := bitsOf_u16 m hm (r a)
  have hs : shr .u16 ((bitsOf m (r a) : Nat) : Int) (b : Int) = ((bitsOf m (r a) / 2 ^ b : Nat) : Int) := by
    unfold shr
    rw [Int.toNat_natCast, Nat.min_eq_left (show b ≤ IntKind.u16.bits from by show b ≤ 16; omega)]
    simp
  have hd : bitsOf m (r a) / 2 ^ b < 65536 := Nat.lt_of_le_of_lt (Nat.div_le_self _ _) hX
  have ht := testBit_bitsOf m (r a) b
  rw [Nat.testBit_eq_decide_div_mod_eq] at ht
  have e1 : Go.bits .and .u16 ((bitsOf m (r a) / 2 ^ b : Nat) : Int) 1 = ((bitsOf m (r a) / 2 ^ b % 2 : Nat) : Int) := by
    have := and16 (bitsOf m (r a) / 2 ^ b) 1 hd (by decide)
    rw [Nat.and_one_is_mod] at this
    exact this
  rw [hs, e1]
  simp only [hb, decide_true, Bool.true_and] at ht
  rw [← ht]
  congr 1
  by_cases h : bitsOf m (r a) / 2 ^ b % 2 = 1
  · simp [h]
  · have h0 : bitsOf m (r a) / 2 ^ b % 2 = 0 := by omega
    simp [h0]
theorem waysP_le (r : Rel) (C : Nat) (hC : C ≤ 12) : ∀ (d : Nat) (S : List (List Nat)) (a : Nat), S.length + d ≤ 8 → waysP r C d S a ≤ 12 ^ d
  | 0, S, a, h => Nat.le_refl _
  | d + 1, S, a, h => by
    have h1 : ((List.range S.length).map fun k => if apartB r a (S.getD k []) then waysP r C d (S.set k (S.getD k [] ++ [a])) (a + 1) else 0).sum ≤ S.length * 12 ^ d := by
      have : ∀ (l : List Nat) (f : Nat → Nat), (∀ k, f k ≤ 12 ^ d) → (l.map f).sum ≤ l.length * 12 ^ d := by
        intro l f hf
        induction l with
        | nil => simp
        | cons x l ih => rw [List.map_cons, List.sum_cons, List.length_cons, Nat.add_mul]; have := hf x; omega
      have := this (List.range S.length) (fun k => if apartB r a (S.getD k []) then waysP r C d (S.set k (S.getD k [] ++ [a])) (a + 1) else 0) (fun k => by
        split
        · exact waysP_le r C hC d _ _ (by rw [List.length_set]; omega)
        · exact Nat.zero_le _)
      rw [List.length_range] at this
      exact this
    have h2 := waysP_le r C hC d (S ++ [[a]]) (a + 1) (by simp; omega)
    have h3 : (C - S.length) * waysP r C d (S ++ [[a]]) (a + 1) ≤ (C - S.length) * 12 ^ d := Nat.mul_le_mul_left _ h2
    rw [waysP, Nat.pow_succ]
    have h4 : S.length * 12 ^ d + (C - S.length) * 12 ^ d ≤ 12 ^ d * 12 := by
      rw [← Nat.add_mul, Nat.mul_comm]
      exact Nat.mul_le_mul_left _ (by omega)
    omega

theorem cc_count (m : Nat) (hm : m ≤ 8) (r : Rel) (C : Nat) (hC : C ≤ 12) : (cols (hasB (tab m r)) (tab m r).length [] 0).foldl (fun s p => ccStep (C : Int) s p.1 p.2) 0 = ((waysP r C m [] 0 : Nat) : Int) := by
  have h1 := cols_ways r C m [] 0 (fun b hb => by simp at hb)
  have h2 := waysP_le r C hC m [] 0 (by simp; omega)
  have h12 : 12 ^ m ≤ 12 ^ 8 := Nat.pow_le_pow_right (by decide) hm
  have h12' : (12 : Nat) ^ 8 = 429981696 := rfl
  rw [show prodP C 0 = 1 from rfl, Nat.one_mul] at h1
  rw [tab_len, cols_congr (hasB (tab m r)) r m (fun a b ha hb => by
    have h1 := has_f m (by omega) r a b ha hb
    rw [hasB_f _ _ _ (by rw [tab_len]; exact ha)] at h1
    injection h1) m [] 0 (by simp)]
  have h3 := cc_fold C hC (cols r m [] 0) 0 (fun p hp => by have := (cols_le r m [] 0 p hp).1; omega) (by rw [h1, show setsOf [] 0 = [] from rfl]; simp only [List.length_nil]; omega)
  rw [h1, Nat.zero_add] at h3
  exact h3
def crowd (n : Int) : Bool := decide (0 ≤ n ∧ n ≤ 12)
def lt2 (p q : S79) : Bool := decide (p.f0 < q.f0) || (decide (p.f0 = q.f0) && decide (p.f1 < q.f1))
def okPrev : Option S79 → S79 → Bool
  | none, _ => true
  | some p, x => lt2 p x
def okFrom (n : Int) : Option S79 → List S79 → Bool
  | _, [] => true
  | prev, x :: xs => (decide (0 ≤ x.f0) && (decide (x.f0 < x.f1) && (decide (x.f1 < n) && okPrev prev x))) && okFrom n (some x) xs
def good (n : Int) (l : List S79) : Bool := crowd n && okFrom n none l
def fewOf (n : Int) (l : List S79) : Bool := good n l && decide (n ≤ 8)
def natPairs (m : Nat) (l : List S79) : Prop := ∀ x ∈ l, ∃ a b : Nat, x = ⟨(a : Int), (b : Int)⟩ ∧ a < b ∧ b < m
theorem okFrom_nat (m : Nat) : ∀ (l : List S79) (p : Option S79), okFrom (m : Int) p l = true → natPairs m l
  | [], _, _ => fun x hx => by simp at hx
  | x :: xs, p, h => by
    simp only [okFrom, Bool.and_eq_true, decide_eq_true_eq] at h
    obtain ⟨⟨h0, h1, h2, _⟩, h3⟩ := h
    intro y hy
    rcases List.mem_cons.1 hy with rfl | hy
    · refine ⟨y.f0.toNat, y.f1.toNat, ?_, by omega, by omega⟩
      rw [Int.toNat_of_nonneg h0, Int.toNat_of_nonneg (by omega)]
    · exact okFrom_nat m xs _ h3 y hy
theorem good_nat {n : Int} {l : List S79} (h : good n l = true) : ∃ m : Nat, n = (m : Int) ∧ m ≤ 12 ∧ natPairs m l ∧ okFrom (m : Int) none l = true := by
  unfold good crowd at h
  simp only [Bool.and_eq_true, decide_eq_true_eq] at h
  obtain ⟨⟨h0, h1⟩, h2⟩ := h
  obtain ⟨m, rfl⟩ := Int.eq_ofNat_of_zero_le h0
  exact ⟨m, rfl, by omega, okFrom_nat m l none h2, h2⟩
/-! the number of pairs -/
def below (m : Nat) : Nat → Nat
  | 0 => 0
  | a + 1 => below m a + (m - 1 - a)
theorem below_all (m : Nat) (h : m ≤ 12) : Int.tdiv ((m : Int) * ((m : Int) - 1)) 2 = (below m m : Int) := by
  have : m = 0 ∨ m = 1 ∨ m = 2 ∨ m = 3 ∨ m = 4 ∨ m = 5 ∨ m = 6 ∨ m = 7 ∨ m = 8 ∨ m = 9 ∨ m = 10 ∨ m = 11 ∨ m = 12 := by omega
  rcases this with rfl | rfl | rfl | rfl | rfl | rfl | rfl | rfl | rfl | rfl | rfl | rfl | rfl <;> rfl
/-- where a pair stands among all pairs of m people -/
def rank (m : Nat) (x : S79) : Nat := below m x.f0.toNat + (x.f1.toNat - x.f0.toNat - 1)
theorem below_mono (m a : Nat) : ∀ d, below m a ≤ below m (a + d)
  | 0 => Nat.le_refl _
  | d + 1 => Nat.le_trans (below_mono m a d) (by show below m (a + d) ≤ below m (a + d) + _; omega)
theorem rank_lt (m : Nat) (p x : S79) (h : lt2 p x = true) (p0 : 0 ≤ p.f0) (p1 : p.f0 < p.f1) (p2 : p.f1 < m) (x0 : 0 ≤ x.f0) (x1 : x.f0 < x.f1) : rank m p < rank m x := by
  unfold lt2 at h
  unfold rank
  simp at h
  rcases h with h | ⟨h, h2⟩
  · have h1 := below_mono m (p.f0.toNat + 1) (x.f0.toNat - (p.f0.toNat + 1))
    rw [show p.f0.toNat + 1 + (x.f0.toNat - (p.f0.toNat + 1)) = x.f0.toNat by omega] at h1
    have h3 : below m (p.f0.toNat + 1) = below m p.f0.toNat + (m - 1 - p.f0.toNat) := rfl
    omega
  · rw [h]; omega
theorem rank_top (m : Nat) (x : S79) (x0 : 0 ≤ x.f0) (x1 : x.f0 < x.f1) (x2 : x.f1 < m) : rank m x < below m m := by
  unfold rank
  have h1 := below_mono m (x.f0.toNat + 1) (m - (x.f0.toNat + 1))
  rw [show x.f0.toNat + 1 + (m - (x.f0.toNat + 1)) = m by omega] at h1
  have h3 : below m (x.f0.toNat + 1) = below m x.f0.toNat + (m - 1 - x.f0.toNat) := rfl
  omega
theorem okFrom_len (m : Nat) : ∀ (l : List S79) (p : S79), 0 ≤ p.f0 → p.f0 < p.f1 → p.f1 < m → okFrom m (some p) l = true → rank m p + l.length < below m m
  | [], p, p0, p1, p2, _ => rank_top m p p0 p1 p2
  | x :: xs, p, p0, p1, p2, h => by
    simp [okFrom, okPrev] at h
    obtain ⟨⟨x0, x1, x2, hlt⟩, h⟩ := h
    have ih := okFrom_len m xs x x0 x1 x2 h
    have := rank_lt m p x hlt p0 p1 p2 x0 x1
    simp only [List.length_cons]
    omega
theorem good_len (m : Nat) (l : List S79) (h : okFrom m none l = true) : l.length ≤ below m m := by
  cases l with
  | nil => simp
  | cons x xs =>
    simp [okFrom, okPrev] at h
    obtain ⟨⟨x0, x1, x2⟩, h⟩ := h
    have := okFrom_len m xs x x0 x1 x2 h
    simp only [List.length_cons]
    omega
theorem Ev.cast {α : Type} {g : Nat → Option α} {a b : α} (h : Ev g a) (e : a = b) : Ev g b := e ▸ h
theorem l1In_f (a lo hi : Int) : spec_l1In.f a lo hi = some (decide (lo ≤ a) && decide (a ≤ hi)) := by
  unfold spec_l1In.f
  by_cases h : lo ≤ a
  · rw [if_pos h]; simp [h]
  · rw [if_neg h]; simp [h]
theorem paLess_f (p x : S79) : spec_paLess.f p.f0 p.f1 x.f0 x.f1 = some (lt2 p x) := by
  unfold spec_paLess.f lt2
  by_cases h : p.f0 < x.f0
  · simp [h]
  · by_cases h2 : p.f0 = x.f0
    · simp [h2]
    · simp [h, h2]
theorem rdT_mid (pre rest : List S79) (x : S79) : rd_T79 (pre ++ x :: rest) (pre.length : Int) = x := by
  unfold rd_T79
  simp [List.getD_eq_getElem?_getD]
theorem w1 {n : Nat} (h : n < 4611686018427387904) : wrap64 ((n : Int) + 1) = ((n + 1 : Nat) : Int) := by unfold wrap64; omega
theorem paGood_l0 (m : Nat) (hm : m ≤ 12) (l : List S79) (hl : l.length < 4611686018427387904) : ∀ (rest pre : List S79), l = pre ++ rest → Ev (fun k => spec_paGood.l0 k l (l.length : Int) (pre.length : Int) (m : Int) l) (okFrom m pre.getLast? rest)
  | [], pre, h => by
    refine Ev.one (fun k => ?_)
    have e : l.length = pre.length := by rw [h]; simp
    rw [spec_paGood.l0, if_neg (by omega)]
    simp [okFrom]
  | x :: rest, pre, h => by
    have hlen : pre.length < l.length := by rw [h]; simp
    have hx : rd_T79 l (pre.length : Int) = x := by rw [h]; exact rdT_mid pre rest x
    have ih := paGood_l0 m hm l hl rest (pre ++ [x]) (by rw [h]; simp)
    rw [List.getLast?_concat, List.length_append, List.length_singleton] at ih
    have em : wrap64 ((m : Int) - 1) = (m : Int) - 1 := w64 (by omega) (by omega)
    by_cases c1 : 0 ≤ x.f0 ∧ x.f0 ≤ (m : Int) - 1
    · have e1 : wrap64 (x.f0 + 1) = x.f0 + 1 := w64 (by omega) (by omega)
      have b1 : (decide (0 ≤ x.f0) && decide (x.f0 ≤ (m : Int) - 1)) = true := by simp; exact c1
      by_cases c2 : x.f0 + 1 ≤ x.f1 ∧ x.f1 ≤ (m : Int) - 1
      · have b2 : (decide (x.f0 + 1 ≤ x.f1) && decide (x.f1 ≤ (m : Int) - 1)) = true := by simp; exact c2
        have d1 : decide (0 ≤ x.f0) = true := by simp; omega
        have d2 : decide (x.f0 < x.f1) = true := by simp; omega
        have d3 : decide (x.f1 < (m : Int)) = true := by simp; omega
        rcases List.eq_nil_or_concat pre with rfl | ⟨q, p, rfl⟩
        · refine Ev.cast (Ev.step (fun k => ?_) ih) ?_
          · rw [spec_paGood.l0, if_pos (by omega), if_pos (by omega), if_pos (by omega), hx, em, e1, l1In_f, l1In_f, b1, b2]
            simp only [Option.bind_some, if_true]
            rw [if_neg (by simp), w1 (by simp)]
          · simp [okFrom, d1, d2, d3, okPrev]
        · rw [List.concat_eq_append] at hlen hx ih h ⊢
          have hp : rd_T79 l (q.length : Int) = p := by rw [h, List.append_assoc]; exact rdT_mid q (x :: rest) p
          have hq : (q ++ [p]).length = q.length + 1 := by simp
          rw [hq] at hlen hx ih ⊢
          rw [List.getLast?_concat]
          cases hlt : lt2 p x with
          | true =>
            refine Ev.cast (Ev.step (fun k => ?_) ih) ?_
            · rw [spec_paGood.l0, if_pos (by omega), if_pos (by omega), if_pos (by omega), hx, em, e1, l1In_f, l1In_f, b1, b2]
              simp only [Option.bind_some, if_true]
              rw [if_pos (by omega), w64 (i := ((q.length + 1 : Nat) : Int) - 1) (by omega) (by omega), show ((q.length + 1 : Nat) : Int) - 1 = (q.length : Int) by omega, if_pos (by omega), if_pos (by omega), hp, paLess_f, hlt, w1 (by omega)]
              rfl
            · simp [okFrom, d1, d2, d3, okPrev, hlt]
          | false =>
            refine Ev.one (fun k => ?_)
            rw [spec_paGood.l0, if_pos (by omega), if_pos (by omega), if_pos (by omega), hx, em, e1, l1In_f, l1In_f, b1, b2]
            simp only [Option.bind_some, if_true]
            rw [if_pos (by omega), w64 (i := ((q.length + 1 : Nat) : Int) - 1) (by omega) (by omega), show ((q.length + 1 : Nat) : Int) - 1 = (q.length : Int) by omega, if_pos (by omega), if_pos (by omega), hp, paLess_f, hlt]
            simp [okFrom, okPrev, hlt]
      · refine Ev.one (fun k => ?_)
        have b2 : (decide (x.f0 + 1 ≤ x.f1) && decide (x.f1 ≤ (m : Int) - 1)) = false := by simp; omega
        rw [spec_paGood.l0, if_pos (by omega), if_pos (by omega), if_pos (by omega), hx, em, e1, l1In_f, l1In_f, b1, b2]
        have : (decide (x.f0 < x.f1) && decide (x.f1 < (m : Int))) = false := by simp; omega
        simp only [okFrom, ← Bool.and_assoc (decide (x.f0 < x.f1)), this]
        simp
    · refine Ev.one (fun k => ?_)
      have b1 : (decide (0 ≤ x.f0) && decide (x.f0 ≤ (m : Int) - 1)) = false := by simp; omega
      rw [spec_paGood.l0, if_pos (by omega), if_pos (by omega), if_pos (by omega), hx, em, l1In_f, b1]
      have : (decide (0 ≤ x.f0) && (decide (x.f0 < x.f1) && (decide (x.f1 < (m : Int)) && okPrev pre.getLast? x))) = false := by
        by_cases z0 : 0 ≤ x.f0
        · by_cases z1 : x.f0 < x.f1
          · have : ¬ x.f1 < (m : Int) := by omega
            simp [this]
          · simp [z1]
        · simp [z0]
      simp [okFrom, this]
theorem paPeople_f (a : Int) : spec_paPeople.f a = some (decide (0 ≤ a ∧ a ≤ 12)) := by
  unfold spec_paPeople.f
  rw [l1In_f]; simp [Bool.decide_and]
theorem paGood_ev (n : Int) (l : List S79) (hl : l.length < 4611686018427387904) : Ev (fun k => spec_paGood.f k n l) (good n l) := by
  unfold spec_paGood.f
  rw [paPeople_f]
  by_cases h : 0 ≤ n ∧ n ≤ 12
  · obtain ⟨m, rfl⟩ := Int.eq_ofNat_of_zero_le h.1
    have hm : m ≤ 12 := by omega
    have hc : crowd (m : Int) = true := by unfold crowd; simp; omega
    have hmul : (m : Int) * ((m : Int) - 1) ≤ 144 := by
      have : m = 0 ∨ m = 1 ∨ m = 2 ∨ m = 3 ∨ m = 4 ∨ m = 5 ∨ m = 6 ∨ m = 7 ∨ m = 8 ∨ m = 9 ∨ m = 10 ∨ m = 11 ∨ m = 12 := by omega
      rcases this with rfl | rfl | rfl | rfl | rfl | rfl | rfl | rfl | rfl | rfl | rfl | rfl | rfl <;> decide
    have hmul0 : 0 ≤ (m : Int) * ((m : Int) - 1) := by
      have : m = 0 ∨ m = 1 ∨ m = 2 ∨ m = 3 ∨ m = 4 ∨ m = 5 ∨ m = 6 ∨ m = 7 ∨ m = 8 ∨ m = 9 ∨ m = 10 ∨ m = 11 ∨ m = 12 := by omega
      rcases this with rfl | rfl | rfl | rfl | rfl | rfl | rfl | rfl | rfl | rfl | rfl | rfl | rfl <;> decide
    have hb : (below m m : Int) ≤ 144 := by
      have : m = 0 ∨ m = 1 ∨ m = 2 ∨ m = 3 ∨ m = 4 ∨ m = 5 ∨ m = 6 ∨ m = 7 ∨ m = 8 ∨ m = 9 ∨ m = 10 ∨ m = 11 ∨ m = 12 := by omega
      rcases this with rfl | rfl | rfl | rfl | rfl | rfl | rfl | rfl | rfl | rfl | rfl | rfl | rfl <;> decide
    have e : wrap64 (Int.tdiv (wrap64 ((m : Int) * (wrap64 ((m : Int) - 1)))) 2) = (below m m : Int) := by
      rw [w64 (i := (m : Int) - 1) (by omega) (by omega), w64 (i := (m : Int) * ((m : Int) - 1)) (by omega) (by omega), below_all m hm, w64 (by omega) (by omega)]
    simp only [h, decide_true, Option.bind_some, if_true, e, and_self]
    unfold good
    rw [hc, Bool.true_and]
    by_cases hlen : l.length ≤ below m m
    · refine Ev.step (fun k => ?_) (paGood_l0 m hm l hl l [] rfl)
      have : decide ((l.length : Int) > (below m m : Int)) = false := by simp; omega
      rw [this, spec_paGood.j0, if_neg (by decide)]
      rfl
    · refine Ev.one (fun k => ?_)
      have : decide ((l.length : Int) > (below m m : Int)) = true := by simp; omega
      rw [this, spec_paGood.j0, if_pos rfl]
      have hn : okFrom (m : Int) none l = false := by
        cases hok : okFrom (m : Int) none l with
        | false => rfl
        | true => exact absurd (good_len m l hok) hlen
      rw [hn]
  · have hc : crowd n = false := by unfold crowd; simp; omega
    simp only [h, decide_false, Option.bind_some]
    unfold good
    rw [hc]
    refine Ev.one (fun k => ?_)
    rw [if_neg (by decide), spec_paGood.j0]; simp

theorem grFew_ev (n : Int) (l : List S79) (hl : l.length ≤ 1048576) : Ev (fun k => spec_grFew.f k n l) (fewOf n l) := by
  unfold spec_grFew.f fewOf
  refine Ev.bind (paGood_ev n l (by omega)) ?_
  cases good n l with
  | true => simp only [if_true, Bool.true_and]; exact Ev.now _
  | false => simp only [Bool.false_eq_true, if_false, Bool.false_and]; exact Ev.now _
/-! ### matrices -/
def mat (m : Nat) (r : Rel) : List (List Bool) := (List.range m).map fun a => (List.range m).map fun b => r a b
theorem mat_len (m : Nat) (r : Rel) : (mat m r).length = m := by simp [mat]
def ints (l : List Nat) : List Int := l.map Int.ofNat
theorem mat_row (m : Nat) (r : Rel) (a : Nat) (h : a < m) : rd_L4 (mat m r) (a : Int) = (List.range m).map fun b => r a b := map_range_getD m _ _ a h
theorem mat_at (m : Nat) (r : Rel) (a b : Nat) (h : a < m) (h2 : b < m) : rdOf false (rd_L4 (mat m r) (a : Int)) (b : Int) = r a b := by
  rw [mat_row m r a h]; exact map_range_getD m _ _ b h2
theorem apW_mat (m : Nat) (r : Rel) (a : Nat) (ha : a < m) (p : List Nat) (hp : ∀ b ∈ p, b < m) : apW (mat m r) a (ints p) = apartB r a p := by
  unfold apW apartB ints
  rw [List.all_map]
  induction p with
  | nil => rfl
  | cons b p ih =>
    rw [List.all_cons, List.all_cons, ih (fun x hx => hp x (List.mem_cons_of_mem _ hx))]
    congr 1
    simp only [Function.comp]
    rw [show (Int.ofNat b) = (b : Int) from rfl, mat_at m r a b ha (hp b List.mem_cons_self)]
theorem fold_ways (p : Nat → Bool) (f : Nat → Nat) (g : Nat → Int) (B : Nat) (hB : B ≤ 9223372036854775807) : ∀ (l : List Nat) (acc : Nat), (∀ k ∈ l, p k = true → g k = (f k : Int)) → acc + (l.map fun k => if p k = true then f k else 0).sum ≤ B →
    l.foldl (fun s k => if p k = true then wrap64 (s + g k) else s) (acc : Int) = ((acc + (l.map fun k => if p k = true then f k else 0).sum : Nat) : Int)
  | [], acc, _, _ => by simp
  | x :: l, acc, h, hb => by
    rw [List.map_cons, List.sum_cons] at hb
    rw [List.foldl_cons, List.map_cons, List.sum_cons]
    cases hp : p x with
    | true =>
      rw [hp] at hb
      simp only [if_true] at hb ⊢
      rw [h x List.mem_cons_self hp, w64 (by omega) (by omega), show ((acc : Int) + (f x : Int)) = ((acc + f x : Nat) : Int) by omega, fold_ways p f g B hB l (acc + f x) (fun k hk => h k (List.mem_cons_of_mem _ hk)) (by omega), Nat.add_assoc]
    | false =>
      rw [hp] at hb
      simp only [Bool.false_eq_true, if_false, Nat.zero_add] at hb ⊢
      rw [fold_ways p f g B hB l acc (fun k hk => h k (List.mem_cons_of_mem _ hk)) (by omega)]
theorem getD_ints (S : List (List Nat)) (k : Nat) : (S.map ints).getD k [] = ints (S.getD k []) := by
  rw [List.getD_eq_getElem?_getD, List.getD_eq_getElem?_getD, List.getElem?_map]
  cases S[k]? <;> rfl
theorem ints_snoc (p : List Nat) (a : Nat) : ints p ++ [(a : Int)] = ints (p ++ [a]) := by simp [ints]
theorem wys_ways (m : Nat) (hm : m ≤ 8) (r : Rel) (C : Nat) (hC : C ≤ 12) : ∀ (d : Nat) (S : List (List Nat)) (a : Nat), a + d = m → S.length ≤ a → (∀ p ∈ S, ∀ b ∈ p, b < a) → wys (mat m r) (C : Int) d (S.map ints) a = ((waysP r C d S a : Nat) : Int)
  | 0, S, a, _, _, _ => rfl
  | d + 1, S, a, had, hl, hS => by
    have hbig := waysP_le r C hC (d + 1) S a (by omega)
    have h12 : 12 ^ (d + 1) ≤ 12 ^ 8 := Nat.pow_le_pow_right (by decide) (by omega)
    have h12' : (12 : Nat) ^ 8 = 429981696 := rfl
    have hrec : ∀ k, k < S.length → wys (mat m r) (C : Int) d ((S.map ints).set k (ints (S.getD k []) ++ [(a : Int)])) (a + 1) = ((waysP r C d (S.set k (S.getD k [] ++ [a])) (a + 1) : Nat) : Int) := fun k hk => by
      rw [ints_snoc, ← List.map_set]
      refine wys_ways m hm r C hC d _ (a + 1) (by omega) (by rw [List.length_set]; omega) fun p hp b hb => ?_
      rcases List.mem_or_eq_of_mem_set hp with h | h
      · have := hS p h b hb; omega
      · subst h
        rw [List.mem_append, List.mem_singleton] at hb
        rcases hb with hb | hb
        · have hgm : S.getD k [] ∈ S := by rw [List.getD_eq_getElem?_getD, List.getElem?_eq_getElem hk]; exact List.getElem_mem hk
          have := hS _ hgm b hb; omega
        · omega
    have hap : ∀ k, k < S.length → apW (mat m r) a (ints (S.getD k [])) = apartB r a (S.getD k []) := fun k hk => apW_mat m r a (by omega) _ fun b hb => by
      have hgm : S.getD k [] ∈ S := by rw [List.getD_eq_getElem?_getD, List.getElem?_eq_getElem hk]; exact List.getElem_mem hk
      have := hS _ hgm b hb; omega
    rw [waysP] at hbig
    replace hbig := Nat.le_trans hbig (Nat.le_trans h12 (Nat.le_of_eq h12'))
    clear h12 h12'
    have hfold : (List.range (S.map ints).length).foldl (fun s k => if apW (mat m r) a ((S.map ints).getD k []) = true then wrap64 (s + wys (mat m r) (C : Int) d ((S.map ints).set k ((S.map ints).getD k [] ++ [(a : Int)])) (a + 1)) else s) 0 = (((List.range S.length).map fun k => if apartB r a (S.getD k []) = true then waysP r C d (S.set k (S.getD k [] ++ [a])) (a + 1) else 0).sum : Int) := by
      rw [List.length_map]
      have hcong : ∀ (l : List Nat) (acc : Int), (∀ k ∈ l, k < S.length) → l.foldl (fun s k => if apW (mat m r) a ((S.map ints).getD k []) = true then wrap64 (s + wys (mat m r) (C : Int) d ((S.map ints).set k ((S.map ints).getD k [] ++ [(a : Int)])) (a + 1)) else s) acc = l.foldl (fun s k => if apartB r a (S.getD k []) = true then wrap64 (s + ((waysP r C d (S.set k (S.getD k [] ++ [a])) (a + 1) : Nat) : Int)) else s) acc := by
        intro l
        induction l with
        | nil => intro acc _; rfl
        | cons k l ih =>
          intro acc h
          have hk := h k List.mem_cons_self
          rw [List.foldl_cons, List.foldl_cons, getD_ints, hap k hk, hrec k hk, ih _ fun x hx => h x (List.mem_cons_of_mem _ hx)]
      rw [hcong _ 0 fun k hk => List.mem_range.1 hk]
      have := fold_ways (fun k => apartB r a (S.getD k [])) (fun k => waysP r C d (S.set k (S.getD k [] ++ [a])) (a + 1)) (fun k => ((waysP r C d (S.set k (S.getD k [] ++ [a])) (a + 1) : Nat) : Int)) 429981696 (by decide) (List.range S.length) 0 (fun _ _ _ => rfl) (by omega)
      rw [Nat.zero_add] at this
      exact this
    rw [wys]
    rw [hfold, List.length_map, waysP]
    have hlast : wys (mat m r) (C : Int) d (S.map ints ++ [[(a : Int)]]) (a + 1) = ((waysP r C d (S ++ [[a]]) (a + 1) : Nat) : Int) := by
      have := wys_ways m hm r C hC d (S ++ [[a]]) (a + 1) (by omega) (by simp; omega) fun p hp b hb => by
        rw [List.mem_append, List.mem_singleton] at hp
        rcases hp with h | h
        · have := hS p h b hb; omega
        · subst h; rw [List.mem_singleton] at hb; omega
      rw [List.map_append] at this
      exact this
    rw [hlast]
    clear hfold hlast hrec hap
    generalize ((List.range S.length).map fun k => if apartB r a (S.getD k []) = true then waysP r C d (S.set k (S.getD k [] ++ [a])) (a + 1) else 0).sum = Z at hbig ⊢
    generalize waysP r C d (S ++ [[a]]) (a + 1) = Y at hbig ⊢
    by_cases hc : (S.length : Int) < (C : Int)
    · rw [if_pos hc]
      have e1 : ((C : Int) - (S.length : Int)) = ((C - S.length : Nat) : Int) := by omega
      have e2 : ((C - S.length : Nat) : Int) * (Y : Int) = (((C - S.length) * Y : Nat) : Int) := (Int.natCast_mul _ _).symm
      rw [e1, e2]
      generalize (C - S.length) * Y = Q at hbig ⊢
      have e3 : wrap64 (Q : Int) = (Q : Int) := w64 (by omega) (by omega)
      rw [e3, w64 (by omega) (by omega)]
      omega
    · rw [if_neg hc, show C - S.length = 0 by omega, Nat.zero_mul, Nat.add_zero]
theorem grWays_ev (m : Nat) (hm : m ≤ 8) (r : Rel) (C : Nat) (hC : C ≤ 12) : spec_grWays.f (mat m r) [] 0 (C : Int) = some ((waysP r C m [] 0 : Nat) : Int) := by
  unfold spec_grWays.f
  rw [if_pos]
  · rw [mat_len]
    have := wys_ways m hm r C hC m [] 0 (by omega) (Nat.le_refl _) (fun p hp => by cases hp)
    rw [List.map_nil] at this
    rw [this]
  · refine ⟨rfl, rfl, by rw [mat_len]; exact hm, ?_, by omega, by omega⟩
    rw [mat_len, List.all_eq_true]
    intro x hx
    unfold mat at hx
    obtain ⟨a, _, rfl⟩ := List.mem_map.1 hx
    simp
def hasP (l : List S79) : Rel := fun a b => l.any fun x => (x.f0 == (a : Int) && x.f1 == (b : Int)) || (x.f0 == (b : Int) && x.f1 == (a : Int))
theorem within_f (a lo hi : Int) : impl_within.f a lo hi = some (decide (lo ≤ a) && decide (a ≤ hi)) := by
  unfold impl_within.f
  by_cases h : lo ≤ a
  · rw [if_pos h]; simp [h]
  · rw [if_neg h]; simp [h]
theorem areCrowd_f (a : Int) : impl_areCrowd.f a = some (decide (0 ≤ a ∧ a ≤ 12)) := by
  unfold impl_areCrowd.f
  rw [within_f]; simp [Bool.decide_and]
def cmp3 (a b : Int) : Int := if a < b then -1 else if a > b then 1 else 0
def cmpP (p q : S79) : Int := if cmp3 p.f0 q.f0 = 0 then cmp3 p.f1 q.f1 else cmp3 p.f0 q.f0
theorem cmpP_neg (p q : S79) : decide (cmpP p q ≥ 0) = !lt2 p q := by
  unfold cmpP cmp3 lt2
  by_cases h1 : p.f0 < q.f0
  · simp [h1]
  · by_cases h2 : p.f0 > q.f0
    · have h3 : ¬ p.f0 = q.f0 := by omega
      simp [h1, h2, h3]
    · have h3 : p.f0 = q.f0 := by omega
      by_cases h4 : p.f1 < q.f1
      · simp [h3, h4]
      · by_cases h5 : p.f1 > q.f1
        · simp [h3, h4, h5]
        · simp [h3, h4, h5]
theorem cmpOr_ev (a b : Int) : Ev (fun k => cmp_Or_int.f k [a, b]) (if a = 0 then b else a) := by
  refine ⟨3, fun k hk => ?_⟩
  obtain ⟨k, rfl⟩ : ∃ m, k = m + 3 := ⟨k - 3, by omega⟩
  have e1 : wrap64 (0 + 1) = 1 := by unfold wrap64; omega
  have e2 : wrap64 (1 + 1) = 2 := by unfold wrap64; omega
  have r0 : rd [a, b] 0 = a := rfl
  have r1 : rd [a, b] 1 = b := rfl
  simp only [cmp_Or_int.f, cmp_Or_int.l0, List.length_cons, List.length_nil, r0, r1, e1, e2]
  by_cases h : a = 0
  · by_cases h2 : b = 0
    · simp [h, h2]
    · simp [h, h2]
  · simp [h]
theorem compare_f (a b : Int) : cmp_Compare_int.f a b = some (cmp3 a b) := by
  unfold cmp_Compare_int.f cmp_isNaN_int.f cmp3
  simp
  by_cases h : a < b
  · simp [h]
  · by_cases h2 : a > b
    · simp [h, h2]
    · simp [h, h2]
theorem comparePairs_ev (p q : S79) : Ev (fun k => impl_comparePairs.f k p.f0 p.f1 q.f0 q.f1) (cmpP p q) := by
  unfold impl_comparePairs.f
  simp only [compare_f, Option.bind_some]
  exact Ev.bind (cmpOr_ev _ _) (Ev.now _)
theorem implIsParty_l0 (n : Int) (l : List S79) (hl : l.length < 4611686018427387904) : ∀ (rest pre : List S79), l = pre ++ rest → Ev (fun k => impl_IsParty.l0 k l (l.length : Int) (pre.length : Int) n l) (okFrom n pre.getLast? rest && crowd n)
  | [], pre, h => by
    refine Ev.one (fun k => ?_)
    have e : l.length = pre.length := by rw [h]; simp
    rw [impl_IsParty.l0, if_neg (by omega), areCrowd_f]
    simp [okFrom, crowd]
  | x :: rest, pre, h => by
    have hlen : pre.length < l.length := by rw [h]; simp
    have hx : rd_T79 l (pre.length : Int) = x := by rw [h]; exact rdT_mid pre rest x
    have ih := implIsParty_l0 n l hl rest (pre ++ [x]) (by rw [h]; simp)
    rw [List.getLast?_concat, List.length_append, List.length_singleton] at ih
    by_cases c1 : x.f0 < 0
    · refine Ev.one (fun k => ?_)
      rw [impl_IsParty.l0, if_pos (by omega), if_pos (by omega), if_pos (by omega), hx, if_pos c1]
      have : decide (0 ≤ x.f0) = false := by simp; omega
      simp [okFrom, this]
    by_cases c2 : x.f0 ≥ x.f1
    · refine Ev.one (fun k => ?_)
      rw [impl_IsParty.l0, if_pos (by omega), if_pos (by omega), if_pos (by omega), hx, if_neg c1, if_pos c2]
      have : decide (x.f0 < x.f1) = false := by simp; omega
      simp [okFrom, this]
    by_cases c3 : x.f1 ≥ n
    · refine Ev.one (fun k => ?_)
      rw [impl_IsParty.l0, if_pos (by omega), if_pos (by omega), if_pos (by omega), hx, if_neg c1, if_neg c2, if_pos c3]
      have : decide (x.f1 < n) = false := by simp; omega
      simp [okFrom, this]
    have d1 : decide (0 ≤ x.f0) = true := by simp; omega
    have d2 : decide (x.f0 < x.f1) = true := by simp; omega
    have d3 : decide (x.f1 < n) = true := by simp; omega
    rcases List.eq_nil_or_concat pre with rfl | ⟨q, p, rfl⟩
    · refine Ev.cast (Ev.step (fun k => ?_) ih) ?_
      · rw [impl_IsParty.l0, if_pos (by omega), if_pos (by omega), if_pos (by omega), hx, if_neg c1, if_neg c2, if_neg c3, if_neg (by simp), w1 (by simp)]
      · simp [okFrom, d1, d2, d3, okPrev]
    · rw [List.concat_eq_append] at hlen hx ih h ⊢
      have hp : rd_T79 l (q.length : Int) = p := by rw [h, List.append_assoc]; exact rdT_mid q (x :: rest) p
      have hq : (q ++ [p]).length = q.length + 1 := by simp
      rw [hq] at hlen hx ih ⊢
      refine Ev.step (f := fun k => (impl_comparePairs.f k p.f0 p.f1 x.f0 x.f1).bind fun t => if t ≥ 0 then some false else impl_IsParty.l0 k l (l.length : Int) ((q.length + 1 + 1 : Nat) : Int) n l) (fun k => ?_) (Ev.bind (comparePairs_ev p x) ?_)
      · rw [impl_IsParty.l0, if_pos (by omega), if_pos (by omega), if_pos (by omega), hx, if_neg c1, if_neg c2, if_neg c3, if_pos (by omega), w64 (i := ((q.length + 1 : Nat) : Int) - 1) (by omega) (by omega), show ((q.length + 1 : Nat) : Int) - 1 = (q.length : Int) by omega, if_pos (by omega), if_pos (by omega), hp, w1 (by omega)]
      · have hc := cmpP_neg p x
        rw [List.getLast?_concat]
        by_cases hlt : lt2 p x = true
        · have c4 : ¬ cmpP p x ≥ 0 := by rw [hlt] at hc; simpa using hc
          simp only [if_neg c4]
          refine Ev.cast ih ?_
          simp [okFrom, d1, d2, d3, okPrev, hlt]
        · have hlt' : lt2 p x = false := by simpa using hlt
          have c4 : cmpP p x ≥ 0 := by rw [hlt'] at hc; simpa using hc
          simp only [if_pos c4]
          refine Ev.cast (Ev.now _) ?_
          simp [okFrom, okPrev, hlt']
theorem implIsParty_ev (n : Int) (l : List S79) (hl : l.length < 4611686018427387904) : Ev (fun k => impl_IsParty.f k n l) (good n l) := by
  unfold impl_IsParty.f
  have := implIsParty_l0 n l hl l [] rfl
  rw [Bool.and_comm] at this
  exact this
theorem isFew_ev (n : Int) (l : List S79) (hl : l.length ≤ 1048576) : Ev (fun k => impl_isFewColoured.f k n l) (fewOf n l) := by
  unfold impl_isFewColoured.f fewOf
  refine Ev.bind (implIsParty_ev n l (by omega)) ?_
  cases good n l with
  | true => simp only [if_true, Bool.true_and]; exact Ev.now _
  | false => simp only [Bool.false_eq_true, if_false, Bool.false_and]; exact Ev.now _
theorem hasP_nil : hasP [] = fun _ _ => false := by funext x y; rfl
theorem map_range_const {α : Type} (c : α) : ∀ m : Nat, (List.range m).map (fun _ => c) = List.replicate m c
  | 0 => rfl
  | m + 1 => by rw [List.range_succ, List.map_append, map_range_const c m, List.replicate_succ']; rfl
theorem mat_false (m : Nat) : mat m (fun _ _ => false) = List.replicate m (List.replicate m false) := by
  unfold mat; rw [map_range_const, map_range_const]
theorem map_range_congr {α : Type} (m : Nat) (f g : Nat → α) (h : ∀ a, a < m → f a = g a) : (List.range m).map f = (List.range m).map g := List.map_congr_left fun a ha => h a (List.mem_range.1 ha)
theorem map_range_set {α : Type} (m : Nat) (f : Nat → α) (a : Nat) (v : α) : ((List.range m).map f).set a v = (List.range m).map fun i => if i = a then v else f i := by
  apply List.ext_getElem?
  intro j
  rw [List.getElem?_set]
  by_cases hj : j < m
  · by_cases e : a = j
    · subst e; simp [hj]
    · have e' : ¬ j = a := fun h => e h.symm
      simp [hj, e, e']
  · by_cases e : a = j
    · subst e; simp [hj]
    · simp [hj, e]
def upd (r : Rel) (a b : Nat) (v : Bool) : Rel := fun x y => if x = a ∧ y = b then v else r x y
theorem mat_set (m : Nat) (r : Rel) (a b : Nat) (v : Bool) (ha : a < m) : (mat m r).set a ((rd_L4 (mat m r) (a : Int)).set b v) = mat m (upd r a b v) := by
  rw [mat_row m r a ha, map_range_set]
  show ((List.range m).map fun a => (List.range m).map fun b => r a b).set a _ = _
  rw [map_range_set]
  refine map_range_congr m _ _ fun i hi => ?_
  by_cases e : i = a
  · subst e
    rw [if_pos rfl]
    refine map_range_congr m _ _ fun j hj => ?_
    simp [upd]
  · rw [if_neg e]
    refine map_range_congr m _ _ fun j hj => ?_
    simp [upd, e]
theorem hasP_snoc (pre : List S79) (a b x y : Nat) : hasP (pre ++ [⟨(a : Int), (b : Int)⟩]) x y = (hasP pre x y || ((decide (a = x) && decide (b = y)) || (decide (a = y) && decide (b = x)))) := by
  unfold hasP
  rw [List.any_append]
  congr 1
  simp only [List.any_cons, List.any_nil, Bool.or_false]
  have e : ∀ u v : Nat, ((u : Int) == (v : Int)) = decide (u = v) := fun u v => by
    by_cases h : u = v
    · simp [h]
    · have : ¬ (u : Int) = (v : Int) := by omega
      simp [h, this]
  rw [e, e, e, e]
theorem upd2_hasP (pre : List S79) (a b : Nat) : upd (upd (hasP pre) a b true) b a true = hasP (pre ++ [⟨(a : Int), (b : Int)⟩]) := by
  funext x y
  rw [hasP_snoc]
  unfold upd
  by_cases h1 : x = b ∧ y = a
  · simp [h1]
  · by_cases h2 : x = a ∧ y = b
    · simp [h2]
    · have e1 : (decide (a = x) && decide (b = y)) = false := by simp; intro h3 h4; exact h2 ⟨h3.symm, h4.symm⟩
      have e2 : (decide (a = y) && decide (b = x)) = false := by simp; intro h3 h4; exact h1 ⟨h4.symm, h3.symm⟩
      simp [h1, h2, e1, e2]
theorem paTable_l1 (m : Nat) (l : List S79) (hl : l.length < 4611686018427387904) (hn : natPairs m l) : ∀ (rest pre : List S79), l = pre ++ rest → Ev (fun k => spec_paTable.l1 k (mat m (hasP pre)) l (l.length : Int) (pre.length : Int)) (mat m (hasP l))
  | [], pre, h => by
    refine Ev.one (fun k => ?_)
    have e : l = pre := by rw [h]; simp
    rw [spec_paTable.l1, if_neg (by rw [e]; omega), e]
  | x :: rest, pre, h => by
    have hlen : pre.length < l.length := by rw [h]; simp
    obtain ⟨a, b, rfl, hab, hb⟩ := hn x (by rw [h]; simp)
    have hx : rd_T79 l (pre.length : Int) = ⟨(a : Int), (b : Int)⟩ := by rw [h]; exact rdT_mid pre rest _
    have ih := paTable_l1 m l hl hn rest (pre ++ [⟨(a : Int), (b : Int)⟩]) (by rw [h]; simp)
    rw [List.length_append, List.length_singleton, ← upd2_hasP] at ih
    refine Ev.step (fun k => ?_) ih
    have hrow : (rd_L4 (mat m (hasP pre)) (a : Int)).length = m := by rw [mat_row _ _ _ (by omega)]; simp
    have hrow2 : (rd_L4 (mat m (upd (hasP pre) a b true)) (b : Int)).length = m := by rw [mat_row _ _ _ (by omega)]; simp
    rw [spec_paTable.l1, if_pos (by omega), if_pos (by omega), if_pos (by omega), hx]
    dsimp only
    rw [mat_len, hrow, if_pos (by omega), if_pos (by omega), if_pos (by omega), if_pos (by omega), Int.toNat_natCast, Int.toNat_natCast, mat_set _ _ _ _ _ (by omega)]
    simp only [Option.bind_some]
    rw [if_pos (by omega), hrow2, if_pos (by omega), mat_set _ _ _ _ _ (by omega), w1 (by omega)]
theorem paTable_l0 (m : Nat) (hm : m ≤ 12) (l : List S79) (hl : l.length < 4611686018427387904) (hn : natPairs m l) : ∀ (d i : Nat), i + d = m → Ev (fun k => spec_paTable.l0 k (List.replicate i (List.replicate m false)) (i : Int) (m : Int) l) (mat m (hasP l))
  | 0, i, hd => by
    refine Ev.step (fun k => ?_) (paTable_l1 m l hl hn l [] rfl)
    obtain rfl : i = m := by omega
    rw [spec_paTable.l0, if_neg (by omega), hasP_nil, mat_false]
    rfl
  | d + 1, i, hd => by
    refine Ev.step (fun k => ?_) (paTable_l0 m hm l hl hn d (i + 1) (by omega))
    rw [spec_paTable.l0, if_pos (by omega), if_pos (by omega), if_pos (by omega), if_pos (by simp; omega), w1 (by omega), Int.toNat_natCast, List.replicate_succ']
theorem paTable_ev (m : Nat) (hm : m ≤ 12) (l : List S79) (hl : l.length < 4611686018427387904) (hn : natPairs m l) : Ev (fun k => spec_paTable.f k (m : Int) l) (mat m (hasP l)) := by
  unfold spec_paTable.f
  exact paTable_l0 m hm l hl hn m 0 (by omega)
theorem tab_false (m : Nat) : tab m (fun _ _ => false) = List.replicate m 0 := by
  unfold tab
  rw [← map_range_const (0 : Int) m]
  refine map_range_congr m _ _ fun i hi => ?_
  have : bitsOf m (fun _ => false) = 0 := by
    apply Nat.eq_of_testBit_eq
    intro i
    rw [testBit_bitsOf]; simp
  rw [this]; rfl
theorem bitsOf_or (m : Nat) (f : Nat → Bool) (b : Nat) (hb : b < m) : bitsOf m f ||| 2 ^ b = bitsOf m fun j => if j = b then true else f j := by
  apply Nat.eq_of_testBit_eq
  intro i
  rw [Nat.testBit_or, testBit_bitsOf, testBit_bitsOf, Nat.testBit_two_pow]
  by_cases e : i = b
  · subst e; simp [hb]
  · have e' : ¬ b = i := fun h => e h.symm
    simp [e, e']
theorem or16 (x y : Nat) (hx : x < 65536) (hy : y < 65536) : Go.bits .or .u16 (x : Int) (y : Int) = ((x ||| y : Nat) : Int) := (bits_nat .u16 16 (by decide) wraps_u16 x y hx hy).2
theorem pow_u16 (b : Nat) (h : b ≤ 12) : 2 ^ b < 65536 := Nat.lt_of_le_of_lt (Nat.pow_le_pow_right (by decide) h) (by decide)
theorem shl1 (b : Nat) (h : b ≤ 12) : shl .u16 1 (b : Int) = ((2 ^ b : Nat) : Int) := by
  have : b = 0 ∨ b = 1 ∨ b = 2 ∨ b = 3 ∨ b = 4 ∨ b = 5 ∨ b = 6 ∨ b = 7 ∨ b = 8 ∨ b = 9 ∨ b = 10 ∨ b = 11 ∨ b = 12 := by omega
  rcases this with rfl | rfl | rfl | rfl | rfl | rfl | rfl | rfl | rfl | rfl | rfl | rfl | rfl <;> decide
theorem bitsOf_congr (m : Nat) (f g : Nat → Bool) (h : ∀ i, i < m → f i = g i) : bitsOf m f = bitsOf m g := by
  apply Nat.eq_of_testBit_eq
  intro i
  rw [testBit_bitsOf, testBit_bitsOf]
  by_cases hi : i < m
  · simp [hi, h i hi]
  · simp [hi]
theorem tab_congr (m : Nat) (r s : Rel) (h : ∀ a b, a < m → b < m → r a b = s a b) : tab m r = tab m s := map_range_congr m _ _ fun a ha => by rw [bitsOf_congr m _ _ fun b hb => h a b ha hb]
theorem tab_set (m : Nat) (r : Rel) (a : Nat) (f : Nat → Bool) : (tab m r).set a ((bitsOf m f : Nat) : Int) = tab m (fun x => if x = a then f else r x) := by
  unfold tab
  rw [map_range_set]
  refine map_range_congr m _ _ fun i hi => ?_
  by_cases e : i = a <;> simp [e]
theorem tab_or (m : Nat) (hm : m ≤ 12) (r : Rel) (a b : Nat) (ha : a < m) (hb : b < m) : (tab m r).set a (Go.bits .or .u16 (rd (tab m r) (a : Int)) (shl .u16 1 (b : Int))) = tab m (upd r a b true) := by
  rw [tab_at m r a ha, shl1 b (by omega), or16 _ _ (bitsOf_u16 m hm _) (pow_u16 b (by omega)), bitsOf_or m _ b hb, tab_set]
  refine tab_congr m _ _ fun x y hx hy => ?_
  by_cases e : x = a
  · subst e; simp [upd]
  · simp [upd, e]
theorem table_l0 (m : Nat) (hm : m ≤ 12) (l : List S79) (hl : l.length < 4611686018427387904) (hn : natPairs m l) : ∀ (rest pre : List S79), l = pre ++ rest → Ev (fun k => impl_Party_table.l0 k (tab m (hasP pre)) l (l.length : Int) (pre.length : Int)) (tab m (hasP l))
  | [], pre, h => by
    refine Ev.one (fun k => ?_)
    have e : l = pre := by rw [h]; simp
    rw [impl_Party_table.l0, if_neg (by rw [e]; omega), e]
  | x :: rest, pre, h => by
    have hlen : pre.length < l.length := by rw [h]; simp
    obtain ⟨a, b, rfl, hab, hb⟩ := hn x (by rw [h]; simp)
    have hx : rd_T79 l (pre.length : Int) = ⟨(a : Int), (b : Int)⟩ := by rw [h]; exact rdT_mid pre rest _
    have ih := table_l0 m hm l hl hn rest (pre ++ [⟨(a : Int), (b : Int)⟩]) (by rw [h]; simp)
    rw [List.length_append, List.length_singleton, ← upd2_hasP] at ih
    refine Ev.step (fun k => ?_) ih
    rw [impl_Party_table.l0, if_pos (by omega), if_pos (by omega), if_pos (by omega), hx]
    dsimp only
    rw [tab_len, if_pos (by omega), if_pos (by omega), if_pos (by omega), Int.toNat_natCast, Int.toNat_natCast, tab_or m hm _ a b (by omega) (by omega)]
    simp only [Option.bind_some]
    rw [if_pos (by omega), tab_or m hm _ b a (by omega) (by omega), w1 (by omega)]
theorem table_ev (m : Nat) (hm : m ≤ 12) (l : List S79) (hl : l.length < 4611686018427387904) (hn : natPairs m l) : Ev (fun k => impl_Party_table.f k (m : Int) l) (tab m (hasP l)) := by
  unfold impl_Party_table.f
  simp only [if_pos (show (0 : Int) ≤ (m : Int) by omega), Int.toNat_natCast, if_pos (show m ≤ 140737488355328 by omega)]
  have := table_l0 m hm l hl hn l [] rfl
  rw [hasP_nil, tab_false] at this
  exact this

theorem CountColourings_common (n : Int) (l : List S79) (a : Int) (w : (Lit.int .i64 n).wf = true) (hl : l.length ≤ 1048576) (wa : (Lit.int .i64 a).wf = true) : ∃ R : Int × Bool, Ev (fun k => spec_CountColourings.f k n l a) R ∧ Ev (fun k => impl_CountColourings.f k n l a) R := by
  cases h : fewOf n l with
  | false =>
    refine ⟨(0, false), ?_, ?_⟩
    · unfold spec_CountColourings.f
      refine Ev.bind (grFew_ev n l hl) ?_
      simp only [h, Bool.false_eq_true, if_false]
      exact Ev.one fun k => by rw [spec_CountColourings.j0, if_pos rfl]
    · unfold impl_CountColourings.f
      refine Ev.bind (isFew_ev n l hl) ?_
      simp only [h, Bool.false_eq_true, if_false]; exact Ev.now _
  | true =>
    have h' := h
    unfold fewOf at h'
    rw [Bool.and_eq_true, decide_eq_true_eq] at h'
    obtain ⟨hg, h8⟩ := h'
    obtain ⟨m, rfl, hm, hn, ho⟩ := good_nat hg
    cases hc : (decide (0 ≤ a) && decide (a ≤ 12)) with
    | false =>
      refine ⟨(0, false), ?_, ?_⟩
      · unfold spec_CountColourings.f
        refine Ev.bind (grFew_ev _ l hl) ?_
        simp only [h, if_true, l1In_f, Option.bind_some, hc, Bool.not_false]
        exact Ev.one fun k => by rw [spec_CountColourings.j0, if_pos rfl]
      · unfold impl_CountColourings.f
        refine Ev.bind (isFew_ev _ l hl) ?_
        simp only [h, if_true, within_f, Option.bind_some, hc, Bool.false_eq_true, if_false]; exact Ev.now _
    | true =>
      have hc2 := hc
      rw [Bool.and_eq_true, decide_eq_true_eq, decide_eq_true_eq] at hc2
      obtain ⟨C, rfl⟩ := Int.eq_ofNat_of_zero_le hc2.1
      refine ⟨(((waysP (hasP l) C m [] 0 : Nat) : Int), true), ?_, ?_⟩
      · unfold spec_CountColourings.f
        refine Ev.bind (grFew_ev _ l hl) ?_
        simp only [h, if_true, l1In_f, Option.bind_some, hc, Bool.not_true]
        refine Ev.step (fun k => by rw [spec_CountColourings.j0, if_neg (by decide)]) ?_
        refine Ev.bind (paTable_ev m hm l (by omega) hn) ?_
        rw [grWays_ev m (by omega) (hasP l) C (by omega)]
        exact Ev.now _
      · unfold impl_CountColourings.f
        refine Ev.bind (isFew_ev _ l hl) ?_
        simp only [h, if_true, within_f, Option.bind_some, hc]
        refine Ev.bind (table_ev m hm l (by omega) hn) ?_
        rw [if_pos ⟨by rw [tab_len]; omega, by omega, by omega⟩, cc_count m (by omega) (hasP l) C (by omega)]
        exact Ev.now _

def conv (l : List S81) : List S79 := l.map fun x => ⟨x.f0, x.f1⟩
theorem conv_len (l : List S81) : (conv l).length = l.length := by simp [conv]
theorem eqPairS_l0 (l : List S79) (hl : l.length < 4611686018427387904) : ∀ (d i : Nat), i + d = l.length → Ev (fun k => laws_eqPairS.l0 k l l i) true
  | 0, i, hd => by
    refine Ev.one (fun k => ?_)
    rw [laws_eqPairS.l0, if_neg (by omega)]
  | d + 1, i, hd => by
    refine Ev.step (fun k => ?_) (eqPairS_l0 l hl d (i + 1) (by omega))
    rw [laws_eqPairS.l0, if_pos (by omega), if_pos (by omega), if_pos (by omega), laws_eqPair.f, if_pos rfl, if_pos rfl, w1 (by omega)]
    rfl
theorem eqParty_self (a : Int) (l : List S79) (hl : l.length < 4611686018427387904) : Ev (fun k => laws_eqParty.f k a l a l) true := by
  unfold laws_eqParty.f laws_eqPairS.f
  simp only [if_true]
  have h : Ev (fun k => laws_eqPairS.l0 k l l 0) true := by simpa using eqPairS_l0 l hl l.length 0 (by omega)
  refine Ev.bind h ?_
  simp only [if_true]
  exact Ev.now _

theorem szParty_f (a0 : Int) (l : List S81) (a1 : Int) (h0 : 0 ≤ a1) (h1 : a1 ≤ 1048576) (hl : l.length ≤ maxLen) : laws_szParty.f a0 l a1 = some (if a1 - l.length < 0 then -1 else a1 - l.length) := by
  unfold maxLen at hl
  unfold laws_szParty.f laws_szPairS.f
  rw [w64 (by omega) (by omega)]
  by_cases h : a1 - l.length < 0
  · simp [h]
  · simp [h]
theorem getD_of_get {α : Type} (l : List α) (i : Nat) (d x : α) (h : l[i]? = some x) : l.getD i d = x := by rw [List.getD_eq_getElem?_getD, h]; rfl
theorem toPairS_l0 (l : List S81) (hl : l.length < 4611686018427387904) : ∀ (d i : Nat) (y : List S79), i + d = l.length → y.length = l.length → (∀ j, j < i → y[j]? = (conv l)[j]?) → Ev (fun k => laws_toPairS.l0 k l y i) (conv l)
  | 0, i, y, hd, hy, h => by
    refine Ev.one (fun k => ?_)
    have e : y = conv l := by
      apply List.ext_getElem?
      intro j
      by_cases hj : j < i
      · exact h j hj
      · rw [List.getElem?_eq_none (by omega), List.getElem?_eq_none (by rw [conv_len]; omega)]
    rw [laws_toPairS.l0, if_neg (by omega), e]
  | d + 1, i, y, hd, hy, h => by
    have hi : i < l.length := by omega
    have hx : rd_T81 l (i : Int) = l[i] := getD_of_get l i _ _ (List.getElem?_eq_getElem hi)
    refine Ev.step (fun k => ?_) (toPairS_l0 l hl d (i + 1) (y.set i ⟨l[i].f0, l[i].f1⟩) (by omega) (by simpa using hy) ?_)
    · rw [laws_toPairS.l0, if_pos (by omega), if_pos (by omega), hx, laws_toPair.f]
      simp only [Option.bind_some]
      rw [if_pos (by omega), w1 (by omega)]
      rfl
    · intro j hj
      rw [List.getElem?_set]
      by_cases e : i = j
      · subst e
        have hiy : i < y.length := by omega
        simp [conv, hi, hiy]
      · rw [if_neg e]; exact h j (by omega)
theorem toPairS_ev (l : List S81) (hl : l.length ≤ 17592186044416) : Ev (fun k => laws_toPairS.f k l) (conv l) := by
  unfold laws_toPairS.f
  simp only [if_pos (show (0 : Int) ≤ (l.length : Int) by omega), if_pos (show ((l.length : Int) : Int).toNat ≤ 17592186044416 by simpa using hl)]
  exact toPairS_l0 l (by omega) l.length 0 _ (by omega) (by simp) (fun j hj => absurd hj (Nat.not_lt_zero _))
theorem toParty_ev (a : Int) (l : List S81) (hl : l.length ≤ 17592186044416) : Ev (fun k => laws_toParty.f k a l) (a, conv l) := by
  unfold laws_toParty.f
  exact Ev.bind (toPairS_ev l hl) (Ev.now _)
theorem FnExactCountColourings : ∀ (a0 : Int) (l0 : List S81) (a1 : Int), (Lit.int .i64 a0).wf = true → l0.length ≤ maxLen → (∀ x ∈ l0, ∃ m n : Int, x = ⟨m, n⟩ ∧ (Lit.int .i64 m).wf = true ∧ (Lit.int .i64 n).wf = true) → (Lit.int .i64 a1).wf = true → ∃ k, laws_FnExactCountColourings.f k a0 l0 a1 = some true := by
  intro a0 l0 a1 w0 hm0 hw0 w1
  refine Ev.rounds ?_
  unfold laws_FnExactCountColourings.f
  simp only [szParty_f a0 l0 1048576 (by omega) (by omega) hm0, Option.bind_some]
  by_cases hg0 : 1048576 - (l0.length : Int) < 0
  · simp only [if_pos hg0, show ((-1 : Int) < 0) from by decide, if_true]; exact Ev.now _
  simp only [if_neg hg0]
  have hlen0 : l0.length ≤ 1048576 := by omega
  have hcl0 := conv_len l0
  obtain ⟨R, hs, hi⟩ := CountColourings_common a0 (conv l0) a1 w0 (by rw [conv_len]; omega) w1
  refine Ev.bind (toParty_ev a0 l0 (by omega)) ?_
  refine Ev.bind hs ?_
  try simp only [if_true, if_false, bne_self_eq_false, Bool.false_eq_true, ↓reduceIte, decide_true]
  refine Ev.bind (toParty_ev a0 l0 (by omega)) ?_
  refine Ev.bind hi ?_
  try simp only [if_true, if_false, bne_self_eq_false, Bool.false_eq_true, ↓reduceIte, decide_true]
  try simp only [if_true, if_false, bne_self_eq_false, Bool.false_eq_true, ↓reduceIte, decide_true]
  refine Ev.step (fun k => rfl) ?_
  simp only [laws_FnExactCountColourings.j0]
  try simp only [if_true, if_false, bne_self_eq_false, Bool.false_eq_true, ↓reduceIte, decide_true]
  refine Ev.bind (toParty_ev a0 l0 (by omega)) ?_
  refine Ev.bind (eqParty_self a0 (conv l0) (by omega)) ?_
  try simp only [if_true, if_false, bne_self_eq_false, Bool.false_eq_true, ↓reduceIte, decide_true]
  exact Ev.now _
end Go.Proofs.Ytifkaefccghgdaa.Pure
