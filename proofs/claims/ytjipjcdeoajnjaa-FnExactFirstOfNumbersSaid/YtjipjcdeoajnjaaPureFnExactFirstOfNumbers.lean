/- The program's FirstOfNumbers returns what the reference's returns, for all arguments (the plain statement behind the printed walk); no condition. -/
import Derived.Test.YtjipjcdeoajnjaaPx0
import Derived.Test.YtjipjcdeoajnjaaPx1
import Derived.Test.YtjipjcdeoajnjaaPx2
import Derived.Test.YtjipjcdeoajnjaaPx6
import Derived.Test.YtjipjcdeoajnjaaPx7
namespace Go.Proofs.Ytjipjcdeoajnjaa.Pure
open Go.RowKit Go.Proofs.Ytjipjcdeoajnjaa.P Go.Proofs.YtjipjcdeoajnjaaW.PrintWords Go.Proofs.YtjipjcdeoajnjaaW.PrintLast
set_option linter.unusedSimpArgs false
set_option linter.unusedVariables false
def inAll (l : List Int) (lo hi : Int) : Bool := l.all fun n => decide (lo ≤ n) && decide (n ≤ hi)
def isNums (l : List Int) : Bool := decide (l.length ≤ 12) && inAll l 0 ((l.length : Int) - 1)
def fewN (l : List Int) : Bool := isNums l && decide (l.length ≤ 7)
theorem few_nums {l : List Int} (h : fewN l = true) : isNums l = true ∧ l.length ≤ 7 := by
  unfold fewN at h
  simp only [Bool.and_eq_true, decide_eq_true_eq] at h
  exact h
def tri : Nat → Nat
  | 0 => 0
  | k + 1 => tri k + k
theorem dlk_len (n : Nat) : ∀ (d : Nat) (l : List Int) (a b : Nat) (ps : List S80), a < b → (b ≤ n ∨ n ≤ a + 1) → (a + 1 ≤ n ∨ n = 0) → (dlk n d l a b ps).length ≤ 2 ^ ((n - b) + tri (n - 1 - a))
  | 0, _, _, _, _, _, _, _ => by rw [dlk]; exact Nat.zero_le _
  | d + 1, l, a, b, ps, hab, hb, ha => by
    have hp : 1 ≤ 2 ^ ((n - b) + tri (n - 1 - a)) := Nat.one_le_two_pow
    rw [dlk]
    split
    · split
      · simpa using hp
      · exact Nat.zero_le _
    · next e1 =>
      split
      · next e2 =>
        subst e2
        split
        · have := dlk_len b d l (a + 1) (a + 2) ps (by omega) (by omega) (by omega)
          have e : b - (a + 2) + tri (b - 1 - (a + 1)) = b - b + tri (b - 1 - a) := by
            obtain ⟨k, hk⟩ : ∃ k, b - 1 - a = k + 1 := ⟨b - 1 - a - 1, by omega⟩
            rw [hk, tri, show b - 1 - (a + 1) = k by omega]
            omega
          rw [e] at this
          exact this
        · exact Nat.zero_le _
      · next e2 =>
        have h1 := dlk_len n d l a (b + 1) ps (by omega) (by omega) ha
        have h2 := dlk_len n d (dec2 l a b) a (b + 1) (ps ++ [⟨(a : Int), (b : Int)⟩]) (by omega) (by omega) ha
        have e : 2 ^ (n - b + tri (n - 1 - a)) = 2 ^ (n - (b + 1) + tri (n - 1 - a)) + 2 ^ (n - (b + 1) + tri (n - 1 - a)) := by
          rw [show n - b + tri (n - 1 - a) = (n - (b + 1) + tri (n - 1 - a)) + 1 by omega, Nat.pow_succ]
          omega
        rw [List.length_append, e]
        split
        · omega
        · simp; omega
theorem look_few (l : List Int) (h : l.length ≤ 7) : (lookL l).length ≤ 1000000000 := by
  have := dlk_len l.length 100 l 0 1 [] (by omega) (by omega) (by omega)
  have h2 : 2 ^ (l.length - 1 + tri (l.length - 1 - 0)) ≤ 2 ^ 21 := by
    refine Nat.pow_le_pow_right (by decide) ?_
    have : ∀ m : Fin 8, m.val - 1 + tri (m.val - 1 - 0) ≤ 21 := by decide
    exact this ⟨l.length, by omega⟩
  unfold lookL
  omega
theorem deAll_f {l : List Int} (h : fewN l = true) : spec_deAll.f l = some (((lookL l).length : Int), (lookL l).headD []) := by
  unfold spec_deAll.f
  rw [if_pos ⟨(few_nums h).2, look_few l (few_nums h).2⟩]
theorem Ev.cast {α : Type} {g : Nat → Option α} {a b : α} (h : Ev g a) (e : a = b) : Ev g b := e ▸ h
theorem Ev.one {α : Type} {g : Nat → Option α} {r : α} (h : ∀ k, g (k + 1) = some r) : Ev g r := Ev.step h (Ev.now r)
theorem getD_get (l : List Int) (i : Nat) (h : i < l.length) : l.getD i 0 = l[i] := by simp [List.getD_eq_getElem?_getD, h]
theorem l1In_f (a lo hi : Int) : spec_l1In.f a lo hi = some (decide (lo ≤ a) && decide (a ≤ hi)) := by
  unfold spec_l1In.f
  by_cases h : lo ≤ a
  · rw [if_pos h]; simp [h]
  · rw [if_neg h]; simp [h]
theorem w1 {n : Nat} (h : n < 4611686018427387904) : wrap64 ((n : Int) + 1) = ((n + 1 : Nat) : Int) := by unfold wrap64; omega
theorem l1All_l0 (l : List Int) (lo hi : Int) (hl : l.length < 4611686018427387904) : ∀ (d i : Nat), i + d = l.length → Ev (fun k => spec_l1All.l0 k lo hi l (l.length : Int) i) (inAll (l.drop i) lo hi)
  | 0, i, hd => by
    refine Ev.one (fun k => ?_)
    rw [spec_l1All.l0, if_neg (by omega), List.drop_of_length_le (by omega)]; rfl
  | d + 1, i, hd => by
    have hi' : i < l.length := by omega
    have e : rd l (i : Int) = l[i] := getD_get l i hi'
    have eD : inAll (l.drop i) lo hi = ((decide (lo ≤ l[i]) && decide (l[i] ≤ hi)) && inAll (l.drop (i + 1)) lo hi) := by
      rw [List.drop_eq_getElem_cons hi']; rfl
    rw [eD]
    cases hb : (decide (lo ≤ l[i]) && decide (l[i] ≤ hi)) with
    | false =>
      refine Ev.one (fun k => ?_)
      rw [spec_l1All.l0, if_pos (by omega), if_pos (by omega), if_pos (by omega), l1In_f, e, hb]; rfl
    | true =>
      refine Ev.step (fun k => ?_) (l1All_l0 l lo hi hl d (i + 1) (by omega))
      rw [spec_l1All.l0, if_pos (by omega), if_pos (by omega), if_pos (by omega), l1In_f, e, hb, w1 (by omega)]; rfl
theorem l1All_ev (l : List Int) (lo hi : Int) (hl : l.length < 4611686018427387904) : Ev (fun k => spec_l1All.f k l lo hi) (inAll l lo hi) := by
  unfold spec_l1All.f
  simpa using l1All_l0 l lo hi hl l.length 0 (by omega)
theorem w64 {i : Int} (h0 : -9223372036854775808 ≤ i) (h : i ≤ 9223372036854775807) : wrap64 i = i := by unfold wrap64; omega
theorem deGood_ev (l : List Int) : Ev (fun k => spec_deGood.f k l) (isNums l) := by
  unfold spec_deGood.f isNums
  by_cases h : l.length ≤ 12
  · simp only [if_pos (show (l.length : Int) ≤ 12 by omega), h, decide_true, Bool.true_and, w64 (i := (l.length : Int) - 1) (by omega) (by omega)]
    exact Ev.bind (l1All_ev l 0 _ (by omega)) (Ev.now _)
  · simp only [if_neg (show ¬ (l.length : Int) ≤ 12 by omega), h, decide_false, Bool.false_and]
    exact Ev.now _
theorem deFew_ev (l : List Int) : Ev (fun k => spec_deFew.f k l) (fewN l) := by
  unfold spec_deFew.f fewN
  refine Ev.bind (deGood_ev l) ?_
  cases isNums l with
  | false => exact Ev.now false
  | true =>
    rw [Bool.true_and]
    simp only [if_true]
    exact Ev.cast (Ev.now _) (by rw [decide_eq_decide]; omega)
def firstR (l : List Int) : Int × List S80 × Bool := if fewN l = true then (if (lookL l).length = 0 then (0, [], false) else ((l.length : Int), (lookL l).headD [], true)) else (0, [], false)
abbrev Rel := Nat → Nat → Bool
def hasP (l : List S80) : Rel := fun a b => l.any fun x => (x.f0 == (a : Int) && x.f1 == (b : Int)) || (x.f0 == (b : Int) && x.f1 == (a : Int))
theorem areWithin_f (l : List Int) (lo hi : Int) : impl_areWithin.f l lo hi = some (inAll l lo hi) := rfl

theorem within_f (a lo hi : Int) : impl_within.f a lo hi = some (decide (lo ≤ a) && decide (a ≤ hi)) := by
  unfold impl_within.f
  by_cases h : lo ≤ a
  · rw [if_pos h]; simp [h]
  · rw [if_neg h]; simp [h]
theorem isNumbers_f (l : List Int) (hl : l.length < 4611686018427387904) : impl_IsNumbers.f l = some (isNums l) := by
  unfold impl_IsNumbers.f impl_areCrowd.f isNums
  rw [within_f]
  by_cases h : l.length ≤ 12
  · have e : (decide (0 ≤ (l.length : Int)) && decide ((l.length : Int) ≤ 12)) = true := by simp; omega
    rw [e]
    simp only [Option.bind_some, if_true, h, decide_true, Bool.true_and]
    rw [w64 (by omega) (by omega), areWithin_f]; rfl
  · have e : (decide (0 ≤ (l.length : Int)) && decide ((l.length : Int) ≤ 12)) = false := by simp; omega
    rw [e]
    simp [h]

theorem isFew_f (l : List Int) (hl : l.length < 4611686018427387904) : impl_isFew.f l = some (fewN l) := by
  unfold impl_isFew.f fewN
  rw [isNumbers_f l hl, Option.bind_some]
  cases isNums l with
  | false => rfl
  | true =>
    rw [Bool.true_and]
    simp only [if_true]
    congr 1
    rw [decide_eq_decide]
    omega
def lt2 (p q : S80) : Bool := decide (p.f0 < q.f0) || (decide (p.f0 = q.f0) && decide (p.f1 < q.f1))
def priorP (n a b : Nat) (x : S80) : Prop := ∃ i j : Nat, x = ⟨(i : Int), (j : Int)⟩ ∧ i < j ∧ j < n ∧ (i < a ∨ (i = a ∧ j < b))
theorem dlk_sorted (n : Nat) : ∀ (d : Nat) (l : List Int) (a b : Nat) (ps : List S80), a < b → (b ≤ n ∨ n ≤ a + 1) → (a + 1 ≤ n ∨ n = 0) → ps.Pairwise (fun x y => lt2 x y = true) → (∀ x ∈ ps, priorP n a b x) → ∀ q ∈ dlk n d l a b ps, q.Pairwise (fun x y => lt2 x y = true) ∧ ∀ x ∈ q, ∃ i j : Nat, x = ⟨(i : Int), (j : Int)⟩ ∧ i < j ∧ j < n
  | 0, _, _, _, _, _, _, _, _, _, q, hq => by simp [dlk] at hq
  | d + 1, l, a, b, ps, hab, hb, ha, hp, h, q, hq => by
    rw [dlk] at hq
    split at hq
    · split at hq
      · rw [List.mem_singleton.1 hq]
        exact ⟨hp, fun x hx => by obtain ⟨i, j, e, h1, h2, _⟩ := h x hx; exact ⟨i, j, e, h1, h2⟩⟩
      · cases hq
    · next e1 =>
      split at hq
      · next e2 =>
        split at hq
        · exact dlk_sorted n d l (a + 1) (a + 2) ps (by omega) (by omega) (by omega) hp (fun x hx => by obtain ⟨i, j, e, h1, h2, h3⟩ := h x hx; exact ⟨i, j, e, h1, h2, by omega⟩) q hq
        · cases hq
      · next e2 =>
        have hps : ∀ x ∈ ps, priorP n a (b + 1) x := fun x hx => by obtain ⟨i, j, e, h1, h2, h3⟩ := h x hx; exact ⟨i, j, e, h1, h2, by omega⟩
        rcases List.mem_append.1 hq with hq | hq
        · split at hq
          · refine dlk_sorted n d _ a (b + 1) _ (by omega) (by omega) ha ?_ (fun x hx => ?_) q hq
            · refine List.pairwise_append.2 ⟨hp, List.pairwise_singleton _ _, fun x hx y hy => ?_⟩
              rw [List.mem_singleton.1 hy]
              obtain ⟨i, j, rfl, h1, h2, h3⟩ := h x hx
              unfold lt2
              simp only [Bool.or_eq_true, Bool.and_eq_true, decide_eq_true_eq]
              omega
            · rcases List.mem_append.1 hx with hx | hx
              · exact hps x hx
              · rw [List.mem_singleton.1 hx]; exact ⟨a, b, rfl, hab, by omega, by omega⟩
          · cases hq
        · exact dlk_sorted n d l a (b + 1) ps (by omega) (by omega) ha hp hps q hq

def natPairs (m : Nat) (l : List S80) : Prop := ∀ x ∈ l, ∃ a b : Nat, x = ⟨(a : Int), (b : Int)⟩ ∧ a < b ∧ b < m
theorem look_sorted (l : List Int) (q : List S80) (hq : q ∈ lookL l) : q.Pairwise (fun x y => lt2 x y = true) ∧ natPairs l.length q := by
  have h := dlk_sorted l.length 100 l 0 1 [] (by omega) (by omega) (by omega) List.Pairwise.nil (fun x hx => by cases hx) q hq
  exact ⟨h.1, fun x hx => by obtain ⟨i, j, e, h1, h2⟩ := h.2 x hx; exact ⟨i, j, e, h1, h2⟩⟩
theorem dec2_len (l : List Int) (a b : Nat) : (dec2 l a b).length = l.length := by simp [dec2]
def okL (n : Nat) (l : List Int) : Prop := l.length = n ∧ ∀ i : Nat, i < n → 0 ≤ rd l (i : Int) ∧ rd l (i : Int) ≤ 100
theorem rd_set (l : List Int) (i j : Nat) (v : Int) : rd (l.set i v) (j : Int) = if i = j ∧ i < l.length then v else rd l (j : Int) := by
  unfold rd
  rw [Int.toNat_natCast, List.getD_eq_getElem?_getD, List.getD_eq_getElem?_getD, List.getElem?_set]
  by_cases h : i = j
  · subst h
    by_cases h2 : i < l.length
    · simp [h2]
    · simp [h2, List.getElem?_eq_none (Nat.not_lt.1 h2)]
  · simp [h]
theorem wrap_sm (x : Int) (h0 : -1000 ≤ x) (h1 : x ≤ 1000000) : wrap64 x = x := by unfold wrap64; omega
theorem dec2_rd (n : Nat) (l : List Int) (h : okL n l) (a b : Nat) (hab : a < b) (hb : b < n) (i : Nat) : rd (dec2 l a b) (i : Int) = if i = b then rd l (b : Int) - 1 else if i = a then rd l (a : Int) - 1 else rd l (i : Int) := by
  obtain ⟨hl, hr⟩ := h
  have h1 := hr a (by omega)
  have h2 := hr b hb
  have e : rd (l.set a (wrap64 (rd l (a : Int) - 1))) (b : Int) = rd l (b : Int) := by rw [rd_set, if_neg (by omega)]
  unfold dec2
  rw [rd_set, e, wrap_sm _ (by omega) (by omega), wrap_sm _ (by omega) (by omega), List.length_set, rd_set]
  by_cases c1 : i = b
  · rw [if_pos c1, if_pos ⟨c1.symm, by omega⟩]
  · rw [if_neg c1, if_neg (fun h => c1 h.1.symm)]
    by_cases c2 : i = a
    · rw [if_pos c2, if_pos ⟨c2.symm, by omega⟩]
    · rw [if_neg c2, if_neg (fun h => c2 h.1.symm)]
theorem dec2_ok (n : Nat) (l : List Int) (h : okL n l) (a b : Nat) (hab : a < b) (hb : b < n) (h1 : 0 < rd l (a : Int)) (h2 : 0 < rd l (b : Int)) : okL n (dec2 l a b) := by
  refine ⟨by rw [dec2_len]; exact h.1, fun i hi => ?_⟩
  rw [dec2_rd n l h a b hab hb]
  have := h.2 i hi
  have := h.2 a (by omega)
  have := h.2 b hb
  split
  · omega
  · split
    · omega
    · omega
theorem dlk_none (n : Nat) : ∀ (d : Nat) (l : List Int) (a b : Nat) (ps : List S80), okL n l → a < b → b ≤ n → a + 1 < n → rd l (a : Int) > (n : Int) - (b : Int) → dlk n d l a b ps = []
  | 0, _, _, _, _, _, _, _, _, _ => rfl
  | d + 1, l, a, b, ps, h, hab, hb, ha, hp => by
    rw [dlk, if_neg (by omega)]
    by_cases e : b = n
    · rw [if_pos e, if_neg (by omega)]
    · rw [if_neg e, dlk_none n d l a (b + 1) ps h (by omega) (by omega) ha (by omega), List.append_nil]
      split
      · next hc =>
        refine dlk_none n d _ a (b + 1) _ (dec2_ok n l h a b hab (by omega) hc.1 hc.2) (by omega) (by omega) ha ?_
        rw [dec2_rd n l h a b hab (by omega), if_neg (by omega), if_pos rfl]
        omega
      · rfl
theorem mkl_dlk (put : List Int → Nat → Nat → List Int) (n : Nat) (T : List S80 → List Int) (hT : ∀ (ps : List S80) (a b : Nat), a < b → b < n → T (ps ++ [⟨(a : Int), (b : Int)⟩]) = put (T ps) a b) : ∀ (d : Nat) (l : List Int) (a b : Nat) (ps : List S80), okL n l → a < b → (b ≤ n ∨ n ≤ a + 1) → (a + 1 ≤ n ∨ n = 0) → mkl put n d (T ps) l a b = (dlk n d l a b ps).map T
  | 0, _, _, _, _, _, _, _, _ => rfl
  | d + 1, l, a, b, ps, h, hab, hb, ha => by
    rw [mkl, dlk]
    by_cases e1 : a + 1 = n ∨ n = 0
    · rw [if_pos e1, if_pos (by omega)]
      by_cases e2 : n = 0 ∨ rd l (a : Int) = 0
      · rw [if_pos e2, if_neg]
        · rfl
        · rintro ⟨h1, h2⟩
          have : ((n : Int) - 1) = (a : Int) := by omega
          rw [this] at h2
          omega
      · rw [if_neg e2, if_pos]
        · rfl
        · refine ⟨by omega, ?_⟩
          have : ((n : Int) - 1) = (a : Int) := by omega
          rw [this]
          omega
    · rw [if_neg e1, if_neg (by omega)]
      by_cases e2 : b = n
      · rw [if_pos e2, if_pos e2]
        by_cases e3 : rd l (a : Int) = 0
        · rw [if_neg (by omega), if_pos e3]
          exact mkl_dlk put n T hT d l (a + 1) (a + 2) ps h (by omega) (by omega) (by omega)
        · rw [if_pos e3, if_neg e3]; rfl
      · rw [if_neg e2, if_neg e2]
        by_cases e3 : rd l (a : Int) > (n : Int) - (b : Int)
        · have := dlk_none n (d + 1) l a b ps h hab (by omega) (by omega) e3
          rw [dlk, if_neg e1, if_neg e2] at this
          rw [if_pos e3, this]; rfl
        · rw [if_neg e3, List.map_append, mkl_dlk put n T hT d l a (b + 1) ps h (by omega) (by omega) ha]
          congr 1
          by_cases e4 : 0 < rd l (a : Int) ∧ 0 < rd l (b : Int)
          · rw [if_pos e4, if_pos e4, ← hT ps a b hab (by omega)]
            exact mkl_dlk put n T hT d _ a (b + 1) _ (dec2_ok n l h a b hab (by omega) e4.1 e4.2) (by omega) (by omega) ha
          · rw [if_neg e4, if_neg e4]; rfl
theorem okL_nums (l : List Int) (h : isNums l = true) : okL l.length l ∧ l.length ≤ 12 := by
  unfold isNums inAll at h
  simp only [Bool.and_eq_true, decide_eq_true_eq, List.all_eq_true] at h
  refine ⟨⟨rfl, fun i hi => ?_⟩, h.1⟩
  have h2 := h.2 _ (List.getElem_mem hi)
  have h3 : rd l (i : Int) = l[i] := by unfold rd; rw [Int.toNat_natCast]; exact getD_get l i hi
  rw [h3]
  omega
/-! ### tables of bits -/
def bitsOf : Nat → (Nat → Bool) → Nat
  | 0, _ => 0
  | m + 1, f => bitsOf m f + (f m).toNat * 2 ^ m
def tab (m : Nat) (r : Rel) : List Int := (List.range m).map fun a => ((bitsOf m (r a) : Nat) : Int)
def tabP (n : Nat) (ps : List S80) : List Int := tab n (hasP ps)
theorem bitsOf_lt : ∀ (m : Nat) (f : Nat → Bool), bitsOf m f < 2 ^ m
  | 0, _ => by simp [bitsOf]
  | m + 1, f => by
    have := bitsOf_lt m f
    have h2 : (f m).toNat * 2 ^ m ≤ 2 ^ m := by cases f m <;> simp
    rw [bitsOf, Nat.pow_succ]; omega
theorem testBit_bitsOf : ∀ (m : Nat) (f : Nat → Bool) (i : Nat), (bitsOf m f).testBit i = (decide (i < m) && f i)
  | 0, f, i => by simp [bitsOf]
  | m + 1, f, i => by
    have ih := testBit_bitsOf m f
    by_cases hi : i < m
    · have h1 : i < m + 1 := by omega
      cases hf : f m with
      | false => simp [bitsOf, hf, ih i, hi, h1]
      | true => rw [bitsOf, hf, Bool.toNat_true, Nat.one_mul, Nat.add_comm, Nat.testBit_two_pow_add_gt hi, ih i]; simp [hi, h1]
    · by_cases e : i = m
      · subst e
        cases hf : f i with
        | false => simp [bitsOf, hf, ih i]
        | true => rw [bitsOf, hf, Bool.toNat_true, Nat.one_mul, Nat.add_comm, Nat.testBit_two_pow_add_eq, ih i]; simp
      · have h1 : ¬ i < m + 1 := by omega
        rw [Nat.testBit_lt_two_pow (Nat.lt_of_lt_of_le (bitsOf_lt (m + 1) f) (Nat.pow_le_pow_right (by decide) (by omega)))]
        simp [h1]
theorem bitsOf_congr (m : Nat) (f g : Nat → Bool) (h : ∀ i, i < m → f i = g i) : bitsOf m f = bitsOf m g := by
  apply Nat.eq_of_testBit_eq
  intro i
  rw [testBit_bitsOf, testBit_bitsOf]
  by_cases hi : i < m
  · simp [hi, h i hi]
  · simp [hi]
theorem map_range_congr {α : Type} (m : Nat) (f g : Nat → α) (h : ∀ a, a < m → f a = g a) : (List.range m).map f = (List.range m).map g := List.map_congr_left fun a ha => h a (List.mem_range.1 ha)
theorem tab_congr (m : Nat) (r s : Rel) (h : ∀ a b, a < m → b < m → r a b = s a b) : tab m r = tab m s := map_range_congr m _ _ fun a ha => by rw [bitsOf_congr m _ _ fun b hb => h a b ha hb]
theorem map_range_const {α : Type} (c : α) : ∀ m : Nat, (List.range m).map (fun _ => c) = List.replicate m c
  | 0 => rfl
  | m + 1 => by rw [List.range_succ, List.map_append, map_range_const c m, List.replicate_succ']; rfl
theorem tab_false (m : Nat) : tab m (fun _ _ => false) = List.replicate m 0 := by
  unfold tab
  rw [← map_range_const (0 : Int) m]
  refine map_range_congr m _ _ fun i hi => ?_
  have : bitsOf m (fun _ => false) = 0 := by
    apply Nat.eq_of_testBit_eq
    intro i
    rw [testBit_bitsOf]; simp
  rw [this]; rfl
theorem tabP_nil (n : Nat) : tabP n [] = List.replicate n 0 := by
  rw [← tab_false n]
  exact tab_congr n _ _ fun _ _ _ _ => rfl
theorem tab_len (m : Nat) (r : Rel) : (tab m r).length = m := by simp [tab]
theorem bitsOf_or (m : Nat) (f : Nat → Bool) (b : Nat) (hb : b < m) : bitsOf m f ||| 2 ^ b = bitsOf m fun j => if j = b then true else f j := by
  apply Nat.eq_of_testBit_eq
  intro i
  rw [Nat.testBit_or, testBit_bitsOf, testBit_bitsOf, Nat.testBit_two_pow]
  by_cases e : i = b
  · subst e; simp [hb]
  · have e' : ¬ b = i := fun h => e h.symm
    simp [e, e']
theorem bitsOf_u16 (m : Nat) (hm : m ≤ 12) (f : Nat → Bool) : bitsOf m f < 65536 :=
  Nat.lt_of_lt_of_le (bitsOf_lt m f) (Nat.le_trans (Nat.pow_le_pow_right (by decide) hm) (by decide))
theorem wraps_u16 (n : Int) (h0 : 0 ≤ n) (h1 : n < 2 ^ 16) : IntKind.u16.wrap n = n := by
  simp [IntKind.wrap, IntKind.bits, IntKind.signed]; omega
theorem or16 (x y : Nat) (hx : x < 65536) (hy : y < 65536) : Go.bits .or .u16 (x : Int) (y : Int) = ((x ||| y : Nat) : Int) := (bits_nat .u16 16 (by decide) wraps_u16 x y hx hy).2
theorem pow_u16 (b : Nat) (h : b ≤ 12) : 2 ^ b < 65536 := Nat.lt_of_le_of_lt (Nat.pow_le_pow_right (by decide) h) (by decide)
theorem shl1 (b : Nat) (h : b ≤ 12) : shl .u16 1 (b : Int) = ((2 ^ b : Nat) : Int) := by
  have : b = 0 ∨ b = 1 ∨ b = 2 ∨ b = 3 ∨ b = 4 ∨ b = 5 ∨ b = 6 ∨ b = 7 ∨ b = 8 ∨ b = 9 ∨ b = 10 ∨ b = 11 ∨ b = 12 := by omega
  rcases this with rfl | rfl | rfl | rfl | rfl | rfl | rfl | rfl | rfl | rfl | rfl | rfl | rfl <;> decide
theorem map_range_getD {α : Type} (m : Nat) (f : Nat → α) (d : α) (a : Nat) (h : a < m) : ((List.range m).map f).getD a d = f a := by simp [List.getD_eq_getElem?_getD, h]
theorem tab_at (m : Nat) (r : Rel) (a : Nat) (h : a < m) : rd (tab m r) (a : Int) = ((bitsOf m (r a) : Nat) : Int) := map_range_getD m _ _ a h
theorem map_range_set {α : Type} (m : Nat) (f : Nat → α) (a : Nat) (v : α) : ((List.range m).map f).set a v = (List.range m).map fun i => if i = a then v else f i := by
  apply List.ext_getElem?
  intro j
  rw [List.getElem?_set]
  by_cases hj : j < m
  · by_cases e : a = j
    · subst e; simp [hj]
    · have e' : ¬ j = a := fun h => e h.symm
      simp [hj, e, e']
  · by_cases e : a = j
    · subst e; simp [hj]
    · simp [hj, e]
theorem tab_set (m : Nat) (r : Rel) (a : Nat) (f : Nat → Bool) : (tab m r).set a ((bitsOf m f : Nat) : Int) = tab m (fun x => if x = a then f else r x) := by
  unfold tab
  rw [map_range_set]
  refine map_range_congr m _ _ fun i hi => ?_
  by_cases e : i = a <;> simp [e]
def upd (r : Rel) (a b : Nat) (v : Bool) : Rel := fun x y => if x = a ∧ y = b then v else r x y
theorem tab_or (m : Nat) (hm : m ≤ 12) (r : Rel) (a b : Nat) (ha : a < m) (hb : b < m) : (tab m r).set a (Go.bits .or .u16 (rd (tab m r) (a : Int)) (shl .u16 1 (b : Int))) = tab m (upd r a b true) := by
  rw [tab_at m r a ha, shl1 b (by omega), or16 _ _ (bitsOf_u16 m hm _) (pow_u16 b (by omega)), bitsOf_or m _ b hb, tab_set]
  refine tab_congr m _ _ fun x y hx hy => ?_
  by_cases e : x = a
  · subst e; simp [upd]
  · simp [upd, e]
theorem put_f (m : Nat) (hm : m ≤ 12) (r : Rel) (a b : Nat) (ha : a < m) (hb : b < m) : impl_table_put.f (tab m r) (a : Int) (b : Int) = some (tab m (upd (upd r a b true) b a true)) := by
  unfold impl_table_put.f
  rw [if_pos (by omega), tab_len, if_pos (by omega), if_pos (by omega), Int.toNat_natCast, Int.toNat_natCast, tab_or m hm r a b ha hb]
  simp only [Option.bind_some]
  rw [if_pos (by omega), tab_or m hm _ b a hb ha]
theorem tabP_put (n : Nat) (hn : n ≤ 12) (ps : List S80) (a b : Nat) (hab : a < b) (hb : b < n) : tabP n (ps ++ [⟨(a : Int), (b : Int)⟩]) = putM (tabP n ps) a b := by
  unfold putM tabP
  rw [put_f n hn _ a b (by omega) hb, Option.getD_some]
  refine tab_congr n _ _ fun x y hx hy => ?_
  unfold upd
  simp only [hasP, List.any_append, List.any_cons, List.any_nil, Bool.or_false]
  by_cases h1 : x = b ∧ y = a
  · rw [if_pos h1]; obtain ⟨rfl, rfl⟩ := h1; simp
  · rw [if_neg h1]
    by_cases h2 : x = a ∧ y = b
    · rw [if_pos h2]; obtain ⟨rfl, rfl⟩ := h2; simp
    · rw [if_neg h2]
      have : ((((a : Int) == (x : Int)) && ((b : Int) == (y : Int))) || (((a : Int) == (y : Int)) && ((b : Int) == (x : Int)))) = false := by
        rw [Bool.eq_false_iff]; intro h; simp only [Bool.or_eq_true, Bool.and_eq_true, beq_iff_eq] at h; omega
      rw [this, Bool.or_false]
theorem made_look (l : List Int) (h : isNums l = true) : madeL l = (lookL l).map (tabP l.length) := by
  obtain ⟨h1, h2⟩ := okL_nums l h
  have := mkl_dlk putM l.length (tabP l.length) (fun ps a b hab hb => tabP_put _ h2 ps a b hab hb) 100 l 0 1 [] h1 (by omega) (by omega) (by omega)
  rw [tabP_nil] at this
  exact this
/-! ### pairs listed -/
def rowFrom (r : Rel) (a : Nat) : Nat → Nat → List S80
  | _, 0 => []
  | b, d + 1 => (if r a b then [⟨(a : Int), (b : Int)⟩] else []) ++ rowFrom r a (b + 1) d
def pairsFrom (r : Rel) (m : Nat) : Nat → Nat → List S80
  | _, 0 => []
  | a, d + 1 => rowFrom r a (a + 1) (m - (a + 1)) ++ pairsFrom r m (a + 1) d
theorem rowFrom_len (r : Rel) (a : Nat) : ∀ (d b : Nat), (rowFrom r a b d).length ≤ d
  | 0, _ => Nat.le_refl _
  | d + 1, b => by
    have := rowFrom_len r a d (b + 1)
    rw [rowFrom, List.length_append]
    split <;> simp <;> omega
theorem pairsFrom_len (r : Rel) (m : Nat) (hm : m ≤ 12) : ∀ (d a : Nat), (pairsFrom r m a d).length ≤ 12 * d
  | 0, _ => Nat.le_refl _
  | d + 1, a => by
    have := pairsFrom_len r m hm d (a + 1)
    have := rowFrom_len r a (m - (a + 1)) (a + 1)
    rw [pairsFrom, List.length_append]; omega
def pairsOf (m : Nat) (r : Rel) : List S80 := pairsFrom r m 0 m
theorem pairsOf_len (m : Nat) (hm : m ≤ 12) (r : Rel) : (pairsOf m r).length ≤ 144 := by
  have := pairsFrom_len r m hm m 0
  unfold pairsOf; omega
theorem eq_of_sorted {α : Type} (lt : α → α → Bool) (hi : ∀ x, lt x x = false) (ht : ∀ {x y z}, lt x y = true → lt y z = true → lt x z = true) : ∀ (l1 l2 : List α), l1.Pairwise (fun x y => lt x y = true) → l2.Pairwise (fun x y => lt x y = true) → (∀ x, x ∈ l1 ↔ x ∈ l2) → l1 = l2
  | [], [], _, _, _ => rfl
  | [], y :: l2, _, _, h => by have := (h y).2 (List.mem_cons_self ..); cases this
  | x :: l1, [], _, _, h => by have := (h x).1 (List.mem_cons_self ..); cases this
  | x :: l1, y :: l2, h1, h2, h => by
    obtain ⟨h1a, h1b⟩ := List.pairwise_cons.1 h1
    obtain ⟨h2a, h2b⟩ := List.pairwise_cons.1 h2
    have asym : ∀ a b, lt a b = true → lt b a = true → False := fun a b p q => by
      have := ht p q
      rw [hi] at this; cases this
    have e : x = y := by
      rcases List.mem_cons.1 ((h x).1 (List.mem_cons_self ..)) with e | hx
      · exact e
      · rcases List.mem_cons.1 ((h y).2 (List.mem_cons_self ..)) with e | hy
        · exact e.symm
        · exact (asym x y (h1a y hy) (h2a x hx)).elim
    subst e
    congr 1
    refine eq_of_sorted lt hi ht l1 l2 h1b h2b fun z => ?_
    constructor
    · intro hz
      rcases List.mem_cons.1 ((h z).1 (List.mem_cons_of_mem _ hz)) with e | hz2
      · subst e
        have := h1a z hz
        rw [hi] at this; cases this
      · exact hz2
    · intro hz
      rcases List.mem_cons.1 ((h z).2 (List.mem_cons_of_mem _ hz)) with e | hz2
      · subst e
        have := h2a z hz
        rw [hi] at this; cases this
      · exact hz2

theorem hasP_mem (m : Nat) (l : List S80) (hn : natPairs m l) (a b : Nat) (hab : a < b) : hasP l a b = true ↔ (⟨(a : Int), (b : Int)⟩ : S80) ∈ l := by
  unfold hasP
  rw [List.any_eq_true]
  constructor
  · rintro ⟨x, hx, h⟩
    obtain ⟨i, j, rfl, hij, hj⟩ := hn x hx
    simp only [Bool.or_eq_true, Bool.and_eq_true, beq_iff_eq] at h
    rcases h with ⟨h1, h2⟩ | ⟨h1, h2⟩
    · have e1 : i = a := by omega
      have e2 : j = b := by omega
      subst e1 e2; exact hx
    · omega
  · intro h
    exact ⟨_, h, by simp⟩
theorem lt2_irrefl (p : S80) : lt2 p p = false := by unfold lt2; simp
theorem lt2_trans {p q x : S80} (h1 : lt2 p q = true) (h2 : lt2 q x = true) : lt2 p x = true := by
  unfold lt2 at *
  simp at *
  omega
theorem mem_rowFrom (r : Rel) (a : Nat) (p : S80) : ∀ (d b : Nat), p ∈ rowFrom r a b d ↔ ∃ y : Nat, b ≤ y ∧ y < b + d ∧ r a y = true ∧ p = ⟨(a : Int), (y : Int)⟩
  | 0, b => by simp only [rowFrom, List.not_mem_nil, false_iff]; rintro ⟨y, h1, h2, _⟩; omega
  | d + 1, b => by
    rw [rowFrom, List.mem_append, mem_rowFrom r a p d (b + 1)]
    constructor
    · rintro (h | ⟨y, h1, h2, h3, h4⟩)
      · split at h
        · next hr => rw [List.mem_singleton] at h; exact ⟨b, Nat.le_refl _, by omega, hr, h⟩
        · simp at h
      · exact ⟨y, by omega, by omega, h3, h4⟩
    · rintro ⟨y, h1, h2, h3, h4⟩
      by_cases e : y = b
      · subst e; left; rw [h3, if_pos rfl]; simp [h4]
      · right; exact ⟨y, by omega, by omega, h3, h4⟩
theorem mem_pairsFrom (r : Rel) (m : Nat) (p : S80) : ∀ (d a : Nat), p ∈ pairsFrom r m a d ↔ ∃ x y : Nat, a ≤ x ∧ x < a + d ∧ x < y ∧ y < m ∧ r x y = true ∧ p = ⟨(x : Int), (y : Int)⟩
  | 0, a => by simp only [pairsFrom, List.not_mem_nil, false_iff]; rintro ⟨x, y, h1, h2, _⟩; omega
  | d + 1, a => by
    rw [pairsFrom, List.mem_append, mem_rowFrom, mem_pairsFrom r m p d (a + 1)]
    constructor
    · rintro (⟨y, h1, h2, h3, h4⟩ | ⟨x, y, h1, h2, h3, h4, h5, h6⟩)
      · exact ⟨a, y, Nat.le_refl _, by omega, by omega, by omega, h3, h4⟩
      · exact ⟨x, y, by omega, by omega, h3, h4, h5, h6⟩
    · rintro ⟨x, y, h1, h2, h3, h4, h5, h6⟩
      by_cases e : x = a
      · subst e; left; exact ⟨y, by omega, by omega, h5, h6⟩
      · right; exact ⟨x, y, by omega, by omega, h3, h4, h5, h6⟩
theorem rowFrom_pair (r : Rel) (a : Nat) : ∀ (d b : Nat), (rowFrom r a b d).Pairwise (fun x y => lt2 x y = true)
  | 0, b => List.Pairwise.nil
  | d + 1, b => by
    have ih := rowFrom_pair r a d (b + 1)
    rw [rowFrom]
    split
    · refine List.pairwise_cons.2 ⟨fun y hy => ?_, ih⟩
      obtain ⟨z, h1, h2, _, rfl⟩ := (mem_rowFrom r a y d (b + 1)).1 hy
      unfold lt2
      simp only [Bool.or_eq_true, Bool.and_eq_true, decide_eq_true_eq]
      right
      exact ⟨trivial, by omega⟩
    · exact ih
theorem pairsFrom_pair (r : Rel) (m : Nat) : ∀ (d a : Nat), (pairsFrom r m a d).Pairwise (fun x y => lt2 x y = true)
  | 0, a => List.Pairwise.nil
  | d + 1, a => by
    rw [pairsFrom]
    refine List.pairwise_append.2 ⟨rowFrom_pair r a _ _, pairsFrom_pair r m d (a + 1), fun x hx y hy => ?_⟩
    obtain ⟨z, h1, h2, _, rfl⟩ := (mem_rowFrom r a x _ _).1 hx
    obtain ⟨u, v, h3, h4, h5, h6, _, rfl⟩ := (mem_pairsFrom r m y d (a + 1)).1 hy
    unfold lt2
    simp only [Bool.or_eq_true, Bool.and_eq_true, decide_eq_true_eq]
    left
    show (a : Int) < (u : Int)
    omega
theorem pairsOf_pair (m : Nat) (r : Rel) : (pairsOf m r).Pairwise (fun x y => lt2 x y = true) := pairsFrom_pair r m m 0
/-- A list in order, of pairs of people, is what its relation has. -/
theorem pairsOf_sorted (m : Nat) (l : List S80) (hn : natPairs m l) (hs : l.Pairwise (fun x y => lt2 x y = true)) : pairsOf m (hasP l) = l := by
  refine eq_of_sorted lt2 lt2_irrefl (fun h1 h2 => lt2_trans h1 h2) _ _ (pairsOf_pair m _) hs fun x => ?_
  unfold pairsOf
  rw [mem_pairsFrom]
  constructor
  · rintro ⟨a, b, _, _, h1, h2, h3, rfl⟩
    exact (hasP_mem m l hn a b h1).1 h3
  · intro hx
    obtain ⟨a, b, rfl, h1, h2⟩ := hn x hx
    exact ⟨a, b, by omega, by omega, h1, h2, (hasP_mem m l hn a b h1).2 hx, rfl⟩
theorem and16 (x y : Nat) (hx : x < 65536) (hy : y < 65536) : Go.bits .and .u16 (x : Int) (y : Int) = ((x &&& y : Nat) : Int) := (bits_nat .u16 16 (by decide) wraps_u16 x y hx hy).1
theorem has_f (m : Nat) (hm : m ≤ 12) (r : Rel) (a b : Nat) (ha : a < m) (hb : b < m) : impl_table_has.f (tab m r) (a : Int) (b : Int) = some (r a b) := by
  unfold impl_table_has.f
  rw [if_pos (by omega), if_pos (by rw [tab_len]; omega), if_pos (by omega), tab_at m r a ha]
  have hX := bitsOf_u16 m hm (r a)
  have hs : shr .u16 ((bitsOf m (r a) : Nat) : Int) (b : Int) = ((bitsOf m (r a) / 2 ^ b : Nat) : Int) := by
    unfold shr
    rw [Int.toNat_natCast, Nat.min_eq_left (show b ≤ IntKind.u16.bits from by show b ≤ 16; omega)]
    simp
  have hd : bitsOf m (r a) / 2 ^ b < 65536 := Nat.lt_of_le_of_lt (Nat.div_le_self _ _) hX
  have ht := testBit_bitsOf m (r a) b
  rw [Nat.testBit_eq_decide_div_mod_eq] at ht
  have e1 : Go.bits .and .u16 ((bitsOf m (r a) / 2 ^ b : Nat) : Int) 1 = ((bitsOf m (r a) / 2 ^ b % 2 : Nat) : Int) := by
    have := and16 (bitsOf m (r a) / 2 ^ b) 1 hd (by decide)
    rw [Nat.and_one_is_mod] at this
    exact this
  rw [hs, e1]
  simp only [hb, decide_true, Bool.true_and] at ht
  rw [← ht]
  congr 1
  by_cases h : bitsOf m (r a) / 2 ^ b % 2 = 1
  · simp [h]
  · have h0 : bitsOf m (r a) / 2 ^ b % 2 = 0 := by omega
    simp [h0]
theorem party_l1 (m : Nat) (hm : m ≤ 12) (r : Rel) (a : Nat) (ha : a < m) (n : Int) (R : Int × List S80) : ∀ (d b : Nat) (acc : List S80), b + d = m → acc.length ≤ 12 * a + b → Ev (fun k => impl_table_party.l0 k (tab m r) (m : Int) ((a + 1 : Nat) : Int) n (acc ++ rowFrom r a b d)) R → Ev (fun k => impl_table_party.l1 k (tab m r) (a : Int) (b : Int) (m : Int) (a : Int) n acc) R
  | 0, b, acc, hd, hacc, h => by
    refine Ev.step (fun k => ?_) h
    rw [impl_table_party.l1, tab_len, if_neg (by omega), w1 (by omega), rowFrom, List.append_nil]
  | d + 1, b, acc, hd, hacc, h => by
    have hb : b < m := by omega
    rw [rowFrom, ← List.append_assoc] at h
    cases hr : r a b with
    | true =>
      rw [hr, if_pos rfl] at h
      have ih := party_l1 m hm r a ha n R d (b + 1) (acc ++ [⟨(a : Int), (b : Int)⟩]) (by omega) (by simp; omega) h
      refine Ev.step (fun k => ?_) ih
      rw [impl_table_party.l1, tab_len, if_pos (by omega), has_f m hm r a b ha hb, hr]
      simp only [Option.bind_some, if_true]
      rw [if_pos (by omega), w1 (by omega)]
    | false =>
      rw [hr, if_neg (by decide), List.append_nil] at h
      have ih := party_l1 m hm r a ha n R d (b + 1) acc (by omega) (by omega) h
      refine Ev.step (fun k => ?_) ih
      rw [impl_table_party.l1, tab_len, if_pos (by omega), has_f m hm r a b ha hb, hr, w1 (by omega)]
      rfl
theorem party_l0 (m : Nat) (hm : m ≤ 12) (r : Rel) (n : Int) : ∀ (d a : Nat) (acc : List S80), a + d = m → acc.length ≤ 12 * a → Ev (fun k => impl_table_party.l0 k (tab m r) (m : Int) (a : Int) n acc) (n, acc ++ pairsFrom r m a d)
  | 0, a, acc, hd, hacc => by
    refine Ev.one (fun k => ?_)
    rw [impl_table_party.l0, if_neg (by omega), pairsFrom, List.append_nil]
  | d + 1, a, acc, hd, hacc => by
    have hl := rowFrom_len r a (m - (a + 1)) (a + 1)
    have ih := party_l0 m hm r n d (a + 1) (acc ++ rowFrom r a (a + 1) (m - (a + 1))) (by omega) (by rw [List.length_append]; omega)
    rw [List.append_assoc, ← pairsFrom] at ih
    have h := party_l1 m hm r a (by omega) n _ (m - (a + 1)) (a + 1) acc (by omega) (by omega) ih
    refine Ev.step (fun k => ?_) h
    rw [impl_table_party.l0, if_pos (by omega), w1 (by omega)]
theorem party_ev (m : Nat) (hm : m ≤ 12) (r : Rel) : Ev (fun k => impl_table_party.f k (tab m r)) ((m : Int), pairsOf m r) := by
  unfold impl_table_party.f
  rw [tab_len]
  exact party_l0 m hm r m m 0 [] (by omega) (by simp)

theorem FirstOfNumbers_common (l : List Int) (hl : l.length ≤ 1048576) : ∃ R : Int × List S80 × Bool, Ev (fun k => spec_FirstOfNumbers.f k l) R ∧ Ev (fun k => impl_FirstOfNumbers.f k l) R ∧ R.2.1.length ≤ 1048576 := by
  refine ⟨firstR l, ?_, ?_, ?_⟩
  · unfold spec_FirstOfNumbers.f firstR
    refine Ev.bind (deFew_ev l) ?_
    by_cases h : fewN l = true
    · rw [if_pos h, h]
      simp only [if_true]
      rw [deAll_f h]
      by_cases h2 : (lookL l).length = 0
      · rw [if_pos h2]
        simp only [Option.bind_some, if_pos (show (((lookL l).length : Nat) : Int) = 0 by omega)]
        exact Ev.now _
      · rw [if_neg h2]
        simp only [Option.bind_some, if_neg (show ¬ (((lookL l).length : Nat) : Int) = 0 by omega)]
        exact Ev.now _
    · rw [if_neg h, Bool.eq_false_iff.2 h]
      exact Ev.now _
  · unfold impl_FirstOfNumbers.f firstR
    rw [isFew_f l (by omega)]
    simp only [Option.bind_some]
    by_cases h : fewN l = true
    · obtain ⟨h1, h7⟩ := few_nums h
      simp only [if_pos h, if_pos h7, made_look l h1]
      cases hL : lookL l with
      | nil =>
        simp only [List.map_nil, firstM, Option.isNone_none, if_true, List.length_nil]
        exact Ev.now _
      | cons q L =>
        obtain ⟨h2, h3⟩ := look_sorted l q (by rw [hL]; exact List.mem_cons_self ..)
        simp only [List.map_cons, firstM, Option.isNone_some, Bool.false_eq_true, if_false, Option.getD_some, List.length_cons, Nat.succ_ne_zero, List.headD_cons]
        refine Ev.bind (party_ev l.length (by omega) (hasP q)) ?_
        rw [pairsOf_sorted l.length q h3 h2]
        exact Ev.now _
    · simp only [if_neg h]
      exact Ev.now _
  · unfold firstR
    by_cases h : fewN l = true
    · rw [if_pos h]
      by_cases h2 : (lookL l).length = 0
      · rw [if_pos h2]; exact Nat.zero_le _
      · rw [if_neg h2]
        cases hL : lookL l with
        | nil => exact Nat.zero_le _
        | cons q L =>
          obtain ⟨h4, h3⟩ := look_sorted l q (by rw [hL]; exact List.mem_cons_self ..)
          have h5 := pairsOf_len l.length (by have := (few_nums h).2; omega) (hasP q)
          rw [pairsOf_sorted l.length q h3 h4] at h5
          simp only [List.headD_cons]
          omega
    · rw [if_neg h]; exact Nat.zero_le _

theorem ext_getD {a b : List Int} (h : a.length = b.length) (hj : ∀ j, j < a.length → a.getD j 0 = b.getD j 0) : a = b := by
  apply List.ext_getElem h
  intro i h1 h2
  have := hj i h1
  simpa [List.getD_eq_getElem?_getD, h1, h2] using this
theorem eqIntS_l0 (a b : List Int) (h : a.length = b.length) (hl : a.length < 4611686018427387904) : ∀ (d i : Nat), i + d = a.length → (∀ j, j < i → a.getD j 0 = b.getD j 0) → Ev (fun k => laws_eqIntS.l0 k a b i) (decide (a = b))
  | 0, i, hd, hj => by
    refine Ev.one (fun k => ?_)
    have : a = b := ext_getD h (fun j hj' => hj j (by omega))
    rw [laws_eqIntS.l0, if_neg (by omega)]; simp [this]
  | d + 1, i, hd, hj => by
    by_cases e : a.getD i 0 = b.getD i 0
    · refine Ev.step (f := fun k => laws_eqIntS.l0 k a b ((i + 1 : Nat) : Int)) (fun k => ?_) (eqIntS_l0 a b h hl d (i + 1) (by omega) ?_)
      · rw [laws_eqIntS.l0, if_pos (by omega), if_pos (by omega), if_pos (by omega), if_pos (by exact e), w1 (by omega)]
      · intro j hj'
        by_cases e2 : j = i
        · rw [e2]; exact e
        · exact hj j (by omega)
    · refine Ev.one (fun k => ?_)
      have : a ≠ b := fun h => e (by rw [h])
      rw [laws_eqIntS.l0, if_pos (by omega), if_pos (by omega), if_pos (by omega), if_neg (by exact e)]; simp [this]
theorem eqIntS_ev (a b : List Int) (hl : a.length < 4611686018427387904) : Ev (fun k => laws_eqIntS.f k a b) (decide (a = b)) := by
  unfold laws_eqIntS.f
  by_cases h : a.length = b.length
  · simp only [if_pos (show (a.length : Int) = (b.length : Int) by omega)]
    exact eqIntS_l0 a b h hl a.length 0 (by omega) (fun j hj => absurd hj (Nat.not_lt_zero _))
  · simp only [if_neg (show ¬ (a.length : Int) = (b.length : Int) by omega)]
    have : a ≠ b := fun e => h (by rw [e])
    exact Ev.one (fun k => by simp [this])
theorem eqIntS_self (a : List Int) (hl : a.length < 4611686018427387904) : Ev (fun k => laws_eqIntS.f k a a) true := by
  have h := eqIntS_ev a a hl
  rwa [decide_eq_true rfl] at h
theorem eqPairS_l0 (l : List S80) (hl : l.length < 4611686018427387904) : ∀ (d i : Nat), i + d = l.length → Ev (fun k => laws_eqPairS.l0 k l l i) true
  | 0, i, hd => by
    refine Ev.one (fun k => ?_)
    rw [laws_eqPairS.l0, if_neg (by omega)]
  | d + 1, i, hd => by
    refine Ev.step (fun k => ?_) (eqPairS_l0 l hl d (i + 1) (by omega))
    rw [laws_eqPairS.l0, if_pos (by omega), if_pos (by omega), if_pos (by omega), laws_eqPair.f, if_pos rfl, if_pos rfl, w1 (by omega)]
    rfl
theorem eqParty_self (a : Int) (l : List S80) (hl : l.length < 4611686018427387904) : Ev (fun k => laws_eqParty.f k a l a l) true := by
  unfold laws_eqParty.f laws_eqPairS.f
  simp only [if_true]
  have h : Ev (fun k => laws_eqPairS.l0 k l l 0) true := by simpa using eqPairS_l0 l hl l.length 0 (by omega)
  refine Ev.bind h ?_
  simp only [if_true]
  exact Ev.now _

/-- The pairs bear the marks m, m+1, .. -/
def MarkedP (m : Int) (z : List S80) : Prop := ∀ j, j < z.length → z[j]? = some ⟨m + 2 * j, m + 2 * j + 1⟩
theorem getD_of_get {α : Type} (l : List α) (i : Nat) (d x : α) (h : l[i]? = some x) : l.getD i d = x := by rw [List.getD_eq_getElem?_getD, h]; rfl
theorem heldPairS_l0 (m : Int) (z : List S80) (h0 : 0 ≤ m) (hm : m + 2 * z.length < 4611686018427387904) (hz : MarkedP m z) : ∀ (d i : Nat), i + d = z.length → Ev (fun k => laws_heldPairS.l0 k z (m + 2 * i) i) (m + 2 * z.length)
  | 0, i, hd => by
    refine Ev.one (fun k => ?_)
    rw [laws_heldPairS.l0, if_neg (by omega), show i = z.length by omega]
  | d + 1, i, hd => by
    have hx : rd_T80 z (i : Int) = ⟨m + 2 * i, m + 2 * i + 1⟩ := getD_of_get z i _ _ (hz i (by omega))
    refine Ev.step (fun k => ?_) (heldPairS_l0 m z h0 hm hz d (i + 1) (by omega))
    rw [laws_heldPairS.l0, if_pos (by omega), if_pos (by omega), hx, if_pos rfl, w64 (i := m + 2 * (i : Int) + 1) (by omega) (by omega), if_pos rfl, w1 (by omega), w64 (by omega) (by omega), show m + 2 * (i : Int) + 1 + 1 = m + 2 * ((i + 1 : Nat) : Int) by omega]
theorem heldParty_ev (a : Int) (z : List S80) (m : Int) (h0 : 0 ≤ m) (hm : m + 2 * z.length < 4611686018427387904) (hz : MarkedP m z) : Ev (fun k => laws_heldParty.f k a z m) (m + 2 * z.length) := by
  unfold laws_heldParty.f laws_heldPairS.f
  have hE : Ev (fun k => laws_heldPairS.l0 k z m 0) (m + 2 * z.length) := by simpa using heldPairS_l0 m z h0 hm hz z.length 0 (by omega)
  refine Ev.bind hE ?_
  simp only [if_neg (show ¬ (m + 2 * (z.length : Int) < 0) by omega)]
  exact Ev.now _

/-- The list bears the marks m, m+1, .. -/
def Marked (m : Int) (z : List Int) : Prop := ∀ j, j < z.length → z.getD j 0 = m + j
theorem getD_set (l : List Int) (i j : Nat) (v : Int) (hi : i < l.length) : (l.set i v).getD j 0 = if i = j then v else l.getD j 0 := by
  rw [List.getD_eq_getElem?_getD, List.getElem?_set]
  by_cases h : i = j
  · subst h; simp [hi]
  · simp [h]
theorem markIntS_l0 (m : Int) (n : Nat) (h0 : 0 ≤ m) (hm : m + n < 4611686018427387904) : ∀ (d i : Nat) (y : List Int), i + d = n → y.length = n → (∀ j, j < i → y.getD j 0 = m + j) → ∃ z : List Int, z.length = n ∧ Marked m z ∧ Ev (fun k => laws_markIntS.l0 k y (m + i) i) (m + n, z)
  | 0, i, y, hd, hy, h => by
    refine ⟨y, hy, fun j hj => h j (by omega), Ev.one (fun k => ?_)⟩
    rw [laws_markIntS.l0, if_neg (by omega), show i = n by omega]
  | d + 1, i, y, hd, hy, h => by
    obtain ⟨z, hz, hj, hE⟩ := markIntS_l0 m n h0 hm d (i + 1) (y.set i (m + i)) (by omega) (by simpa using hy) (fun j hj => by
      rw [getD_set _ _ _ _ (by omega)]
      by_cases e : i = j
      · simp [e]
      · rw [if_neg e]; exact h j (by omega))
    refine ⟨z, hz, hj, Ev.step (fun k => ?_) hE⟩
    rw [laws_markIntS.l0, if_pos (by omega), if_pos (by omega), w1 (by omega), w64 (by omega) (by omega), show m + (i : Int) + 1 = m + ((i + 1 : Nat) : Int) by omega]
    rfl
theorem markIntS_ev (y : List Int) (m : Int) (h0 : 0 ≤ m) (hm : m + y.length < 4611686018427387904) : ∃ z : List Int, z.length = y.length ∧ Marked m z ∧ Ev (fun k => laws_markIntS.f k y m) (m + y.length, z) := by
  obtain ⟨z, hz, hj, hE⟩ := markIntS_l0 m y.length h0 hm y.length 0 y (by omega) rfl (fun j hj => absurd hj (Nat.not_lt_zero _))
  refine ⟨z, hz, hj, ?_⟩
  unfold laws_markIntS.f
  simpa using hE
theorem rdT_set (y : List S80) (i : Nat) (v : S80) (h : i < y.length) : rd_T80 (y.set i v) (i : Int) = v := getD_of_get _ i _ _ (by rw [List.getElem?_set]; simp [h])
theorem markPairS_l0 (m : Int) (n : Nat) (h0 : 0 ≤ m) (hm : m + 2 * n < 4611686018427387904) : ∀ (d i : Nat) (y : List S80), i + d = n → y.length = n → (∀ j, j < i → y[j]? = some ⟨m + 2 * j, m + 2 * j + 1⟩) → ∃ z : List S80, z.length = n ∧ MarkedP m z ∧ Ev (fun k => laws_markPairS.l0 k y (m + 2 * i) i) (m + 2 * n, z)
  | 0, i, y, hd, hy, h => by
    refine ⟨y, hy, fun j hj => h j (by omega), Ev.one (fun k => ?_)⟩
    rw [laws_markPairS.l0, if_neg (by omega), show i = n by omega]
  | d + 1, i, y, hd, hy, h => by
    have hi : i < y.length := by omega
    obtain ⟨z, hz, hj, hE⟩ := markPairS_l0 m n h0 hm d (i + 1) (y.set i ⟨m + 2 * i, m + 2 * i + 1⟩) (by omega) (by simpa using hy) (fun j hj => by
      rw [List.getElem?_set]
      by_cases e : i = j
      · subst e; simp [hi]
      · rw [if_neg e]; exact h j (by omega))
    refine ⟨z, hz, hj, Ev.step (fun k => ?_) hE⟩
    rw [laws_markPairS.l0, if_pos (by omega), if_pos (by omega)]
    simp only [Option.bind_some, Int.toNat_natCast]
    rw [rdT_set _ _ _ (by omega), List.set_set, w1 (by omega), w64 (i := m + 2 * (i : Int) + 1) (by omega) (by omega), w64 (by omega) (by omega), show m + 2 * (i : Int) + 1 + 1 = m + 2 * ((i + 1 : Nat) : Int) by omega]
theorem markParty_ev (a : Int) (y : List S80) (m : Int) (h0 : 0 ≤ m) (hm : m + 2 * y.length < 4611686018427387904) : ∃ z : List S80, z.length = y.length ∧ MarkedP m z ∧ Ev (fun k => laws_markParty.f k a y m) (m + 2 * y.length, z) := by
  obtain ⟨z, hz, hj, hE⟩ := markPairS_l0 m y.length h0 hm y.length 0 y (by omega) rfl (fun j hj => absurd hj (Nat.not_lt_zero _))
  refine ⟨z, hz, hj, ?_⟩
  unfold laws_markParty.f laws_markPairS.f
  have hE' : Ev (fun k => laws_markPairS.l0 k y m 0) (m + 2 * y.length, z) := by simpa using hE
  exact Ev.bind hE' (Ev.now _)
theorem toIntS_l0 (l : List Int) (hl : l.length < 4611686018427387904) : ∀ (d i : Nat) (y : List Int), i + d = l.length → y.length = l.length → (∀ j, j < i → y.getD j 0 = l.getD j 0) → Ev (fun k => laws_toIntS.l0 k l y i) l
  | 0, i, y, hd, hy, h => by
    refine Ev.one (fun k => ?_)
    rw [laws_toIntS.l0, if_neg (by omega), ext_getD hy (fun j hj => h j (by omega))]
  | d + 1, i, y, hd, hy, h => by
    refine Ev.step (f := fun k => laws_toIntS.l0 k l (y.set i (l.getD i 0)) ((i + 1 : Nat) : Int)) (fun k => ?_) (toIntS_l0 l hl d (i + 1) _ (by omega) (by simpa using hy) ?_)
    · rw [laws_toIntS.l0, if_pos (by omega), if_pos (by omega), if_pos (by omega), w1 (by omega)]; rfl
    · intro j hj
      rw [getD_set _ _ _ _ (by omega)]
      by_cases e : i = j
      · simp [e]
      · rw [if_neg e]; exact h j (by omega)
theorem toIntS_ev (l : List Int) (hl : l.length ≤ 35184372088832) : Ev (fun k => laws_toIntS.f k l) l := by
  unfold laws_toIntS.f
  simp only [if_pos (show (0 : Int) ≤ (l.length : Int) by omega), if_pos (show ((l.length : Int) : Int).toNat ≤ 35184372088832 by simpa using hl)]
  exact toIntS_l0 l (by omega) l.length 0 _ (by omega) (by simp) (fun j hj => absurd hj (Nat.not_lt_zero _))
theorem FnExactFirstOfNumbers : laws_FnExactFirstOfNumbers.Pure := by
  intro l0 hm0 hb0 hw0
  refine Ev.rounds ?_
  unfold laws_FnExactFirstOfNumbers.f
  by_cases hg0 : (l0.length : Int) > 1048576
  · simp only [if_pos hg0]; exact Ev.now _
  simp only [if_neg hg0]
  have hlen0 : l0.length ≤ 1048576 := by omega
  obtain ⟨R, hs, hi, hr0⟩ := FirstOfNumbers_common l0 (by omega)
  refine Ev.bind (toIntS_ev l0 (by omega)) ?_
  refine Ev.bind hs ?_
  try simp only [if_true, if_false, bne_self_eq_false, Bool.false_eq_true, ↓reduceIte, decide_true]
  refine Ev.bind (toIntS_ev l0 (by omega)) ?_
  refine Ev.bind hi ?_
  try simp only [if_true, if_false, bne_self_eq_false, Bool.false_eq_true, ↓reduceIte, decide_true]
  refine Ev.bind (eqParty_self R.1 R.2.1 (by omega)) ?_
  try simp only [if_true, if_false, bne_self_eq_false, Bool.false_eq_true, ↓reduceIte, decide_true]
  try simp only [if_true, if_false, bne_self_eq_false, Bool.false_eq_true, ↓reduceIte, decide_true]
  refine Ev.step (fun k => rfl) ?_
  simp only [laws_FnExactFirstOfNumbers.j0]
  try simp only [if_true, if_false, bne_self_eq_false, Bool.false_eq_true, ↓reduceIte, decide_true]
  refine Ev.bind (toIntS_ev l0 (by omega)) ?_
  refine Ev.bind (eqIntS_self l0 (by omega)) ?_
  try simp only [if_true, if_false, bne_self_eq_false, Bool.false_eq_true, ↓reduceIte, decide_true]
  obtain ⟨zk1, hzk1, _, hEk1⟩ := markIntS_ev l0 (1 : Int) (by omega) (by omega)
  refine Ev.bind hEk1 ?_
  try simp only [if_true, if_false, bne_self_eq_false, Bool.false_eq_true, ↓reduceIte, decide_true]
  simp only [if_neg (show ¬ (((1 : Int) + (l0.length : Int)) < 0) by omega)]
  refine Ev.bind (eqParty_self R.1 R.2.1 (by omega)) ?_
  try simp only [if_true, if_false, bne_self_eq_false, Bool.false_eq_true, ↓reduceIte, decide_true]
  try simp only [if_true, if_false, bne_self_eq_false, Bool.false_eq_true, ↓reduceIte, decide_true]
  refine Ev.step (fun k => rfl) ?_
  simp only [laws_FnExactFirstOfNumbers.j1]
  try simp only [if_true, if_false, bne_self_eq_false, Bool.false_eq_true, ↓reduceIte, decide_true]
  obtain ⟨zm, hzm, hmm, hEm⟩ := markParty_ev R.1 R.2.1 1 (by omega) (by omega)
  refine Ev.bind hEm ?_
  try simp only [if_true, if_false, bne_self_eq_false, Bool.false_eq_true, ↓reduceIte, decide_true]
  refine Ev.bind (heldParty_ev R.1 zm 1 (by omega) (by omega) hmm) ?_
  simp only [hzm, if_neg (show ¬ ((1 + 2 * (R.2.1.length : Int)) < 0) by omega), if_true]
  refine Ev.bind (toIntS_ev l0 (by omega)) ?_
  refine Ev.bind hi ?_
  try simp only [if_true, if_false, bne_self_eq_false, Bool.false_eq_true, ↓reduceIte, decide_true]
  refine Ev.bind (eqParty_self R.1 R.2.1 (by omega)) ?_
  try simp only [if_true, if_false, bne_self_eq_false, Bool.false_eq_true, ↓reduceIte, decide_true]
  try simp only [if_true, if_false, bne_self_eq_false, Bool.false_eq_true, ↓reduceIte, decide_true]
  refine Ev.step (fun k => rfl) ?_
  simp only [laws_FnExactFirstOfNumbers.j2]
  try simp only [if_true, if_false, bne_self_eq_false, Bool.false_eq_true, ↓reduceIte, decide_true]
  refine Ev.bind (heldParty_ev R.1 zm 1 (by omega) (by omega) hmm) ?_
  simp only [hzm, if_neg (show ¬ ((1 + 2 * (R.2.1.length : Int)) < 0) by omega), if_true]
  exact Ev.now _
end Go.Proofs.Ytjipjcdeoajnjaa.Pure
