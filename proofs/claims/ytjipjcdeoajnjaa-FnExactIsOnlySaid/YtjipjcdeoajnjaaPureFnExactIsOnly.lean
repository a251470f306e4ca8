/- The program's IsOnly returns what the reference's returns, for all arguments (the plain statement behind the printed walk); no condition. -/
import Derived.Test.YtjipjcdeoajnjaaPx0
import Derived.Test.YtjipjcdeoajnjaaPx1
import Derived.Test.YtjipjcdeoajnjaaPx2
import Derived.Test.YtjipjcdeoajnjaaPx4
import Derived.Test.YtjipjcdeoajnjaaPx5
namespace Go.Proofs.Ytjipjcdeoajnjaa.Pure
open Go.RowKit Go.Proofs.Ytjipjcdeoajnjaa.P Go.Proofs.YtjipjcdeoajnjaaW.PrintWords Go.Proofs.YtjipjcdeoajnjaaW.PrintLast
set_option linter.unusedSimpArgs false
set_option linter.unusedVariables false
def inAll (l : List Int) (lo hi : Int) : Bool := l.all fun n => decide (lo ≤ n) && decide (n ≤ hi)
def isNums (l : List Int) : Bool := decide (l.length ≤ 12) && inAll l 0 ((l.length : Int) - 1)
def fewN (l : List Int) : Bool := isNums l && decide (l.length ≤ 7)
def countR (l : List Int) : Int × Bool := if fewN l = true then (((lookL l).length : Int), true) else (0, false)
theorem few_nums {l : List Int} (h : fewN l = true) : isNums l = true ∧ l.length ≤ 7 := by
  unfold fewN at h
  simp only [Bool.and_eq_true, decide_eq_true_eq] at h
  exact h
def tri : Nat → Nat
  | 0 => 0
  | k + 1 => tri k + k
theorem dlk_len (n : Nat) : ∀ (d : Nat) (l : List Int) (a b : Nat) (ps : List S80), a < b → (b ≤ n ∨ n ≤ a + 1) → (a + 1 ≤ n ∨ n = 0) → (dlk n d l a b ps).length ≤ 2 ^ ((n - b) + tri (n - 1 - a))
  | 0, _, _, _, _, _, _, _ => by rw [dlk]; exact Nat.zero_le _
  | d + 1, l, a, b, ps, hab, hb, ha => by
    have hp : 1 ≤ 2 ^ ((n - b) + tri (n - 1 - a)) := Nat.one_le_two_pow
    rw [dlk]
    split
    · split
      · simpa using hp
      · exact Nat.zero_le _
    · next e1 =>
      split
      · next e2 =>
        subst e2
        split
        · have := dlk_len b d l (a + 1) (a + 2) ps (by omega) (by omega) (by omega)
          have e : b - (a + 2) + tri (b - 1 - (a + 1)) = b - b + tri (b - 1 - a) := by
            obtain ⟨k, hk⟩ : ∃ k, b - 1 - a = k + 1 := ⟨b - 1 - a - 1, by omega⟩
            rw [hk, tri, show b - 1 - (a + 1) = k by omega]
            omega
          rw [e] at this
          exact this
        · exact Nat.zero_le _
      · next e2 =>
        have h1 := dlk_len n d l a (b + 1) ps (by omega) (by omega) ha
        have h2 := dlk_len n d (dec2 l a b) a (b + 1) (ps ++ [⟨(a : Int), (b : Int)⟩]) (by omega) (by omega) ha
        have e : 2 ^ (n - b + tri (n - 1 - a)) = 2 ^ (n - (b + 1) + tri (n - 1 - a)) + 2 ^ (n - (b + 1) + tri (n - 1 - a)) := by
          rw [show n - b + tri (n - 1 - a) = (n - (b + 1) + tri (n - 1 - a)) + 1 by omega, Nat.pow_succ]
          omega
        rw [List.length_append, e]
        split
        · omega
        · simp; omega
theorem look_few (l : List Int) (h : l.length ≤ 7) : (lookL l).length ≤ 1000000000 := by
  have := dlk_len l.length 100 l 0 1 [] (by omega) (by omega) (by omega)
  have h2 : 2 ^ (l.length - 1 + tri (l.length - 1 - 0)) ≤ 2 ^ 21 := by
    refine Nat.pow_le_pow_right (by decide) ?_
    have : ∀ m : Fin 8, m.val - 1 + tri (m.val - 1 - 0) ≤ 21 := by decide
    exact this ⟨l.length, by omega⟩
  unfold lookL
  omega
theorem deAll_f {l : List Int} (h : fewN l = true) : spec_deAll.f l = some (((lookL l).length : Int), (lookL l).headD []) := by
  unfold spec_deAll.f
  rw [if_pos ⟨(few_nums h).2, look_few l (few_nums h).2⟩]
theorem Ev.cast {α : Type} {g : Nat → Option α} {a b : α} (h : Ev g a) (e : a = b) : Ev g b := e ▸ h
theorem Ev.one {α : Type} {g : Nat → Option α} {r : α} (h : ∀ k, g (k + 1) = some r) : Ev g r := Ev.step h (Ev.now r)
theorem getD_get (l : List Int) (i : Nat) (h : i < l.length) : l.getD i 0 = l[i] := by simp [List.getD_eq_getElem?_getD, h]
theorem l1In_f (a lo hi : Int) : spec_l1In.f a lo hi = some (decide (lo ≤ a) && decide (a ≤ hi)) := by
  unfold spec_l1In.f
  by_cases h : lo ≤ a
  · rw [if_pos h]; simp [h]
  · rw [if_neg h]; simp [h]
theorem w1 {n : Nat} (h : n < 4611686018427387904) : wrap64 ((n : Int) + 1) = ((n + 1 : Nat) : Int) := by unfold wrap64; omega
theorem l1All_l0 (l : List Int) (lo hi : Int) (hl : l.length < 4611686018427387904) : ∀ (d i : Nat), i + d = l.length → Ev (fun k => spec_l1All.l0 k lo hi l (l.length : Int) i) (inAll (l.drop i) lo hi)
  | 0, i, hd => by
    refine Ev.one (fun k => ?_)
    rw [spec_l1All.l0, if_neg (by omega), List.drop_of_length_le (by omega)]; rfl
  | d + 1, i, hd => by
    have hi' : i < l.length := by omega
    have e : rd l (i : Int) = l[i] := getD_get l i hi'
    have eD : inAll (l.drop i) lo hi = ((decide (lo ≤ l[i]) && decide (l[i] ≤ hi)) && inAll (l.drop (i + 1)) lo hi) := by
      rw [List.drop_eq_getElem_cons hi']; rfl
    rw [eD]
    cases hb : (decide (lo ≤ l[i]) && decide (l[i] ≤ hi)) with
    | false =>
      refine Ev.one (fun k => ?_)
      rw [spec_l1All.l0, if_pos (by omega), if_pos (by omega), if_pos (by omega), l1In_f, e, hb]; rfl
    | true =>
      refine Ev.step (fun k => ?_) (l1All_l0 l lo hi hl d (i + 1) (by omega))
      rw [spec_l1All.l0, if_pos (by omega), if_pos (by omega), if_pos (by omega), l1In_f, e, hb, w1 (by omega)]; rfl
theorem l1All_ev (l : List Int) (lo hi : Int) (hl : l.length < 4611686018427387904) : Ev (fun k => spec_l1All.f k l lo hi) (inAll l lo hi) := by
  unfold spec_l1All.f
  simpa using l1All_l0 l lo hi hl l.length 0 (by omega)
theorem w64 {i : Int} (h0 : -9223372036854775808 ≤ i) (h : i ≤ 9223372036854775807) : wrap64 i = i := by unfold wrap64; omega
theorem deGood_ev (l : List Int) : Ev (fun k => spec_deGood.f k l) (isNums l) := by
  unfold spec_deGood.f isNums
  by_cases h : l.length ≤ 12
  · simp only [if_pos (show (l.length : Int) ≤ 12 by omega), h, decide_true, Bool.true_and, w64 (i := (l.length : Int) - 1) (by omega) (by omega)]
    exact Ev.bind (l1All_ev l 0 _ (by omega)) (Ev.now _)
  · simp only [if_neg (show ¬ (l.length : Int) ≤ 12 by omega), h, decide_false, Bool.false_and]
    exact Ev.now _
theorem deFew_ev (l : List Int) : Ev (fun k => spec_deFew.f k l) (fewN l) := by
  unfold spec_deFew.f fewN
  refine Ev.bind (deGood_ev l) ?_
  cases isNums l with
  | false => exact Ev.now false
  | true =>
    rw [Bool.true_and]
    simp only [if_true]
    exact Ev.cast (Ev.now _) (by rw [decide_eq_decide]; omega)
theorem dec2_len (l : List Int) (a b : Nat) : (dec2 l a b).length = l.length := by simp [dec2]
def okL (n : Nat) (l : List Int) : Prop := l.length = n ∧ ∀ i : Nat, i < n → 0 ≤ rd l (i : Int) ∧ rd l (i : Int) ≤ 100
theorem rd_set (l : List Int) (i j : Nat) (v : Int) : rd (l.set i v) (j : Int) = if i = j ∧ i < l.length then v else rd l (j : Int) := by
  unfold rd
  rw [Int.toNat_natCast, List.getD_eq_getElem?_getD, List.getD_eq_getElem?_getD, List.getElem?_set]
  by_cases h : i = j
  · subst h
    by_cases h2 : i < l.length
    · simp [h2]
    · simp [h2, List.getElem?_eq_none (Nat.not_lt.1 h2)]
  · simp [h]
theorem wrap_sm (x : Int) (h0 : -1000 ≤ x) (h1 : x ≤ 1000000) : wrap64 x = x := by unfold wrap64; omega
theorem dec2_rd (n : Nat) (l : List Int) (h : okL n l) (a b : Nat) (hab : a < b) (hb : b < n) (i : Nat) : rd (dec2 l a b) (i : Int) = if i = b then rd l (b : Int) - 1 else if i = a then rd l (a : Int) - 1 else rd l (i : Int) := by
  obtain ⟨hl, hr⟩ := h
  have h1 := hr a (by omega)
  have h2 := hr b hb
  have e : rd (l.set a (wrap64 (rd l (a : Int) - 1))) (b : Int) = rd l (b : Int) := by rw [rd_set, if_neg (by omega)]
  unfold dec2
  rw [rd_set, e, wrap_sm _ (by omega) (by omega), wrap_sm _ (by omega) (by omega), List.length_set, rd_set]
  by_cases c1 : i = b
  · rw [if_pos c1, if_pos ⟨c1.symm, by omega⟩]
  · rw [if_neg c1, if_neg (fun h => c1 h.1.symm)]
    by_cases c2 : i = a
    · rw [if_pos c2, if_pos ⟨c2.symm, by omega⟩]
    · rw [if_neg c2, if_neg (fun h => c2 h.1.symm)]
theorem dec2_ok (n : Nat) (l : List Int) (h : okL n l) (a b : Nat) (hab : a < b) (hb : b < n) (h1 : 0 < rd l (a : Int)) (h2 : 0 < rd l (b : Int)) : okL n (dec2 l a b) := by
  refine ⟨by rw [dec2_len]; exact h.1, fun i hi => ?_⟩
  rw [dec2_rd n l h a b hab hb]
  have := h.2 i hi
  have := h.2 a (by omega)
  have := h.2 b hb
  split
  · omega
  · split
    · omega
    · omega
theorem dlk_none (n : Nat) : ∀ (d : Nat) (l : List Int) (a b : Nat) (ps : List S80), okL n l → a < b → b ≤ n → a + 1 < n → rd l (a : Int) > (n : Int) - (b : Int) → dlk n d l a b ps = []
  | 0, _, _, _, _, _, _, _, _, _ => rfl
  | d + 1, l, a, b, ps, h, hab, hb, ha, hp => by
    rw [dlk, if_neg (by omega)]
    by_cases e : b = n
    · rw [if_pos e, if_neg (by omega)]
    · rw [if_neg e, dlk_none n d l a (b + 1) ps h (by omega) (by omega) ha (by omega), List.append_nil]
      split
      · next hc =>
        refine dlk_none n d _ a (b + 1) _ (dec2_ok n l h a b hab (by omega) hc.1 hc.2) (by omega) (by omega) ha ?_
        rw [dec2_rd n l h a b hab (by omega), if_neg (by omega), if_pos rfl]
        omega
      · rfl
theorem mkl_dlk (put : List Int → Nat → Nat → List Int) (n : Nat) (T : List S80 → List Int) (hT : ∀ (ps : List S80) (a b : Nat), a < b → b < n → T (ps ++ [⟨(a : Int), (b : Int)⟩]) = put (T ps) a b) : ∀ (d : Nat) (l : List Int) (a b : Nat) (ps : List S80), okL n l → a < b → (b ≤ n ∨ n ≤ a + 1) → (a + 1 ≤ n ∨ n = 0) → mkl put n d (T ps) l a b = (dlk n d l a b ps).map T
  | 0, _, _, _, _, _, _, _, _ => rfl
  | d + 1, l, a, b, ps, h, hab, hb, ha => by
    rw [mkl, dlk]
    by_cases e1 : a + 1 = n ∨ n = 0
    · rw [if_pos e1, if_pos (by omega)]
      by_cases e2 : n = 0 ∨ rd l (a : Int) = 0
      · rw [if_pos e2, if_neg]
        · rfl
        · rintro ⟨h1, h2⟩
          have : ((n : Int) - 1) = (a : Int) := by omega
          rw [this] at h2
          omega
      · rw [if_neg e2, if_pos]
        · rfl
        · refine ⟨by omega, ?_⟩
          have : ((n : Int) - 1) = (a : Int) := by omega
          rw [this]
          omega
    · rw [if_neg e1, if_neg (by omega)]
      by_cases e2 : b = n
      · rw [if_pos e2, if_pos e2]
        by_cases e3 : rd l (a : Int) = 0
        · rw [if_neg (by omega), if_pos e3]
          exact mkl_dlk put n T hT d l (a + 1) (a + 2) ps h (by omega) (by omega) (by omega)
        · rw [if_pos e3, if_neg e3]; rfl
      · rw [if_neg e2, if_neg e2]
        by_cases e3 : rd l (a : Int) > (n : Int) - (b : Int)
        · have := dlk_none n (d + 1) l a b ps h hab (by omega) (by omega) e3
          rw [dlk, if_neg e1, if_neg e2] at this
          rw [if_pos e3, this]; rfl
        · rw [if_neg e3, List.map_append, mkl_dlk put n T hT d l a (b + 1) ps h (by omega) (by omega) ha]
          congr 1
          by_cases e4 : 0 < rd l (a : Int) ∧ 0 < rd l (b : Int)
          · rw [if_pos e4, if_pos e4, ← hT ps a b hab (by omega)]
            exact mkl_dlk put n T hT d _ a (b + 1) _ (dec2_ok n l h a b hab (by omega) e4.1 e4.2) (by omega) (by omega) ha
          · rw [if_neg e4, if_neg e4]; rfl
theorem okL_nums (l : List Int) (h : isNums l = true) : okL l.length l ∧ l.length ≤ 12 := by
  unfold isNums inAll at h
  simp only [Bool.and_eq_true, decide_eq_true_eq, List.all_eq_true] at h
  refine ⟨⟨rfl, fun i hi => ?_⟩, h.1⟩
  have h2 := h.2 _ (List.getElem_mem hi)
  have h3 : rd l (i : Int) = l[i] := by unfold rd; rw [Int.toNat_natCast]; exact getD_get l i hi
  rw [h3]
  omega
abbrev Rel := Nat → Nat → Bool
def hasP (l : List S80) : Rel := fun a b => l.any fun x => (x.f0 == (a : Int) && x.f1 == (b : Int)) || (x.f0 == (b : Int) && x.f1 == (a : Int))
/-! ### tables of bits -/
def bitsOf : Nat → (Nat → Bool) → Nat
  | 0, _ => 0
  | m + 1, f => bitsOf m f + (f m).toNat * 2 ^ m
def tab (m : Nat) (r : Rel) : List Int := (List.range m).map fun a => ((bitsOf m (r a) : Nat) : Int)
def tabP (n : Nat) (ps : List S80) : List Int := tab n (hasP ps)
theorem bitsOf_lt : ∀ (m : Nat) (f : Nat → Bool), bitsOf m f < 2 ^ m
  | 0, _ => by simp [bitsOf]
  | m + 1, f => by
    have := bitsOf_lt m f
    have h2 : (f m).toNat * 2 ^ m ≤ 2 ^ m := by cases f m <;> simp
    rw [bitsOf, Nat.pow_succ]; omega
theorem testBit_bitsOf : ∀ (m : Nat) (f : Nat → Bool) (i : Nat), (bitsOf m f).testBit i = (decide (i < m) && f i)
  | 0, f, i => by simp [bitsOf]
  | m + 1, f, i => by
    have ih := testBit_bitsOf m f
    by_cases hi : i < m
    · have h1 : i < m + 1 := by omega
      cases hf : f m with
      | false => simp [bitsOf, hf, ih i, hi, h1]
      | true => rw [bitsOf, hf, Bool.toNat_true, Nat.one_mul, Nat.add_comm, Nat.testBit_two_pow_add_gt hi, ih i]; simp [hi, h1]
    · by_cases e : i = m
      · subst e
        cases hf : f i with
        | false => simp [bitsOf, hf, ih i]
        | true => rw [bitsOf, hf, Bool.toNat_true, Nat.one_mul, Nat.add_comm, Nat.testBit_two_pow_add_eq, ih i]; simp
      · have h1 : ¬ i < m + 1 := by omega
        rw [Nat.testBit_lt_two_pow (Nat.lt_of_lt_of_le (bitsOf_lt (m + 1) f) (Nat.pow_le_pow_right (by decide) (by omega)))]
        simp [h1]
theorem bitsOf_congr (m : Nat) (f g : Nat → Bool) (h : ∀ i, i < m → f i = g i) : bitsOf m f = bitsOf m g := by
  apply Nat.eq_of_testBit_eq
  intro i
  rw [testBit_bitsOf, testBit_bitsOf]
  by_cases hi : i < m
  · simp [hi, h i hi]
  · simp [hi]
theorem map_range_congr {α : Type} (m : Nat) (f g : Nat → α) (h : ∀ a, a < m → f a = g a) : (List.range m).map f = (List.range m).map g := List.map_congr_left fun a ha => h a (List.mem_range.1 ha)
theorem tab_congr (m : Nat) (r s : Rel) (h : ∀ a b, a < m → b < m → r a b = s a b) : tab m r = tab m s := map_range_congr m _ _ fun a ha => by rw [bitsOf_congr m _ _ fun b hb => h a b ha hb]
theorem map_range_const {α : Type} (c : α) : ∀ m : Nat, (List.range m).map (fun _ => c) = List.replicate m c
  | 0 => rfl
  | m + 1 => by rw [List.range_succ, List.map_append, map_range_const c m, List.replicate_succ']; rfl
theorem tab_false (m : Nat) : tab m (fun _ _ => false) = List.replicate m 0 := by
  unfold tab
  rw [← map_range_const (0 : Int) m]
  refine map_range_congr m _ _ fun i hi => ?_
  have : bitsOf m (fun _ => false) = 0 := by
    apply Nat.eq_of_testBit_eq
    intro i
    rw [testBit_bitsOf]; simp
  rw [this]; rfl
theorem tabP_nil (n : Nat) : tabP n [] = List.replicate n 0 := by
  rw [← tab_false n]
  exact tab_congr n _ _ fun _ _ _ _ => rfl
theorem tab_len (m : Nat) (r : Rel) : (tab m r).length = m := by simp [tab]
theorem bitsOf_or (m : Nat) (f : Nat → Bool) (b : Nat) (hb : b < m) : bitsOf m f ||| 2 ^ b = bitsOf m fun j => if j = b then true else f j := by
  apply Nat.eq_of_testBit_eq
  intro i
  rw [Nat.testBit_or, testBit_bitsOf, testBit_bitsOf, Nat.testBit_two_pow]
  by_cases e : i = b
  · subst e; simp [hb]
  · have e' : ¬ b = i := fun h => e h.symm
    simp [e, e']
theorem bitsOf_u16 (m : Nat) (hm : m ≤ 12) (f : Nat → Bool) : bitsOf m f < 65536 :=
  Nat.lt_of_lt_of_le (bitsOf_lt m f) (Nat.le_trans (Nat.pow_le_pow_right (by decide) hm) (by decide))
theorem wraps_u16 (n : Int) (h0 : 0 ≤ n) (h1 : n < 2 ^ 16) : IntKind.u16.wrap n = n := by
  simp [IntKind.wrap, IntKind.bits, IntKind.signed]; omega
theorem or16 (x y : Nat) (hx : x < 65536) (hy : y < 65536) : Go.bits .or .u16 (x : Int) (y : Int) = ((x ||| y : Nat) : Int) := (bits_nat .u16 16 (by decide) wraps_u16 x y hx hy).2
theorem pow_u16 (b : Nat) (h : b ≤ 12) : 2 ^ b < 65536 := Nat.lt_of_le_of_lt (Nat.pow_le_pow_right (by decide) h) (by decide)
theorem shl1 (b : Nat) (h : b ≤ 12) : shl .u16 1 (b : Int) = ((2 ^ b : Nat) : Int) := by
  have : b = 0 ∨ b = 1 ∨ b = 2 ∨ b = 3 ∨ b = 4 ∨ b = 5 ∨ b = 6 ∨ b = 7 ∨ b = 8 ∨ b = 9 ∨ b = 10 ∨ b = 11 ∨ b = 12 := by omega
  rcases this with rfl | rfl | rfl | rfl | rfl | rfl | rfl | rfl | rfl | rfl | rfl | rfl | rfl <;> decide
theorem map_range_getD {α : Type} (m : Nat) (f : Nat → α) (d : α) (a : Nat) (h : a < m) : ((List.range m).map f).getD a d = f a := by simp [List.getD_eq_getElem?_getD, h]
theorem tab_at (m : Nat) (r : Rel) (a : Nat) (h : a < m) : rd (tab m r) (a : Int) = ((bitsOf m (r a) : Nat) : Int) := map_range_getD m _ _ a h
theorem map_range_set {α : Type} (m : Nat) (f : Nat → α) (a : Nat) (v : α) : ((List.range m).map f).set a v = (List.range m).map fun i => if i = a then v else f i := by
  apply List.ext_getElem?
  intro j
  rw [List.getElem?_set]
  by_cases hj : j < m
  · by_cases e : a = j
    · subst e; simp [hj]
    · have e' : ¬ j = a := fun h => e h.symm
      simp [hj, e, e']
  · by_cases e : a = j
    · subst e; simp [hj]
    · simp [hj, e]
theorem tab_set (m : Nat) (r : Rel) (a : Nat) (f : Nat → Bool) : (tab m r).set a ((bitsOf m f : Nat) : Int) = tab m (fun x => if x = a then f else r x) := by
  unfold tab
  rw [map_range_set]
  refine map_range_congr m _ _ fun i hi => ?_
  by_cases e : i = a <;> simp [e]
def upd (r : Rel) (a b : Nat) (v : Bool) : Rel := fun x y => if x = a ∧ y = b then v else r x y
theorem tab_or (m : Nat) (hm : m ≤ 12) (r : Rel) (a b : Nat) (ha : a < m) (hb : b < m) : (tab m r).set a (Go.bits .or .u16 (rd (tab m r) (a : Int)) (shl .u16 1 (b : Int))) = tab m (upd r a b true) := by
  rw [tab_at m r a ha, shl1 b (by omega), or16 _ _ (bitsOf_u16 m hm _) (pow_u16 b (by omega)), bitsOf_or m _ b hb, tab_set]
  refine tab_congr m _ _ fun x y hx hy => ?_
  by_cases e : x = a
  · subst e; simp [upd]
  · simp [upd, e]
theorem put_f (m : Nat) (hm : m ≤ 12) (r : Rel) (a b : Nat) (ha : a < m) (hb : b < m) : impl_table_put.f (tab m r) (a : Int) (b : Int) = some (tab m (upd (upd r a b true) b a true)) := by
  unfold impl_table_put.f
  rw [if_pos (by omega), tab_len, if_pos (by omega), if_pos (by omega), Int.toNat_natCast, Int.toNat_natCast, tab_or m hm r a b ha hb]
  simp only [Option.bind_some]
  rw [if_pos (by omega), tab_or m hm _ b a hb ha]
theorem tabP_put (n : Nat) (hn : n ≤ 12) (ps : List S80) (a b : Nat) (hab : a < b) (hb : b < n) : tabP n (ps ++ [⟨(a : Int), (b : Int)⟩]) = putM (tabP n ps) a b := by
  unfold putM tabP
  rw [put_f n hn _ a b (by omega) hb, Option.getD_some]
  refine tab_congr n _ _ fun x y hx hy => ?_
  unfold upd
  simp only [hasP, List.any_append, List.any_cons, List.any_nil, Bool.or_false]
  by_cases h1 : x = b ∧ y = a
  · rw [if_pos h1]; obtain ⟨rfl, rfl⟩ := h1; simp
  · rw [if_neg h1]
    by_cases h2 : x = a ∧ y = b
    · rw [if_pos h2]; obtain ⟨rfl, rfl⟩ := h2; simp
    · rw [if_neg h2]
      have : ((((a : Int) == (x : Int)) && ((b : Int) == (y : Int))) || (((a : Int) == (y : Int)) && ((b : Int) == (x : Int)))) = false := by
        rw [Bool.eq_false_iff]; intro h; simp only [Bool.or_eq_true, Bool.and_eq_true, beq_iff_eq] at h; omega
      rw [this, Bool.or_false]
theorem made_look (l : List Int) (h : isNums l = true) : madeL l = (lookL l).map (tabP l.length) := by
  obtain ⟨h1, h2⟩ := okL_nums l h
  have := mkl_dlk putM l.length (tabP l.length) (fun ps a b hab hb => tabP_put _ h2 ps a b hab hb) 100 l 0 1 [] h1 (by omega) (by omega) (by omega)
  rw [tabP_nil] at this
  exact this
theorem countOf_f {l : List Int} (h : fewN l = true) : impl_countOf.f l = some ((lookL l).length : Int) := by
  have e : (madeL l).length = (lookL l).length := by rw [made_look l (few_nums h).1, List.length_map]
  unfold impl_countOf.f
  rw [e, if_pos ⟨(few_nums h).2, look_few l (few_nums h).2⟩]
theorem areWithin_f (l : List Int) (lo hi : Int) : impl_areWithin.f l lo hi = some (inAll l lo hi) := rfl

theorem within_f (a lo hi : Int) : impl_within.f a lo hi = some (decide (lo ≤ a) && decide (a ≤ hi)) := by
  unfold impl_within.f
  by_cases h : lo ≤ a
  · rw [if_pos h]; simp [h]
  · rw [if_neg h]; simp [h]
theorem isNumbers_f (l : List Int) (hl : l.length < 4611686018427387904) : impl_IsNumbers.f l = some (isNums l) := by
  unfold impl_IsNumbers.f impl_areCrowd.f isNums
  rw [within_f]
  by_cases h : l.length ≤ 12
  · have e : (decide (0 ≤ (l.length : Int)) && decide ((l.length : Int) ≤ 12)) = true := by simp; omega
    rw [e]
    simp only [Option.bind_some, if_true, h, decide_true, Bool.true_and]
    rw [w64 (by omega) (by omega), areWithin_f]; rfl
  · have e : (decide (0 ≤ (l.length : Int)) && decide ((l.length : Int) ≤ 12)) = false := by simp; omega
    rw [e]
    simp [h]

theorem isFew_f (l : List Int) (hl : l.length < 4611686018427387904) : impl_isFew.f l = some (fewN l) := by
  unfold impl_isFew.f fewN
  rw [isNumbers_f l hl, Option.bind_some]
  cases isNums l with
  | false => rfl
  | true =>
    rw [Bool.true_and]
    simp only [if_true]
    congr 1
    rw [decide_eq_decide]
    omega
theorem implCount_f (l : List Int) (hl : l.length < 4611686018427387904) : impl_CountOfNumbers.f l = some (countR l) := by
  unfold impl_CountOfNumbers.f countR
  rw [isFew_f l hl, Option.bind_some]
  by_cases h : fewN l = true
  · rw [if_pos h, if_pos h, countOf_f h]; rfl
  · rw [if_neg h, if_neg h]
theorem IsOnly_common (l : List Int) (hl : l.length ≤ 1048576) : ∃ R : Bool × Bool, Ev (fun k => spec_IsOnly.f k l) R ∧ Ev (fun _ => impl_IsOnly.f l) R := by
  refine ⟨((countR l).1 == 1, (countR l).2), ?_, ?_⟩
  · unfold spec_IsOnly.f countR
    refine Ev.bind (deFew_ev l) ?_
    by_cases h : fewN l = true
    · rw [if_pos h, h]
      simp only [if_true]
      rw [deAll_f h]
      exact Ev.now _
    · rw [if_neg h, Bool.eq_false_iff.2 h]
      exact Ev.now _
  · unfold impl_IsOnly.f
    rw [implCount_f l (by omega), Option.bind_some]
    exact Ev.now _

theorem ext_getD {a b : List Int} (h : a.length = b.length) (hj : ∀ j, j < a.length → a.getD j 0 = b.getD j 0) : a = b := by
  apply List.ext_getElem h
  intro i h1 h2
  have := hj i h1
  simpa [List.getD_eq_getElem?_getD, h1, h2] using this
theorem eqIntS_l0 (a b : List Int) (h : a.length = b.length) (hl : a.length < 4611686018427387904) : ∀ (d i : Nat), i + d = a.length → (∀ j, j < i → a.getD j 0 = b.getD j 0) → Ev (fun k => laws_eqIntS.l0 k a b i) (decide (a = b))
  | 0, i, hd, hj => by
    refine Ev.one (fun k => ?_)
    have : a = b := ext_getD h (fun j hj' => hj j (by omega))
    rw [laws_eqIntS.l0, if_neg (by omega)]; simp [this]
  | d + 1, i, hd, hj => by
    by_cases e : a.getD i 0 = b.getD i 0
    · refine Ev.step (f := fun k => laws_eqIntS.l0 k a b ((i + 1 : Nat) : Int)) (fun k => ?_) (eqIntS_l0 a b h hl d (i + 1) (by omega) ?_)
      · rw [laws_eqIntS.l0, if_pos (by omega), if_pos (by omega), if_pos (by omega), if_pos (by exact e), w1 (by omega)]
      · intro j hj'
        by_cases e2 : j = i
        · rw [e2]; exact e
        · exact hj j (by omega)
    · refine Ev.one (fun k => ?_)
      have : a ≠ b := fun h => e (by rw [h])
      rw [laws_eqIntS.l0, if_pos (by omega), if_pos (by omega), if_pos (by omega), if_neg (by exact e)]; simp [this]
theorem eqIntS_ev (a b : List Int) (hl : a.length < 4611686018427387904) : Ev (fun k => laws_eqIntS.f k a b) (decide (a = b)) := by
  unfold laws_eqIntS.f
  by_cases h : a.length = b.length
  · simp only [if_pos (show (a.length : Int) = (b.length : Int) by omega)]
    exact eqIntS_l0 a b h hl a.length 0 (by omega) (fun j hj => absurd hj (Nat.not_lt_zero _))
  · simp only [if_neg (show ¬ (a.length : Int) = (b.length : Int) by omega)]
    have : a ≠ b := fun e => h (by rw [e])
    exact Ev.one (fun k => by simp [this])
theorem eqIntS_self (a : List Int) (hl : a.length < 4611686018427387904) : Ev (fun k => laws_eqIntS.f k a a) true := by
  have h := eqIntS_ev a a hl
  rwa [decide_eq_true rfl] at h
theorem getD_set (l : List Int) (i j : Nat) (v : Int) (hi : i < l.length) : (l.set i v).getD j 0 = if i = j then v else l.getD j 0 := by
  rw [List.getD_eq_getElem?_getD, List.getElem?_set]
  by_cases h : i = j
  · subst h; simp [hi]
  · simp [h]
theorem toIntS_l0 (l : List Int) (hl : l.length < 4611686018427387904) : ∀ (d i : Nat) (y : List Int), i + d = l.length → y.length = l.length → (∀ j, j < i → y.getD j 0 = l.getD j 0) → Ev (fun k => laws_toIntS.l0 k l y i) l
  | 0, i, y, hd, hy, h => by
    refine Ev.one (fun k => ?_)
    rw [laws_toIntS.l0, if_neg (by omega), ext_getD hy (fun j hj => h j (by omega))]
  | d + 1, i, y, hd, hy, h => by
    refine Ev.step (f := fun k => laws_toIntS.l0 k l (y.set i (l.getD i 0)) ((i + 1 : Nat) : Int)) (fun k => ?_) (toIntS_l0 l hl d (i + 1) _ (by omega) (by simpa using hy) ?_)
    · rw [laws_toIntS.l0, if_pos (by omega), if_pos (by omega), if_pos (by omega), w1 (by omega)]; rfl
    · intro j hj
      rw [getD_set _ _ _ _ (by omega)]
      by_cases e : i = j
      · simp [e]
      · rw [if_neg e]; exact h j (by omega)
theorem toIntS_ev (l : List Int) (hl : l.length ≤ 35184372088832) : Ev (fun k => laws_toIntS.f k l) l := by
  unfold laws_toIntS.f
  simp only [if_pos (show (0 : Int) ≤ (l.length : Int) by omega), if_pos (show ((l.length : Int) : Int).toNat ≤ 35184372088832 by simpa using hl)]
  exact toIntS_l0 l (by omega) l.length 0 _ (by omega) (by simp) (fun j hj => absurd hj (Nat.not_lt_zero _))
theorem FnExactIsOnly : laws_FnExactIsOnly.Pure := by
  intro l0 hm0 hb0 hw0
  refine Ev.rounds ?_
  unfold laws_FnExactIsOnly.f
  by_cases hg0 : (l0.length : Int) > 1048576
  · simp only [if_pos hg0]; exact Ev.now _
  simp only [if_neg hg0]
  have hlen0 : l0.length ≤ 1048576 := by omega
  obtain ⟨R, hs, hi⟩ := IsOnly_common l0 (by omega)
  refine Ev.bind (toIntS_ev l0 (by omega)) ?_
  refine Ev.bind hs ?_
  try simp only [if_true, if_false, bne_self_eq_false, Bool.false_eq_true, ↓reduceIte, decide_true]
  refine Ev.bind (toIntS_ev l0 (by omega)) ?_
  refine Ev.bind hi ?_
  try simp only [if_true, if_false, bne_self_eq_false, Bool.false_eq_true, ↓reduceIte, decide_true]
  try simp only [if_true, if_false, bne_self_eq_false, Bool.false_eq_true, ↓reduceIte, decide_true]
  refine Ev.step (fun k => rfl) ?_
  simp only [laws_FnExactIsOnly.j0]
  try simp only [if_true, if_false, bne_self_eq_false, Bool.false_eq_true, ↓reduceIte, decide_true]
  refine Ev.bind (toIntS_ev l0 (by omega)) ?_
  refine Ev.bind (eqIntS_self l0 (by omega)) ?_
  try simp only [if_true, if_false, bne_self_eq_false, Bool.false_eq_true, ↓reduceIte, decide_true]
  exact Ev.now _
end Go.Proofs.Ytjipjcdeoajnjaa.Pure
