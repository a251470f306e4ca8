/- The program's GroupNumbers returns what the reference's returns, for all arguments (the plain statement behind the printed walk); no condition. -/
import Derived.Lib.TrailingZeros
import Derived.Test.YtifkaefccghgdaaDoorPx0
import Derived.Test.YtifkaefccghgdaaDoorPx1
import Derived.Test.YtifkaefccghgdaaDoorPx11
import Derived.Test.YtifkaefccghgdaaDoorPx12
import Derived.Test.YtifkaefccghgdaaDoorPx2
import Derived.Test.YtifkaefccghgdaaDoorPx5
import Derived.Test.YtifkaefccghgdaaDoorPx7
import Derived.Test.YtifkaefccghgdaaDoorPx9
namespace Go.Proofs.YtifkaefccghgdaaDoor.Pure
open Go.RowKit Go.Proofs.YtifkaefccghgdaaDoor.P Go.Proofs.YtifkaefccghgdaaDoorW.PrintWords Go.Proofs.YtifkaefccghgdaaDoorW.PrintLast
set_option linter.unusedSimpArgs false
set_option linter.unusedVariables false
abbrev Rel := Nat → Nat → Bool
/-- The groups that go on from some people with others from a on, in order (each ahead of what goes on from it). -/
def ga (r : Rel) : Nat → List Nat → Nat → List (List Nat)
  | 0, _, _ => []
  | e + 1, cs, a => (if cs.all (fun b => r a b) then (cs ++ [a]) :: ga r e (cs ++ [a]) (a + 1) else []) ++ ga r e cs (a + 1)
/-! ### tables of bits -/
def bitsOf : Nat → (Nat → Bool) → Nat
  | 0, _ => 0
  | m + 1, f => bitsOf m f + (f m).toNat * 2 ^ m
theorem bitsOf_lt : ∀ (m : Nat) (f : Nat → Bool), bitsOf m f < 2 ^ m
  | 0, _ => by simp [bitsOf]
  | m + 1, f => by
    have := bitsOf_lt m f
    have h2 : (f m).toNat * 2 ^ m ≤ 2 ^ m := by cases f m <;> simp
    rw [bitsOf, Nat.pow_succ]; omega
theorem bitsOf_u16 (m : Nat) (hm : m ≤ 12) (f : Nat → Bool) : bitsOf m f < 65536 :=
  Nat.lt_of_lt_of_le (bitsOf_lt m f) (Nat.le_trans (Nat.pow_le_pow_right (by decide) hm) (by decide))
theorem filter_from (m : Nat) (q : Nat → Bool) (a e : Nat) (h : a + e = m) : (List.range m).filter (fun i => decide (a ≤ i) && q i) = (List.range' a e).filter q := by
  have hr : List.range m = List.range' 0 a ++ List.range' a e := by
    rw [List.range_eq_range', ← h, ← List.range'_append_1, Nat.zero_add]
  rw [hr, List.filter_append, List.filter_eq_nil_iff.2, List.nil_append]
  · refine List.filter_congr fun x hx => ?_
    have := (List.mem_range'_1.1 hx).1
    simp [this]
  · intro x hx
    have := (List.mem_range'_1.1 hx).2
    simp; omega
theorem flat_ga (m : Nat) (r : Rel) (cs : List Nat) : ∀ (e a : Nat), a + e = m → ((List.range' a e).filter fun i => cs.all (fun b => r i b)).flatMap (fun i => (cs ++ [i]) :: ga r (m - (i + 1)) (cs ++ [i]) (i + 1)) = ga r e cs a
  | 0, a, h => rfl
  | e + 1, a, h => by
    have ih := flat_ga m r cs e (a + 1) (by omega)
    rw [List.range'_succ, ga]
    have e1 : m - (a + 1) = e := by omega
    cases hq : cs.all (fun b => r a b) with
    | true => rw [List.filter_cons_of_pos (by simpa using hq), List.flatMap_cons, ih, e1]; rfl
    | false => rw [List.filter_cons_of_neg (by rw [hq]; decide), ih]; rfl
def ints (l : List Nat) : List Int := l.map Int.ofNat
theorem ints_len (l : List Nat) : (ints l).length = l.length := by simp [ints]
/-- The set of those who may go on with a group. -/
def leftN (m : Nat) (r : Rel) (cs : List Nat) (a : Nat) : Nat := bitsOf m fun i => decide (a ≤ i) && cs.all (fun b => r i b)
theorem wraps_u16 (n : Int) (h0 : 0 ≤ n) (h1 : n < 2 ^ 16) : IntKind.u16.wrap n = n := by
  simp [IntKind.wrap, IntKind.bits, IntKind.signed]; omega
theorem and16 (x y : Nat) (hx : x < 65536) (hy : y < 65536) : Go.bits .and .u16 (x : Int) (y : Int) = ((x &&& y : Nat) : Int) := (bits_nat .u16 16 (by decide) wraps_u16 x y hx hy).1
def lst (s : Nat) : List Nat := (List.range 16).filter s.testBit
theorem low_bits (c m i : Nat) : ((2 ^ c * (2 * m + 1)).testBit i = if i < c then false else (2 * m + 1).testBit (i - c)) := by
  have := Nat.testBit_two_pow_mul_add (2 * m + 1) (b := 0) (i := c) (by exact Nat.two_pow_pos c) i
  simpa using this
theorem pred_bits (c m i : Nat) : ((2 ^ c * (2 * m + 1) - 1).testBit i = if i < c then true else (2 * m).testBit (i - c)) := by
  have e : 2 ^ c * (2 * m + 1) - 1 = 2 ^ c * (2 * m) + (2 ^ c - 1) := by
    have := Nat.two_pow_pos c
    rw [Nat.mul_add, Nat.mul_one]; omega
  rw [e, Nat.testBit_two_pow_mul_add (2 * m) (b := 2 ^ c - 1) (i := c) (by have := Nat.two_pow_pos c; omega) i]
  split
  · rename_i h; rw [Nat.testBit_two_pow_sub_one]; simpa using h
  · rfl
theorem clear_bit (c m i : Nat) : ((2 ^ c * (2 * m + 1)) &&& (2 ^ c * (2 * m + 1) - 1)).testBit i = ((2 ^ c * (2 * m + 1)).testBit i && i != c) := by
  rw [Nat.testBit_and, low_bits, pred_bits]
  by_cases h : i < c
  · simp [h]
  · rw [if_neg h, if_neg h]
    by_cases he : i = c
    · subst he; simp
    · have h2 : i - c = (i - c - 1) + 1 := by omega
      have h3 : (i != c) = true := by simpa using he
      rw [h2, Nat.testBit_succ, Nat.testBit_succ, h3]
      have a1 : (2 * m + 1) / 2 = m := by omega
      have a2 : (2 * m) / 2 = m := by omega
      rw [a1, a2]; simp
theorem filter_first (p : Nat → Bool) (c : Nat) (hc : p c = true) : ∀ (len lo : Nat), lo ≤ c → c < lo + len → (∀ i, lo ≤ i → i < c → p i = false) →
    (List.range' lo len).filter p = c :: (List.range' lo len).filter (fun i => p i && i != c)
  | 0, lo, h1, h2, _ => by omega
  | len + 1, lo, h1, h2, h3 => by
    rw [List.range'_succ]
    by_cases he : lo = c
    · subst he
      rw [List.filter_cons_of_pos hc, List.filter_cons_of_neg (by simp)]
      congr 1
      refine List.filter_congr fun x hx => ?_
      have := List.mem_range'_1.1 hx
      have : (x != lo) = true := by simp; omega
      rw [this, Bool.and_true]
    · rw [List.filter_cons_of_neg (by rw [h3 lo (Nat.le_refl _) (by omega)]; simp), List.filter_cons_of_neg (by rw [h3 lo (Nat.le_refl _) (by omega)]; simp)]
      exact filter_first p c hc len (lo + 1) (by omega) (by omega) (fun i hi hic => h3 i (by omega) hic)
theorem lst_step (s : Nat) (h0 : 0 < s) (h : s < 65536) : lst s = Lib.ctz 16 s :: lst (s &&& (s - 1)) := by
  obtain ⟨m, e, hc⟩ := Lib.ctzFrom_spec 16 s h0 h
  have ec : Lib.ctz 16 s = Lib.ctzFrom 16 s := by unfold Lib.ctz; rw [if_neg (by omega)]
  rw [ec]
  generalize Lib.ctzFrom 16 s = c at e hc
  subst e
  unfold lst
  rw [List.range_eq_range', filter_first _ c (by rw [low_bits]; simp) 16 0 (by omega) (by omega) (fun i _ hi => by rw [low_bits, if_pos hi])]
  congr 1
  exact List.filter_congr fun x _ => (clear_bit c m x).symm
theorem listed_at : ∀ (k s : Nat) (acc : List Int), s < 65536 → (lst s).length < k → acc.length + 16 < 4611686018427 → k ≤ 20 → acc.length + (lst s).length ≤ 16 → impl_listed.l0 k (s : Int) acc = some (acc ++ ints (lst s)) := by
  intro k
  induction k with
  | zero => intro s acc hs hk; omega
  | succ k ih =>
    intro s acc hs hk hacc h20 h16
    by_cases h0 : s = 0
    · subst h0
      rw [impl_listed.l0, if_neg (by omega)]
      have : ints (lst 0) = [] := by decide
      rw [this, List.append_nil]
    · have hl := lst_step s (by omega) hs
      rw [hl, List.length_cons] at hk h16
      have hlt : s &&& (s - 1) ≤ s - 1 := Nat.and_le_right
      have h1 := ih (s &&& (s - 1)) (acc ++ [(Lib.ctz 16 s : Int)]) (by omega) (by omega) (by rw [List.length_append, List.length_singleton]; omega) (by omega) (by rw [List.length_append, List.length_singleton]; omega)
      rw [List.append_assoc] at h1
      have e : [(Lib.ctz 16 s : Int)] ++ ints (lst (s &&& (s - 1))) = ints (lst s) := by rw [hl]; rfl
      rw [e] at h1
      have hw : IntKind.u16.wrap ((s : Int) - 1) = ((s - 1 : Nat) : Int) := by rw [wraps_u16 _ (by omega) (by omega)]; omega
      rw [impl_listed.l0, if_pos (by omega), hw, and16 s (s - 1) hs (by omega)]
      unfold bits_TrailingZeros16.f
      rw [if_pos (by omega), Int.toNat_natCast]
      simp only [Option.bind_some]
      rw [if_pos (by omega)]
      exact h1
theorem lst_len (s : Nat) : (lst s).length ≤ 16 := by
  have := List.length_filter_le s.testBit (List.range 16)
  rw [List.length_range] at this
  exact this
theorem listed20 (s : Nat) (hs : s < 65536) : impl_listed.f 20 (s : Int) = some (ints (lst s)) := by
  have := lst_len s
  unfold impl_listed.f
  exact listed_at 20 s [] hs (by omega) (by simp) (by omega) (by simpa using this)
theorem filter_range_lt (p : Nat → Bool) (m : Nat) : ∀ d : Nat, (List.range (m + d)).filter (fun i => decide (i < m) && p i) = (List.range m).filter p
  | 0 => List.filter_congr fun x hx => by
    have : x < m := by simpa using hx
    simp [this]
  | d + 1 => by
    rw [← Nat.add_assoc, List.range_succ, List.filter_append, filter_range_lt p m d]
    have : ¬ (m + d < m) := by omega
    simp [this]
theorem testBit_bitsOf : ∀ (m : Nat) (f : Nat → Bool) (i : Nat), (bitsOf m f).testBit i = (decide (i < m) && f i)
  | 0, f, i => by simp [bitsOf]
  | m + 1, f, i => by
    have ih := testBit_bitsOf m f
    by_cases hi : i < m
    · have h1 : i < m + 1 := by omega
      cases hf : f m with
      | false => simp [bitsOf, hf, ih i, hi, h1]
      | true => rw [bitsOf, hf, Bool.toNat_true, Nat.one_mul, Nat.add_comm, Nat.testBit_two_pow_add_gt hi, ih i]; simp [hi, h1]
    · by_cases e : i = m
      · subst e
        cases hf : f i with
        | false => simp [bitsOf, hf, ih i]
        | true => rw [bitsOf, hf, Bool.toNat_true, Nat.one_mul, Nat.add_comm, Nat.testBit_two_pow_add_eq, ih i]; simp
      · have h1 : ¬ i < m + 1 := by omega
        rw [Nat.testBit_lt_two_pow (Nat.lt_of_lt_of_le (bitsOf_lt (m + 1) f) (Nat.pow_le_pow_right (by decide) (by omega)))]
        simp [h1]
theorem lst_bitsOf (m : Nat) (hm : m ≤ 12) (f : Nat → Bool) : lst (bitsOf m f) = (List.range m).filter f := by
  unfold lst
  have := filter_range_lt f m (16 - m)
  rw [show m + (16 - m) = 16 by omega] at this
  rw [← this]
  exact List.filter_congr fun x _ => testBit_bitsOf m f x
def andn (x y : Nat) : Nat := (BitVec.ofNat 16 x &&& ~~~BitVec.ofNat 16 y).toNat
theorem andn_lt (x y : Nat) : andn x y < 65536 := (BitVec.ofNat 16 x &&& ~~~BitVec.ofNat 16 y).isLt
theorem andNot16 (x y : Nat) : Go.bits .andNot .u16 (x : Int) (y : Int) = ((andn x y : Nat) : Int) := by
  have h := andn_lt x y
  show IntKind.u16.wrap _ = _
  rw [BitVec.ofInt_natCast, BitVec.ofInt_natCast]
  exact wraps_u16 _ (Int.natCast_nonneg _) (by exact_mod_cast h)
theorem pow_u16 (b : Nat) (h : b ≤ 12) : 2 ^ b < 65536 := Nat.lt_of_le_of_lt (Nat.pow_le_pow_right (by decide) h) (by decide)
theorem bits_low (i : Nat) (hi : i ≤ 12) : IntKind.u16.wrap (IntKind.u16.wrap ((2 : Int) ^ i) - 1) = ((2 ^ i - 1 : Nat) : Int) := by
  have h1 := Nat.two_pow_pos i
  have h2 := pow_u16 i hi
  have e : (2 : Int) ^ i = ((2 ^ i : Nat) : Int) := by simp
  rw [e, wraps_u16 ((2 ^ i : Nat) : Int) (by omega) (by omega), wraps_u16 _ (by omega) (by omega)]; omega
def tab (m : Nat) (r : Rel) : List Int := (List.range m).map fun a => ((bitsOf m (r a) : Nat) : Int)
theorem map_range_getD {α : Type} (m : Nat) (f : Nat → α) (d : α) (a : Nat) (h : a < m) : ((List.range m).map f).getD a d = f a := by simp [List.getD_eq_getElem?_getD, h]
theorem tab_at (m : Nat) (r : Rel) (a : Nat) (h : a < m) : rd (tab m r) (a : Int) = ((bitsOf m (r a) : Nat) : Int) := map_range_getD m _ _ a h
theorem testBit_andn (x y i : Nat) (hx : x < 65536) : (andn x y).testBit i = (x.testBit i && !y.testBit i) := by
  unfold andn
  rw [BitVec.testBit_toNat, BitVec.getLsbD_and, BitVec.getLsbD_not, BitVec.getLsbD_ofNat, BitVec.getLsbD_ofNat]
  by_cases h : i < 16
  · simp [h]
  · have : x.testBit i = false := Nat.testBit_lt_two_pow (Nat.lt_of_lt_of_le hx (Nat.le_trans (show 65536 ≤ 2 ^ 16 by decide) (Nat.pow_le_pow_right (by decide) (by omega))))
    simp [h, this]
theorem nx_eq (m : Nat) (hm : m ≤ 12) (r : Rel) (hs : ∀ a b, r a b = r b a) (hi : ∀ a, r a a = false) (cs : List Nat) (a i : Nat) (ha : a ≤ i) (him : i < m) :
    nx (tab m r) ((leftN m r cs a : Nat) : Int) (i : Int) = ((leftN m r (cs ++ [i]) (i + 1) : Nat) : Int) := by
  unfold nx
  rw [tab_at m r i him, and16 (leftN m r cs a) (bitsOf m (r i)) (bitsOf_u16 m hm _) (bitsOf_u16 m hm _), show min ((i : Nat) : Int).toNat 16 = i from by rw [Int.toNat_natCast]; omega, bits_low i (by omega), andNot16]
  congr 1
  apply Nat.eq_of_testBit_eq
  intro j
  have hlt : leftN m r cs a &&& bitsOf m (r i) < 65536 := Nat.lt_of_le_of_lt Nat.and_le_left (bitsOf_u16 m hm _)
  rw [testBit_andn _ _ _ hlt, Nat.testBit_and, Nat.testBit_two_pow_sub_one]
  unfold leftN
  rw [testBit_bitsOf, testBit_bitsOf, testBit_bitsOf, List.all_append]
  by_cases hj : j < m
  · by_cases h1 : j < i
    · have : ¬ (i + 1 ≤ j) := by omega
      simp [hj, h1, this]
    · by_cases h2 : j = i
      · subst h2; simp [hi]
      · have h3 : i + 1 ≤ j := by omega
        have h4 : a ≤ j := by omega
        simp [hj, h1, h3, h4, hs i j]
  · simp [hj]
theorem tab_len (m : Nat) (r : Rel) : (tab m r).length = m := by simp [tab]
theorem grs_ga (m : Nat) (hm : m ≤ 12) (r : Rel) (hs : ∀ a b, r a b = r b a) (hi : ∀ a, r a a = false) : ∀ (d e a : Nat) (cs : List Nat), a + e = m → e < d →
    grs (tab m r) d (ints cs) ((leftN m r cs a : Nat) : Int) = (cs :: ga r e cs a).map ints ∧ gokB (tab m r) d ((leftN m r cs a : Nat) : Int) = true
  | 0, e, a, cs, h, hd => by omega
  | d + 1, e, a, cs, h, hd => by
    have hl20 := listed20 (leftN m r cs a) (bitsOf_u16 m hm _)
    have hlist : lst (leftN m r cs a) = (List.range' a e).filter fun i => cs.all (fun b => r i b) := by
      unfold leftN
      rw [lst_bitsOf m hm, filter_from m _ a e h]
    have hlsd : lsd ((leftN m r cs a : Nat) : Int) = ints ((List.range' a e).filter fun i => cs.all (fun b => r i b)) := by
      unfold lsd; rw [hl20, hlist]; rfl
    have hmem : ∀ i ∈ (List.range' a e).filter (fun i => cs.all (fun b => r i b)), a ≤ i ∧ i < m := fun i hx => by
      have := List.mem_range'_1.1 (List.mem_filter.1 hx).1
      omega
    have ih : ∀ i ∈ (List.range' a e).filter (fun i => cs.all (fun b => r i b)), grs (tab m r) d (ints cs ++ [(i : Int)]) (nx (tab m r) ((leftN m r cs a : Nat) : Int) (i : Int)) = ((cs ++ [i]) :: ga r (m - (i + 1)) (cs ++ [i]) (i + 1)).map ints ∧ gokB (tab m r) d (nx (tab m r) ((leftN m r cs a : Nat) : Int) (i : Int)) = true := fun i hx => by
      have hb := hmem i hx
      rw [nx_eq m hm r hs hi cs a i hb.1 hb.2]
      have hcs : ints cs ++ [(i : Int)] = ints (cs ++ [i]) := by simp [ints]
      rw [hcs]
      exact grs_ga m hm r hs hi d (m - (i + 1)) (i + 1) (cs ++ [i]) (by omega) (by omega)
    constructor
    · rw [grs, hlsd, List.map_cons, ← flat_ga m r cs e a h]
      congr 1
      unfold ints
      rw [List.flatMap_map, List.map_flatMap]
      generalize hQ : (List.range' a e).filter (fun i => cs.all (fun b => r i b)) = Q at ih
      clear hQ hlsd hlist hmem
      induction Q with
      | nil => rfl
      | cons i Q ihQ =>
        rw [List.flatMap_cons, List.flatMap_cons, ihQ (fun j hj => ih j (List.mem_cons_of_mem _ hj))]
        congr 1
        exact (ih i (List.mem_cons_self ..)).1
    · rw [gokB, hlsd, hl20]
      simp only [Option.isSome_some, Bool.true_and, Bool.and_eq_true, decide_eq_true_eq, List.all_eq_true]
      constructor
      · rw [ints_len]
        have := List.length_filter_le (fun i => cs.all (fun b => r i b)) (List.range' a e)
        rw [List.length_range'] at this
        omega
      · intro x hx
        obtain ⟨i, hi', rfl⟩ := List.mem_map.1 hx
        have hb := hmem i hi'
        exact ⟨Int.natCast_nonneg i, by rw [tab_len]; have := hb.2; show (i : Int) < _; omega, (ih i hi').2⟩
theorem leftN_all (m : Nat) (hm : m ≤ 12) (r : Rel) : fullOf (tab m r) = ((leftN m r [] 0 : Nat) : Int) := by
  unfold fullOf
  rw [tab_len, bits_low m hm]
  congr 1
  apply Nat.eq_of_testBit_eq
  intro j
  unfold leftN
  rw [Nat.testBit_two_pow_sub_one, testBit_bitsOf]
  simp
theorem all_groups (m : Nat) (hm : m ≤ 12) (r : Rel) (hs : ∀ a b, r a b = r b a) (hi : ∀ a, r a a = false) :
    grs (tab m r) 17 [] (fullOf (tab m r)) = ([] :: ga r m [] 0).map ints ∧ gokB (tab m r) 17 (fullOf (tab m r)) = true := by
  rw [leftN_all m hm r]
  exact grs_ga m hm r hs hi 17 m 0 [] (by omega) (by omega)

theorem ga_count (r : Rel) : ∀ (e : Nat) (cs : List Nat) (a : Nat), (ga r e cs a).length + 1 ≤ 2 ^ e
  | 0, cs, a => by simp [ga]
  | e + 1, cs, a => by
    have h1 := ga_count r e (cs ++ [a]) (a + 1)
    have h2 := ga_count r e cs (a + 1)
    rw [ga, List.length_append, Nat.pow_succ]
    split
    · rw [List.length_cons]; omega
    · simp only [List.length_nil]; omega
theorem all_len (m : Nat) (hm : m ≤ 12) (r : Rel) : (([] :: ga r m [] 0).map ints).length ≤ 4096 := by
  have h1 := ga_count r m [] 0
  have h2 : 2 ^ m ≤ 2 ^ 12 := Nat.pow_le_pow_right (by decide) hm
  rw [List.length_map, List.length_cons]; omega
theorem ga_len (r : Rel) : ∀ (e : Nat) (cs : List Nat) (a : Nat), ∀ x ∈ ga r e cs a, cs.length + 1 ≤ x.length ∧ x.length ≤ cs.length + e
  | 0, cs, a, x, hx => by cases hx
  | e + 1, cs, a, x, hx => by
    rw [ga] at hx
    rcases List.mem_append.1 hx with h | h
    · split at h
      · rcases List.mem_cons.1 h with h | h
        · subst h; rw [List.length_append, List.length_singleton]; omega
        · have := ga_len r e (cs ++ [a]) (a + 1) x h
          rw [List.length_append, List.length_singleton] at this; omega
      · cases h
    · have := ga_len r e cs (a + 1) x h; omega
theorem all_short (m : Nat) (hm : m ≤ 12) (r : Rel) : ∀ cs ∈ ([] :: ga r m [] 0).map ints, cs.length ≤ 12 := by
  intro cs hcs
  obtain ⟨y, hy, rfl⟩ := List.mem_map.1 hcs
  rw [ints_len]
  rcases List.mem_cons.1 hy with hy | hy
  · subst hy; simp
  · have := (ga_len r m [] 0 y hy).2
    simp only [List.length_nil] at this; omega
def crowd (n : Int) : Bool := decide (0 ≤ n ∧ n ≤ 12)
def lt2 (p q : S74) : Bool := decide (p.f0 < q.f0) || (decide (p.f0 = q.f0) && decide (p.f1 < q.f1))
def okPrev : Option S74 → S74 → Bool
  | none, _ => true
  | some p, x => lt2 p x
def okFrom (n : Int) : Option S74 → List S74 → Bool
  | _, [] => true
  | prev, x :: xs => (decide (0 ≤ x.f0) && (decide (x.f0 < x.f1) && (decide (x.f1 < n) && okPrev prev x))) && okFrom n (some x) xs
def good (n : Int) (l : List S74) : Bool := crowd n && okFrom n none l
def natPairs (m : Nat) (l : List S74) : Prop := ∀ x ∈ l, ∃ a b : Nat, x = ⟨(a : Int), (b : Int)⟩ ∧ a < b ∧ b < m
theorem okFrom_nat (m : Nat) : ∀ (l : List S74) (p : Option S74), okFrom (m : Int) p l = true → natPairs m l
  | [], _, _ => fun x hx => by simp at hx
  | x :: xs, p, h => by
    simp only [okFrom, Bool.and_eq_true, decide_eq_true_eq] at h
    obtain ⟨⟨h0, h1, h2, _⟩, h3⟩ := h
    intro y hy
    rcases List.mem_cons.1 hy with rfl | hy
    · refine ⟨y.f0.toNat, y.f1.toNat, ?_, by omega, by omega⟩
      rw [Int.toNat_of_nonneg h0, Int.toNat_of_nonneg (by omega)]
    · exact okFrom_nat m xs _ h3 y hy
theorem good_nat {n : Int} {l : List S74} (h : good n l = true) : ∃ m : Nat, n = (m : Int) ∧ m ≤ 12 ∧ natPairs m l ∧ okFrom (m : Int) none l = true := by
  unfold good crowd at h
  simp only [Bool.and_eq_true, decide_eq_true_eq] at h
  obtain ⟨⟨h0, h1⟩, h2⟩ := h
  obtain ⟨m, rfl⟩ := Int.eq_ofNat_of_zero_le h0
  exact ⟨m, rfl, by omega, okFrom_nat m l none h2, h2⟩
theorem ints_rd (L pre rest : List Nat) (b : Nat) (h : L = pre ++ b :: rest) : rd (ints L) (pre.length : Int) = (b : Int) := by
  subst h
  show (List.map Int.ofNat (pre ++ b :: rest)).getD _ 0 = _
  rw [Int.toNat_natCast]
  simp [List.getD_eq_getElem?_getD]
/-! ### matrices -/
def mat (m : Nat) (r : Rel) : List (List Bool) := (List.range m).map fun a => (List.range m).map fun b => r a b
theorem mat_row (m : Nat) (r : Rel) (a : Nat) (h : a < m) : rd_L4 (mat m r) (a : Int) = (List.range m).map fun b => r a b := map_range_getD m _ _ a h
theorem mat_at (m : Nat) (r : Rel) (a b : Nat) (h : a < m) (h2 : b < m) : rdOf false (rd_L4 (mat m r) (a : Int)) (b : Int) = r a b := by
  rw [mat_row m r a h]; exact map_range_getD m _ _ b h2
theorem mat_len (m : Nat) (r : Rel) : (mat m r).length = m := by simp [mat]
theorem w1 {n : Nat} (h : n < 4611686018427387904) : wrap64 ((n : Int) + 1) = ((n + 1 : Nat) : Int) := by unfold wrap64; omega
theorem joins_at (m : Nat) (hm : m ≤ 12) (r : Rel) (a : Nat) (ha : a < m) (L : List Nat) (hL : ∀ x ∈ L, x < m) (hl : L.length ≤ 100) : ∀ (rest pre : List Nat) (k : Nat), L = pre ++ rest → rest.length < k → spec_grJoins.l0 k (mat m r) (a : Int) (ints L) (L.length : Int) (pre.length : Int) = some (rest.all fun b => r a b)
  | [], pre, 0, e, hk => by simp at hk
  | [], pre, k + 1, e, hk => by
    have el : L.length = pre.length := by rw [e]; simp
    rw [spec_grJoins.l0, if_neg (by omega)]; rfl
  | b :: rest, pre, 0, e, hk => by simp at hk
  | b :: rest, pre, k + 1, e, hk => by
    have el : pre.length < L.length := by rw [e]; simp
    have hb : b < m := hL b (by rw [e]; simp)
    have hrd := ints_rd L pre rest b e
    have hrow : (rd_L4 (mat m r) (a : Int)).length = m := by rw [mat_row _ _ _ ha]; simp
    have ih := joins_at m hm r a ha L hL hl rest (pre ++ [b]) k (by rw [e]; simp) (by simp at hk; omega)
    rw [List.length_append, List.length_singleton] at ih
    cases hr : r a b with
    | true => rw [spec_grJoins.l0, if_pos (by omega), if_pos (by omega), if_pos (by rw [ints_len]; omega), if_pos (by omega), mat_len, if_pos (by omega), hrd, if_pos (by omega), hrow, if_pos (by omega), mat_at m r a b ha hb, hr, if_pos rfl, w1 (by omega), ih, List.all_cons, hr, Bool.true_and]
    | false => rw [spec_grJoins.l0, if_pos (by omega), if_pos (by omega), if_pos (by rw [ints_len]; omega), if_pos (by omega), mat_len, if_pos (by omega), hrd, if_pos (by omega), hrow, if_pos (by omega), mat_at m r a b ha hb, hr, if_neg (by decide), List.all_cons, hr, Bool.false_and]
theorem joins60 (m : Nat) (hm : m ≤ 12) (r : Rel) (a : Nat) (ha : a < m) (L : List Nat) (hL : ∀ x ∈ L, x < m) (hl : L.length ≤ 50) : spec_grJoins.f 60 (mat m r) (ints L) (a : Int) = some (L.all fun b => r a b) := by
  unfold spec_grJoins.f
  rw [ints_len]
  exact joins_at m hm r a ha L hL (by omega) L [] 60 rfl (by omega)
theorem glk_ga (m : Nat) (hm : m ≤ 12) (r : Rel) : ∀ (e a : Nat) (cs : List Nat), a + e = m → (∀ x ∈ cs, x < m) → cs.length + e ≤ 50 → glk (mat m r) e (ints cs) a = (ga r e cs a).map ints ∧ glB (mat m r) e (ints cs) a = true
  | 0, a, cs, _, _, _ => ⟨rfl, rfl⟩
  | e + 1, a, cs, ha, hc, hl => by
    have hj := joins60 m hm r a (by omega) cs hc (by omega)
    have hjn : jn (mat m r) (ints cs) a = cs.all (fun b => r a b) := by
      unfold jn; rw [hj]; cases cs.all (fun b => r a b) <;> rfl
    have hi : ints cs ++ [(a : Int)] = ints (cs ++ [a]) := by simp [ints]
    have hc' : ∀ x ∈ cs ++ [a], x < m := fun x hx => by
      rcases List.mem_append.1 hx with hx | hx
      · exact hc x hx
      · rw [List.mem_singleton.1 hx]; omega
    obtain ⟨h1, h2⟩ := glk_ga m hm r e (a + 1) (cs ++ [a]) (by omega) hc' (by rw [List.length_append, List.length_singleton]; omega)
    obtain ⟨h3, h4⟩ := glk_ga m hm r e (a + 1) cs (by omega) hc (by omega)
    constructor
    · rw [glk, ga, hjn, hi, h1, h3, List.map_append]
      congr 1
      split <;> rfl
    · rw [glB, hj, hjn, hi, h2, h4]; simp
theorem grGroups_f (m : Nat) (hm : m ≤ 12) (r : Rel) : spec_grGroups.f (mat m r) = some (([] :: ga r m [] 0).map ints) := by
  obtain ⟨h1, h2⟩ := glk_ga m hm r m 0 [] (by omega) (fun x hx => by cases hx) (by simp; omega)
  have h1' : glk (mat m r) m [] 0 = (ga r m [] 0).map ints := h1
  have h2' : glB (mat m r) m [] 0 = true := h2
  unfold spec_grGroups.f
  rw [mat_len, if_pos ⟨hm, h2'⟩, h1']; rfl
def hasP (l : List S74) : Rel := fun a b => l.any fun x => (x.f0 == (a : Int) && x.f1 == (b : Int)) || (x.f0 == (b : Int) && x.f1 == (a : Int))
theorem hasP_irrefl (m : Nat) (l : List S74) (h : natPairs m l) (x : Nat) : hasP l x x = false := by
  unfold hasP
  rw [List.any_eq_false]
  intro z hz
  obtain ⟨a, b, rfl, hab, _⟩ := h z hz
  simp; omega
theorem hasP_symm (l : List S74) (x y : Nat) : hasP l x y = hasP l y x := by
  unfold hasP; congr 1; funext z; rw [Bool.or_comm]
theorem Ev.cast {α : Type} {g : Nat → Option α} {a b : α} (h : Ev g a) (e : a = b) : Ev g b := e ▸ h
theorem Ev.one {α : Type} {g : Nat → Option α} {r : α} (h : ∀ k, g (k + 1) = some r) : Ev g r := Ev.step h (Ev.now r)
theorem within_f (a lo hi : Int) : impl_within.f a lo hi = some (decide (lo ≤ a) && decide (a ≤ hi)) := by
  unfold impl_within.f
  by_cases h : lo ≤ a
  · rw [if_pos h]; simp [h]
  · rw [if_neg h]; simp [h]
theorem areCrowd_f (a : Int) : impl_areCrowd.f a = some (decide (0 ≤ a ∧ a ≤ 12)) := by
  unfold impl_areCrowd.f
  rw [within_f]; simp [Bool.decide_and]
def cmp3 (a b : Int) : Int := if a < b then -1 else if a > b then 1 else 0
def cmpP (p q : S74) : Int := if cmp3 p.f0 q.f0 = 0 then cmp3 p.f1 q.f1 else cmp3 p.f0 q.f0
theorem cmpP_neg (p q : S74) : decide (cmpP p q ≥ 0) = !lt2 p q := by
  unfold cmpP cmp3 lt2
  by_cases h1 : p.f0 < q.f0
  · simp [h1]
  · by_cases h2 : p.f0 > q.f0
    · have h3 : ¬ p.f0 = q.f0 := by omega
      simp [h1, h2, h3]
    · have h3 : p.f0 = q.f0 := by omega
      by_cases h4 : p.f1 < q.f1
      · simp [h3, h4]
      · by_cases h5 : p.f1 > q.f1
        · simp [h3, h4, h5]
        · simp [h3, h4, h5]
theorem cmpOr_ev (a b : Int) : Ev (fun k => cmp_Or_int.f k [a, b]) (if a = 0 then b else a) := by
  refine ⟨3, fun k hk => ?_⟩
  obtain ⟨k, rfl⟩ : ∃ m, k = m + 3 := ⟨k - 3, by omega⟩
  have e1 : wrap64 (0 + 1) = 1 := by unfold wrap64; omega
  have e2 : wrap64 (1 + 1) = 2 := by unfold wrap64; omega
  have r0 : rd [a, b] 0 = a := rfl
  have r1 : rd [a, b] 1 = b := rfl
  simp only [cmp_Or_int.f, cmp_Or_int.l0, List.length_cons, List.length_nil, r0, r1, e1, e2]
  by_cases h : a = 0
  · by_cases h2 : b = 0
    · simp [h, h2]
    · simp [h, h2]
  · simp [h]
theorem compare_f (a b : Int) : cmp_Compare_int.f a b = some (cmp3 a b) := by
  unfold cmp_Compare_int.f cmp_isNaN_int.f cmp3
  simp
  by_cases h : a < b
  · simp [h]
  · by_cases h2 : a > b
    · simp [h, h2]
    · simp [h, h2]
theorem comparePairs_ev (p q : S74) : Ev (fun k => impl_comparePairs.f k p.f0 p.f1 q.f0 q.f1) (cmpP p q) := by
  unfold impl_comparePairs.f
  simp only [compare_f, Option.bind_some]
  exact Ev.bind (cmpOr_ev _ _) (Ev.now _)
theorem rdT_mid (pre rest : List S74) (x : S74) : rd_T74 (pre ++ x :: rest) (pre.length : Int) = x := by
  unfold rd_T74
  simp [List.getD_eq_getElem?_getD]
theorem w64 {i : Int} (h0 : -9223372036854775808 ≤ i) (h : i ≤ 9223372036854775807) : wrap64 i = i := by unfold wrap64; omega
theorem implIsParty_l0 (n : Int) (l : List S74) (hl : l.length < 4611686018427387904) : ∀ (rest pre : List S74), l = pre ++ rest → Ev (fun k => impl_IsParty.l0 k l (l.length : Int) (pre.length : Int) n l) (okFrom n pre.getLast? rest && crowd n)
  | [], pre, h => by
    refine Ev.one (fun k => ?_)
    have e : l.length = pre.length := by rw [h]; simp
    rw [impl_IsParty.l0, if_neg (by omega), areCrowd_f]
    simp [okFrom, crowd]
  | x :: rest, pre, h => by
    have hlen : pre.length < l.length := by rw [h]; simp
    have hx : rd_T74 l (pre.length : Int) = x := by rw [h]; exact rdT_mid pre rest x
    have ih := implIsParty_l0 n l hl rest (pre ++ [x]) (by rw [h]; simp)
    rw [List.getLast?_concat, List.length_append, List.length_singleton] at ih
    by_cases c1 : x.f0 < 0
    · refine Ev.one (fun k => ?_)
      rw [impl_IsParty.l0, if_pos (by omega), if_pos (by omega), if_pos (by omega), hx, if_pos c1]
      have : decide (0 ≤ x.f0) = false := by simp; omega
      simp [okFrom, this]
    by_cases c2 : x.f0 ≥ x.f1
    · refine Ev.one (fun k => ?_)
      rw [impl_IsParty.l0, if_pos (by omega), if_pos (by omega), if_pos (by omega), hx, if_neg c1, if_pos c2]
      have : decide (x.f0 < x.f1) = false := by simp; omega
      simp [okFrom, this]
    by_cases c3 : x.f1 ≥ n
    · refine Ev.one (fun k => ?_)
      rw [impl_IsParty.l0, if_pos (by omega), if_pos (by omega), if_pos (by omega), hx, if_neg c1, if_neg c2, if_pos c3]
      have : decide (x.f1 < n) = false := by simp; omega
      simp [okFrom, this]
    have d1 : decide (0 ≤ x.f0) = true := by simp; omega
    have d2 : decide (x.f0 < x.f1) = true := by simp; omega
    have d3 : decide (x.f1 < n) = true := by simp; omega
    rcases List.eq_nil_or_concat pre with rfl | ⟨q, p, rfl⟩
    · refine Ev.cast (Ev.step (fun k => ?_) ih) ?_
      · rw [impl_IsParty.l0, if_pos (by omega), if_pos (by omega), if_pos (by omega), hx, if_neg c1, if_neg c2, if_neg c3, if_neg (by simp), w1 (by simp)]
      · simp [okFrom, d1, d2, d3, okPrev]
    · rw [List.concat_eq_append] at hlen hx ih h ⊢
      have hp : rd_T74 l (q.length : Int) = p := by rw [h, List.append_assoc]; exact rdT_mid q (x :: rest) p
      have hq : (q ++ [p]).length = q.length + 1 := by simp
      rw [hq] at hlen hx ih ⊢
      refine Ev.step (f := fun k => (impl_comparePairs.f k p.f0 p.f1 x.f0 x.f1).bind fun t => if t ≥ 0 then some false else impl_IsParty.l0 k l (l.length : Int) ((q.length + 1 + 1 : Nat) : Int) n l) (fun k => ?_) (Ev.bind (comparePairs_ev p x) ?_)
      · rw [impl_IsParty.l0, if_pos (by omega), if_pos (by omega), if_pos (by omega), hx, if_neg c1, if_neg c2, if_neg c3, if_pos (by omega), w64 (i := ((q.length + 1 : Nat) : Int) - 1) (by omega) (by omega), show ((q.length + 1 : Nat) : Int) - 1 = (q.length : Int) by omega, if_pos (by omega), if_pos (by omega), hp, w1 (by omega)]
      · have hc := cmpP_neg p x
        rw [List.getLast?_concat]
        by_cases hlt : lt2 p x = true
        · have c4 : ¬ cmpP p x ≥ 0 := by rw [hlt] at hc; simpa using hc
          simp only [if_neg c4]
          refine Ev.cast ih ?_
          simp [okFrom, d1, d2, d3, okPrev, hlt]
        · have hlt' : lt2 p x = false := by simpa using hlt
          have c4 : cmpP p x ≥ 0 := by rw [hlt'] at hc; simpa using hc
          simp only [if_pos c4]
          refine Ev.cast (Ev.now _) ?_
          simp [okFrom, okPrev, hlt']
theorem implIsParty_ev (n : Int) (l : List S74) (hl : l.length < 4611686018427387904) : Ev (fun k => impl_IsParty.f k n l) (good n l) := by
  unfold impl_IsParty.f
  have := implIsParty_l0 n l hl l [] rfl
  rw [Bool.and_comm] at this
  exact this
theorem numStep_len (s c : List Int) (b : Nat) (hs : s.length ≤ b) (hc : c.length + 1 ≤ b) : (numStep s c).length ≤ b := by
  unfold numStep
  rw [List.length_set, padN_len]; omega
theorem nums_len : ∀ (G : List (List Int)) (s : List Int) (b : Nat), s.length ≤ b → (∀ c ∈ G, c.length + 1 ≤ b) → (G.foldl numStep s).length ≤ b
  | [], s, b, hs, _ => hs
  | c :: G, s, b, hs, hG => nums_len G (numStep s c) b (numStep_len s c b hs (hG c (List.mem_cons_self ..))) fun d hd => hG d (List.mem_cons_of_mem _ hd)
/-! the number of pairs -/
def below (m : Nat) : Nat → Nat
  | 0 => 0
  | a + 1 => below m a + (m - 1 - a)
theorem below_all (m : Nat) (h : m ≤ 12) : Int.tdiv ((m : Int) * ((m : Int) - 1)) 2 = (below m m : Int) := by
  have : m = 0 ∨ m = 1 ∨ m = 2 ∨ m = 3 ∨ m = 4 ∨ m = 5 ∨ m = 6 ∨ m = 7 ∨ m = 8 ∨ m = 9 ∨ m = 10 ∨ m = 11 ∨ m = 12 := by omega
  rcases this with rfl | rfl | rfl | rfl | rfl | rfl | rfl | rfl | rfl | rfl | rfl | rfl | rfl <;> rfl
/-- where a pair stands among all pairs of m people -/
def rank (m : Nat) (x : S74) : Nat := below m x.f0.toNat + (x.f1.toNat - x.f0.toNat - 1)
theorem below_mono (m a : Nat) : ∀ d, below m a ≤ below m (a + d)
  | 0 => Nat.le_refl _
  | d + 1 => Nat.le_trans (below_mono m a d) (by show below m (a + d) ≤ below m (a + d) + _; omega)
theorem rank_lt (m : Nat) (p x : S74) (h : lt2 p x = true) (p0 : 0 ≤ p.f0) (p1 : p.f0 < p.f1) (p2 : p.f1 < m) (x0 : 0 ≤ x.f0) (x1 : x.f0 < x.f1) : rank m p < rank m x := by
  unfold lt2 at h
  unfold rank
  simp at h
  rcases h with h | ⟨h, h2⟩
  · have h1 := below_mono m (p.f0.toNat + 1) (x.f0.toNat - (p.f0.toNat + 1))
    rw [show p.f0.toNat + 1 + (x.f0.toNat - (p.f0.toNat + 1)) = x.f0.toNat by omega] at h1
    have h3 : below m (p.f0.toNat + 1) = below m p.f0.toNat + (m - 1 - p.f0.toNat) := rfl
    omega
  · rw [h]; omega
theorem rank_top (m : Nat) (x : S74) (x0 : 0 ≤ x.f0) (x1 : x.f0 < x.f1) (x2 : x.f1 < m) : rank m x < below m m := by
  unfold rank
  have h1 := below_mono m (x.f0.toNat + 1) (m - (x.f0.toNat + 1))
  rw [show x.f0.toNat + 1 + (m - (x.f0.toNat + 1)) = m by omega] at h1
  have h3 : below m (x.f0.toNat + 1) = below m x.f0.toNat + (m - 1 - x.f0.toNat) := rfl
  omega
theorem okFrom_len (m : Nat) : ∀ (l : List S74) (p : S74), 0 ≤ p.f0 → p.f0 < p.f1 → p.f1 < m → okFrom m (some p) l = true → rank m p + l.length < below m m
  | [], p, p0, p1, p2, _ => rank_top m p p0 p1 p2
  | x :: xs, p, p0, p1, p2, h => by
    simp [okFrom, okPrev] at h
    obtain ⟨⟨x0, x1, x2, hlt⟩, h⟩ := h
    have ih := okFrom_len m xs x x0 x1 x2 h
    have := rank_lt m p x hlt p0 p1 p2 x0 x1
    simp only [List.length_cons]
    omega
theorem good_len (m : Nat) (l : List S74) (h : okFrom m none l = true) : l.length ≤ below m m := by
  cases l with
  | nil => simp
  | cons x xs =>
    simp [okFrom, okPrev] at h
    obtain ⟨⟨x0, x1, x2⟩, h⟩ := h
    have := okFrom_len m xs x x0 x1 x2 h
    simp only [List.length_cons]
    omega
theorem l1In_f (a lo hi : Int) : spec_l1In.f a lo hi = some (decide (lo ≤ a) && decide (a ≤ hi)) := by
  unfold spec_l1In.f
  by_cases h : lo ≤ a
  · rw [if_pos h]; simp [h]
  · rw [if_neg h]; simp [h]
theorem paLess_f (p x : S74) : spec_paLess.f p.f0 p.f1 x.f0 x.f1 = some (lt2 p x) := by
  unfold spec_paLess.f lt2
  by_cases h : p.f0 < x.f0
  · simp [h]
  · by_cases h2 : p.f0 = x.f0
    · simp [h2]
    · simp [h, h2]
theorem paGood_l0 (m : Nat) (hm : m ≤ 12) (l : List S74) (hl : l.length < 4611686018427387904) : ∀ (rest pre : List S74), l = pre ++ rest → Ev (fun k => spec_paGood.l0 k l (l.length : Int) (pre.length : Int) (m : Int) l) (okFrom m pre.getLast? rest)
  | [], pre, h => by
    refine Ev.one (fun k => ?_)
    have e : l.length = pre.length := by rw [h]; simp
    rw [spec_paGood.l0, if_neg (by omega)]
    simp [okFrom]
  | x :: rest, pre, h => by
    have hlen : pre.length < l.length := by rw [h]; simp
    have hx : rd_T74 l (pre.length : Int) = x := by rw [h]; exact rdT_mid pre rest x
    have ih := paGood_l0 m hm l hl rest (pre ++ [x]) (by rw [h]; simp)
    rw [List.getLast?_concat, List.length_append, List.length_singleton] at ih
    have em : wrap64 ((m : Int) - 1) = (m : Int) - 1 := w64 (by omega) (by omega)
    by_cases c1 : 0 ≤ x.f0 ∧ x.f0 ≤ (m : Int) - 1
    · have e1 : wrap64 (x.f0 + 1) = x.f0 + 1 := w64 (by omega) (by omega)
      have b1 : (decide (0 ≤ x.f0) && decide (x.f0 ≤ (m : Int) - 1)) = true := by simp; exact c1
      by_cases c2 : x.f0 + 1 ≤ x.f1 ∧ x.f1 ≤ (m : Int) - 1
      · have b2 : (decide (x.f0 + 1 ≤ x.f1) && decide (x.f1 ≤ (m : Int) - 1)) = true := by simp; exact c2
        have d1 : decide (0 ≤ x.f0) = true := by simp; omega
        have d2 : decide (x.f0 < x.f1) = true := by simp; omega
        have d3 : decide (x.f1 < (m : Int)) = true := by simp; omega
        rcases List.eq_nil_or_concat pre with rfl | ⟨q, p, rfl⟩
        · refine Ev.cast (Ev.step (fun k => ?_) ih) ?_
          · rw [spec_paGood.l0, if_pos (by omega), if_pos (by omega), if_pos (by omega), hx, em, e1, l1In_f, l1In_f, b1, b2]
            simp only [Option.bind_some, if_true]
            rw [if_neg (by simp), w1 (by simp)]
          · simp [okFrom, d1, d2, d3, okPrev]
        · rw [List.concat_eq_append] at hlen hx ih h ⊢
          have hp : rd_T74 l (q.length : Int) = p := by rw [h, List.append_assoc]; exact rdT_mid q (x :: rest) p
          have hq : (q ++ [p]).length = q.length + 1 := by simp
          rw [hq] at hlen hx ih ⊢
          rw [List.getLast?_concat]
          cases hlt : lt2 p x with
          | true =>
            refine Ev.cast (Ev.step (fun k => ?_) ih) ?_
            · rw [spec_paGood.l0, if_pos (by omega), if_pos (by omega), if_pos (by omega), hx, em, e1, l1In_f, l1In_f, b1, b2]
              simp only [Option.bind_some, if_true]
              rw [if_pos (by omega), w64 (i := ((q.length + 1 : Nat) : Int) - 1) (by omega) (by omega), show ((q.length + 1 : Nat) : Int) - 1 = (q.length : Int) by omega, if_pos (by omega), if_pos (by omega), hp, paLess_f, hlt, w1 (by omega)]
              rfl
            · simp [okFrom, d1, d2, d3, okPrev, hlt]
          | false =>
            refine Ev.one (fun k => ?_)
            rw [spec_paGood.l0, if_pos (by omega), if_pos (by omega), if_pos (by omega), hx, em, e1, l1In_f, l1In_f, b1, b2]
            simp only [Option.bind_some, if_true]
            rw [if_pos (by omega), w64 (i := ((q.length + 1 : Nat) : Int) - 1) (by omega) (by omega), show ((q.length + 1 : Nat) : Int) - 1 = (q.length : Int) by omega, if_pos (by omega), if_pos (by omega), hp, paLess_f, hlt]
            simp [okFrom, okPrev, hlt]
      · refine Ev.one (fun k => ?_)
        have b2 : (decide (x.f0 + 1 ≤ x.f1) && decide (x.f1 ≤ (m : Int) - 1)) = false := by simp; omega
        rw [spec_paGood.l0, if_pos (by omega), if_pos (by omega), if_pos (by omega), hx, em, e1, l1In_f, l1In_f, b1, b2]
        have : (decide (x.f0 < x.f1) && decide (x.f1 < (m : Int))) = false := by simp; omega
        simp only [okFrom, ← Bool.and_assoc (decide (x.f0 < x.f1)), this]
        simp
    · refine Ev.one (fun k => ?_)
      have b1 : (decide (0 ≤ x.f0) && decide (x.f0 ≤ (m : Int) - 1)) = false := by simp; omega
      rw [spec_paGood.l0, if_pos (by omega), if_pos (by omega), if_pos (by omega), hx, em, l1In_f, b1]
      have : (decide (0 ≤ x.f0) && (decide (x.f0 < x.f1) && (decide (x.f1 < (m : Int)) && okPrev pre.getLast? x))) = false := by
        by_cases z0 : 0 ≤ x.f0
        · by_cases z1 : x.f0 < x.f1
          · have : ¬ x.f1 < (m : Int) := by omega
            simp [this]
          · simp [z1]
        · simp [z0]
      simp [okFrom, this]
theorem paPeople_f (a : Int) : spec_paPeople.f a = some (decide (0 ≤ a ∧ a ≤ 12)) := by
  unfold spec_paPeople.f
  rw [l1In_f]; simp [Bool.decide_and]
theorem paGood_ev (n : Int) (l : List S74) (hl : l.length < 4611686018427387904) : Ev (fun k => spec_paGood.f k n l) (good n l) := by
  unfold spec_paGood.f
  rw [paPeople_f]
  by_cases h : 0 ≤ n ∧ n ≤ 12
  · obtain ⟨m, rfl⟩ := Int.eq_ofNat_of_zero_le h.1
    have hm : m ≤ 12 := by omega
    have hc : crowd (m : Int) = true := by unfold crowd; simp; omega
    have hmul : (m : Int) * ((m : Int) - 1) ≤ 144 := by
      have : m = 0 ∨ m = 1 ∨ m = 2 ∨ m = 3 ∨ m = 4 ∨ m = 5 ∨ m = 6 ∨ m = 7 ∨ m = 8 ∨ m = 9 ∨ m = 10 ∨ m = 11 ∨ m = 12 := by omega
      rcases this with rfl | rfl | rfl | rfl | rfl | rfl | rfl | rfl | rfl | rfl | rfl | rfl | rfl <;> decide
    have hmul0 : 0 ≤ (m : Int) * ((m : Int) - 1) := by
      have : m = 0 ∨ m = 1 ∨ m = 2 ∨ m = 3 ∨ m = 4 ∨ m = 5 ∨ m = 6 ∨ m = 7 ∨ m = 8 ∨ m = 9 ∨ m = 10 ∨ m = 11 ∨ m = 12 := by omega
      rcases this with rfl | rfl | rfl | rfl | rfl | rfl | rfl | rfl | rfl | rfl | rfl | rfl | rfl <;> decide
    have hb : (below m m : Int) ≤ 144 := by
      have : m = 0 ∨ m = 1 ∨ m = 2 ∨ m = 3 ∨ m = 4 ∨ m = 5 ∨ m = 6 ∨ m = 7 ∨ m = 8 ∨ m = 9 ∨ m = 10 ∨ m = 11 ∨ m = 12 := by omega
      rcases this with rfl | rfl | rfl | rfl | rfl | rfl | rfl | rfl | rfl | rfl | rfl | rfl | rfl <;> decide
    have e : wrap64 (Int.tdiv (wrap64 ((m : Int) * (wrap64 ((m : Int) - 1)))) 2) = (below m m : Int) := by
      rw [w64 (i := (m : Int) - 1) (by omega) (by omega), w64 (i := (m : Int) * ((m : Int) - 1)) (by omega) (by omega), below_all m hm, w64 (by omega) (by omega)]
    simp only [h, decide_true, Option.bind_some, if_true, e, and_self]
    unfold good
    rw [hc, Bool.true_and]
    by_cases hlen : l.length ≤ below m m
    · refine Ev.step (fun k => ?_) (paGood_l0 m hm l hl l [] rfl)
      have : decide ((l.length : Int) > (below m m : Int)) = false := by simp; omega
      rw [this, spec_paGood.j0, if_neg (by decide)]
      rfl
    · refine Ev.one (fun k => ?_)
      have : decide ((l.length : Int) > (below m m : Int)) = true := by simp; omega
      rw [this, spec_paGood.j0, if_pos rfl]
      have hn : okFrom (m : Int) none l = false := by
        cases hok : okFrom (m : Int) none l with
        | false => rfl
        | true => exact absurd (good_len m l hok) hlen
      rw [hn]
  · have hc : crowd n = false := by unfold crowd; simp; omega
    simp only [h, decide_false, Option.bind_some]
    unfold good
    rw [hc]
    refine Ev.one (fun k => ?_)
    rw [if_neg (by decide), spec_paGood.j0]; simp

theorem hasP_nil : hasP [] = fun _ _ => false := by funext x y; rfl
theorem map_range_const {α : Type} (c : α) : ∀ m : Nat, (List.range m).map (fun _ => c) = List.replicate m c
  | 0 => rfl
  | m + 1 => by rw [List.range_succ, List.map_append, map_range_const c m, List.replicate_succ']; rfl
theorem mat_false (m : Nat) : mat m (fun _ _ => false) = List.replicate m (List.replicate m false) := by
  unfold mat; rw [map_range_const, map_range_const]
theorem map_range_congr {α : Type} (m : Nat) (f g : Nat → α) (h : ∀ a, a < m → f a = g a) : (List.range m).map f = (List.range m).map g := List.map_congr_left fun a ha => h a (List.mem_range.1 ha)
theorem map_range_set {α : Type} (m : Nat) (f : Nat → α) (a : Nat) (v : α) : ((List.range m).map f).set a v = (List.range m).map fun i => if i = a then v else f i := by
  apply List.ext_getElem?
  intro j
  rw [List.getElem?_set]
  by_cases hj : j < m
  · by_cases e : a = j
    · subst e; simp [hj]
    · have e' : ¬ j = a := fun h => e h.symm
      simp [hj, e, e']
  · by_cases e : a = j
    · subst e; simp [hj]
    · simp [hj, e]
def upd (r : Rel) (a b : Nat) (v : Bool) : Rel := fun x y => if x = a ∧ y = b then v else r x y
theorem mat_set (m : Nat) (r : Rel) (a b : Nat) (v : Bool) (ha : a < m) : (mat m r).set a ((rd_L4 (mat m r) (a : Int)).set b v) = mat m (upd r a b v) := by
  rw [mat_row m r a ha, map_range_set]
  show ((List.range m).map fun a => (List.range m).map fun b => r a b).set a _ = _
  rw [map_range_set]
  refine map_range_congr m _ _ fun i hi => ?_
  by_cases e : i = a
  · subst e
    rw [if_pos rfl]
    refine map_range_congr m _ _ fun j hj => ?_
    simp [upd]
  · rw [if_neg e]
    refine map_range_congr m _ _ fun j hj => ?_
    simp [upd, e]
theorem hasP_snoc (pre : List S74) (a b x y : Nat) : hasP (pre ++ [⟨(a : Int), (b : Int)⟩]) x y = (hasP pre x y || ((decide (a = x) && decide (b = y)) || (decide (a = y) && decide (b = x)))) := by
  unfold hasP
  rw [List.any_append]
  congr 1
  simp only [List.any_cons, List.any_nil, Bool.or_false]
  have e : ∀ u v : Nat, ((u : Int) == (v : Int)) = decide (u = v) := fun u v => by
    by_cases h : u = v
    · simp [h]
    · have : ¬ (u : Int) = (v : Int) := by omega
      simp [h, this]
  rw [e, e, e, e]
theorem upd2_hasP (pre : List S74) (a b : Nat) : upd (upd (hasP pre) a b true) b a true = hasP (pre ++ [⟨(a : Int), (b : Int)⟩]) := by
  funext x y
  rw [hasP_snoc]
  unfold upd
  by_cases h1 : x = b ∧ y = a
  · simp [h1]
  · by_cases h2 : x = a ∧ y = b
    · simp [h2]
    · have e1 : (decide (a = x) && decide (b = y)) = false := by simp; intro h3 h4; exact h2 ⟨h3.symm, h4.symm⟩
      have e2 : (decide (a = y) && decide (b = x)) = false := by simp; intro h3 h4; exact h1 ⟨h4.symm, h3.symm⟩
      simp [h1, h2, e1, e2]
theorem paTable_l1 (m : Nat) (l : List S74) (hl : l.length < 4611686018427387904) (hn : natPairs m l) : ∀ (rest pre : List S74), l = pre ++ rest → Ev (fun k => spec_paTable.l1 k (mat m (hasP pre)) l (l.length : Int) (pre.length : Int)) (mat m (hasP l))
  | [], pre, h => by
    refine Ev.one (fun k => ?_)
    have e : l = pre := by rw [h]; simp
    rw [spec_paTable.l1, if_neg (by rw [e]; omega), e]
  | x :: rest, pre, h => by
    have hlen : pre.length < l.length := by rw [h]; simp
    obtain ⟨a, b, rfl, hab, hb⟩ := hn x (by rw [h]; simp)
    have hx : rd_T74 l (pre.length : Int) = ⟨(a : Int), (b : Int)⟩ := by rw [h]; exact rdT_mid pre rest _
    have ih := paTable_l1 m l hl hn rest (pre ++ [⟨(a : Int), (b : Int)⟩]) (by rw [h]; simp)
    rw [List.length_append, List.length_singleton, ← upd2_hasP] at ih
    refine Ev.step (fun k => ?_) ih
    have hrow : (rd_L4 (mat m (hasP pre)) (a : Int)).length = m := by rw [mat_row _ _ _ (by omega)]; simp
    have hrow2 : (rd_L4 (mat m (upd (hasP pre) a b true)) (b : Int)).length = m := by rw [mat_row _ _ _ (by omega)]; simp
    rw [spec_paTable.l1, if_pos (by omega), if_pos (by omega), if_pos (by omega), hx]
    dsimp only
    rw [mat_len, hrow, if_pos (by omega), if_pos (by omega), if_pos (by omega), if_pos (by omega), Int.toNat_natCast, Int.toNat_natCast, mat_set _ _ _ _ _ (by omega)]
    simp only [Option.bind_some]
    rw [if_pos (by omega), hrow2, if_pos (by omega), mat_set _ _ _ _ _ (by omega), w1 (by omega)]
theorem paTable_l0 (m : Nat) (hm : m ≤ 12) (l : List S74) (hl : l.length < 4611686018427387904) (hn : natPairs m l) : ∀ (d i : Nat), i + d = m → Ev (fun k => spec_paTable.l0 k (List.replicate i (List.replicate m false)) (i : Int) (m : Int) l) (mat m (hasP l))
  | 0, i, hd => by
    refine Ev.step (fun k => ?_) (paTable_l1 m l hl hn l [] rfl)
    obtain rfl : i = m := by omega
    rw [spec_paTable.l0, if_neg (by omega), hasP_nil, mat_false]
    rfl
  | d + 1, i, hd => by
    refine Ev.step (fun k => ?_) (paTable_l0 m hm l hl hn d (i + 1) (by omega))
    rw [spec_paTable.l0, if_pos (by omega), if_pos (by omega), if_pos (by omega), if_pos (by simp; omega), w1 (by omega), Int.toNat_natCast, List.replicate_succ']
theorem paTable_ev (m : Nat) (hm : m ≤ 12) (l : List S74) (hl : l.length < 4611686018427387904) (hn : natPairs m l) : Ev (fun k => spec_paTable.f k (m : Int) l) (mat m (hasP l)) := by
  unfold spec_paTable.f
  exact paTable_l0 m hm l hl hn m 0 (by omega)
theorem padN_snoc (s : List Int) (q : Nat) : padN (s ++ [0]) q = padN s (q + 1) := by
  unfold padN
  rw [List.append_assoc, List.replicate_succ]; rfl
theorem specNums_l1 (G : List (List Int)) (n i : Int) (c : List Int) (hc : c.length ≤ 12) (R : List Int × Bool) : ∀ (q : Nat) (s : List Int), q = c.length + 1 - s.length → s.length ≤ 100 → Ev (fun k => spec_GroupNumbers.l0 k (numStep s c) G n (wrap64 (i + 1))) R → Ev (fun k => spec_GroupNumbers.l1 k s c G n i) R
  | 0, s, hq, hs, h => by
    refine Ev.step (fun k => ?_) h
    have e : numStep s c = s.set c.length (wrap64 (rd s (c.length : Int) + 1)) := by
      unfold numStep; rw [← hq]; simp [padN]
    rw [spec_GroupNumbers.l1, if_neg (by omega), if_pos (by omega), if_pos (by omega), Int.toNat_natCast, e]
  | q + 1, s, hq, hs, h => by
    have e : numStep (s ++ [0]) c = numStep s c := by
      unfold numStep
      rw [List.length_append, List.length_singleton, show c.length + 1 - (s.length + 1) = q by omega, ← hq, padN_snoc]
    have ih := specNums_l1 G n i c hc R q (s ++ [0]) (by rw [List.length_append, List.length_singleton]; omega) (by rw [List.length_append, List.length_singleton]; omega) (by rw [e]; exact h)
    refine Ev.step (fun k => ?_) ih
    rw [spec_GroupNumbers.l1, if_pos (by omega), if_pos (by omega)]
theorem specNums_l0 (G : List (List Int)) (hG : G.length ≤ 5000) (hg : ∀ cs ∈ G, cs.length ≤ 12) : ∀ (rest pre : List (List Int)) (s : List Int), G = pre ++ rest → s.length ≤ 13 →
    Ev (fun k => spec_GroupNumbers.l0 k s G (G.length : Int) (pre.length : Int)) (rest.foldl numStep s, true)
  | [], pre, s, e, hs => by
    have el : G.length = pre.length := by rw [e]; simp
    refine Ev.one (fun k => ?_)
    rw [spec_GroupNumbers.l0, if_neg (by omega)]; rfl
  | c :: rest, pre, s, e, hs => by
    have el : pre.length < G.length := by rw [e]; simp
    have hc := hg c (by rw [e]; simp)
    have hrd : rd_L5 G (pre.length : Int) = c := by
      show G.getD _ [] = _
      rw [e, Int.toNat_natCast]
      simp [List.getD_eq_getElem?_getD]
    have ih := specNums_l0 G hG hg rest (pre ++ [c]) (numStep s c) (by rw [e]; simp) (numStep_len s c 13 hs (by omega))
    rw [List.length_append, List.length_singleton, ← w1 (by omega)] at ih
    have h1 := specNums_l1 G (G.length : Int) (pre.length : Int) c hc _ _ s rfl (by omega) ih
    refine Ev.step (fun k => ?_) h1
    rw [spec_GroupNumbers.l0, if_pos (by omega), if_pos (by omega), if_pos (by omega), hrd]
theorem tab_false (m : Nat) : tab m (fun _ _ => false) = List.replicate m 0 := by
  unfold tab
  rw [← map_range_const (0 : Int) m]
  refine map_range_congr m _ _ fun i hi => ?_
  have : bitsOf m (fun _ => false) = 0 := by
    apply Nat.eq_of_testBit_eq
    intro i
    rw [testBit_bitsOf]; simp
  rw [this]; rfl
theorem bitsOf_or (m : Nat) (f : Nat → Bool) (b : Nat) (hb : b < m) : bitsOf m f ||| 2 ^ b = bitsOf m fun j => if j = b then true else f j := by
  apply Nat.eq_of_testBit_eq
  intro i
  rw [Nat.testBit_or, testBit_bitsOf, testBit_bitsOf, Nat.testBit_two_pow]
  by_cases e : i = b
  · subst e; simp [hb]
  · have e' : ¬ b = i := fun h => e h.symm
    simp [e, e']
theorem or16 (x y : Nat) (hx : x < 65536) (hy : y < 65536) : Go.bits .or .u16 (x : Int) (y : Int) = ((x ||| y : Nat) : Int) := (bits_nat .u16 16 (by decide) wraps_u16 x y hx hy).2
theorem shl1 (b : Nat) (h : b ≤ 12) : shl .u16 1 (b : Int) = ((2 ^ b : Nat) : Int) := by
  have : b = 0 ∨ b = 1 ∨ b = 2 ∨ b = 3 ∨ b = 4 ∨ b = 5 ∨ b = 6 ∨ b = 7 ∨ b = 8 ∨ b = 9 ∨ b = 10 ∨ b = 11 ∨ b = 12 := by omega
  rcases this with rfl | rfl | rfl | rfl | rfl | rfl | rfl | rfl | rfl | rfl | rfl | rfl | rfl <;> decide
theorem bitsOf_congr (m : Nat) (f g : Nat → Bool) (h : ∀ i, i < m → f i = g i) : bitsOf m f = bitsOf m g := by
  apply Nat.eq_of_testBit_eq
  intro i
  rw [testBit_bitsOf, testBit_bitsOf]
  by_cases hi : i < m
  · simp [hi, h i hi]
  · simp [hi]
theorem tab_congr (m : Nat) (r s : Rel) (h : ∀ a b, a < m → b < m → r a b = s a b) : tab m r = tab m s := map_range_congr m _ _ fun a ha => by rw [bitsOf_congr m _ _ fun b hb => h a b ha hb]
theorem tab_set (m : Nat) (r : Rel) (a : Nat) (f : Nat → Bool) : (tab m r).set a ((bitsOf m f : Nat) : Int) = tab m (fun x => if x = a then f else r x) := by
  unfold tab
  rw [map_range_set]
  refine map_range_congr m _ _ fun i hi => ?_
  by_cases e : i = a <;> simp [e]
theorem tab_or (m : Nat) (hm : m ≤ 12) (r : Rel) (a b : Nat) (ha : a < m) (hb : b < m) : (tab m r).set a (Go.bits .or .u16 (rd (tab m r) (a : Int)) (shl .u16 1 (b : Int))) = tab m (upd r a b true) := by
  rw [tab_at m r a ha, shl1 b (by omega), or16 _ _ (bitsOf_u16 m hm _) (pow_u16 b (by omega)), bitsOf_or m _ b hb, tab_set]
  refine tab_congr m _ _ fun x y hx hy => ?_
  by_cases e : x = a
  · subst e; simp [upd]
  · simp [upd, e]
theorem table_l0 (m : Nat) (hm : m ≤ 12) (l : List S74) (hl : l.length < 4611686018427387904) (hn : natPairs m l) : ∀ (rest pre : List S74), l = pre ++ rest → Ev (fun k => impl_Party_table.l0 k (tab m (hasP pre)) l (l.length : Int) (pre.length : Int)) (tab m (hasP l))
  | [], pre, h => by
    refine Ev.one (fun k => ?_)
    have e : l = pre := by rw [h]; simp
    rw [impl_Party_table.l0, if_neg (by rw [e]; omega), e]
  | x :: rest, pre, h => by
    have hlen : pre.length < l.length := by rw [h]; simp
    obtain ⟨a, b, rfl, hab, hb⟩ := hn x (by rw [h]; simp)
    have hx : rd_T74 l (pre.length : Int) = ⟨(a : Int), (b : Int)⟩ := by rw [h]; exact rdT_mid pre rest _
    have ih := table_l0 m hm l hl hn rest (pre ++ [⟨(a : Int), (b : Int)⟩]) (by rw [h]; simp)
    rw [List.length_append, List.length_singleton, ← upd2_hasP] at ih
    refine Ev.step (fun k => ?_) ih
    rw [impl_Party_table.l0, if_pos (by omega), if_pos (by omega), if_pos (by omega), hx]
    dsimp only
    rw [tab_len, if_pos (by omega), if_pos (by omega), if_pos (by omega), Int.toNat_natCast, Int.toNat_natCast, tab_or m hm _ a b (by omega) (by omega)]
    simp only [Option.bind_some]
    rw [if_pos (by omega), tab_or m hm _ b a (by omega) (by omega), w1 (by omega)]
theorem table_ev (m : Nat) (hm : m ≤ 12) (l : List S74) (hl : l.length < 4611686018427387904) (hn : natPairs m l) : Ev (fun k => impl_Party_table.f k (m : Int) l) (tab m (hasP l)) := by
  unfold impl_Party_table.f
  simp only [if_pos (show (0 : Int) ≤ (m : Int) by omega), Int.toNat_natCast, if_pos (show m ≤ 140737488355328 by omega)]
  have := table_l0 m hm l hl hn l [] rfl
  rw [hasP_nil, tab_false] at this
  exact this

theorem GroupNumbers_common (n : Int) (l : List S74) (w : (Lit.int .i64 n).wf = true) (hl : l.length ≤ 1048576) : ∃ R : List Int × Bool, Ev (fun k => spec_GroupNumbers.f k n l) R ∧ Ev (fun k => impl_GroupNumbers.f k n l) R ∧ R.1.length ≤ 1048576 := by
  have hi := implIsParty_ev n l (by omega)
  have hg' := paGood_ev n l (by omega)
  cases h : good n l with
  | true =>
    rw [h] at hi hg'
    obtain ⟨m, rfl, hm, hn, _⟩ := good_nat h
    have hlen := all_len m hm (hasP l)
    have hsh := all_short m hm (hasP l)
    refine ⟨((([] :: ga (hasP l) m [] 0).map ints).foldl numStep [], true), ?_, ?_, ?_⟩
    · unfold spec_GroupNumbers.f
      refine Ev.bind hg' ?_
      simp only [if_true]
      refine Ev.bind (paTable_ev m hm l (by omega) hn) ?_
      simp only [grGroups_f m hm, Option.bind_some]
      exact specNums_l0 (([] :: ga (hasP l) m [] 0).map ints) (by omega) hsh _ [] [] rfl (by simp)
    · obtain ⟨h2, h3⟩ := all_groups m hm (hasP l) (hasP_symm l) (hasP_irrefl m l hn)
      unfold impl_GroupNumbers.f
      refine Ev.bind hi ?_
      simp only [if_true]
      refine Ev.bind (table_ev m hm l (by omega) hn) ?_
      rw [if_pos ⟨by rw [tab_len]; exact hm, h3⟩, h2]
      exact Ev.now _
    · have := nums_len (([] :: ga (hasP l) m [] 0).map ints) [] 13 (by simp) (fun c hc => by have := hsh c hc; omega)
      show (List.foldl numStep [] _).length ≤ _
      omega
  | false =>
    rw [h] at hi hg'
    refine ⟨([], false), ?_, ?_, by simp⟩
    · unfold spec_GroupNumbers.f
      refine Ev.bind hg' ?_
      simp only [Bool.false_eq_true, if_false]; exact Ev.now _
    · unfold impl_GroupNumbers.f
      refine Ev.bind hi ?_
      simp only [Bool.false_eq_true, if_false]; exact Ev.now _

def conv (l : List S79) : List S74 := l.map fun x => ⟨x.f0, x.f1⟩
theorem conv_len (l : List S79) : (conv l).length = l.length := by simp [conv]
theorem ext_getD {a b : List Int} (h : a.length = b.length) (hj : ∀ j, j < a.length → a.getD j 0 = b.getD j 0) : a = b := by
  apply List.ext_getElem h
  intro i h1 h2
  have := hj i h1
  simpa [List.getD_eq_getElem?_getD, h1, h2] using this
theorem eqIntS_l0 (a b : List Int) (h : a.length = b.length) (hl : a.length < 4611686018427387904) : ∀ (d i : Nat), i + d = a.length → (∀ j, j < i → a.getD j 0 = b.getD j 0) → Ev (fun k => laws_eqIntS.l0 k a b i) (decide (a = b))
  | 0, i, hd, hj => by
    refine Ev.one (fun k => ?_)
    have : a = b := ext_getD h (fun j hj' => hj j (by omega))
    rw [laws_eqIntS.l0, if_neg (by omega)]; simp [this]
  | d + 1, i, hd, hj => by
    by_cases e : a.getD i 0 = b.getD i 0
    · refine Ev.step (f := fun k => laws_eqIntS.l0 k a b ((i + 1 : Nat) : Int)) (fun k => ?_) (eqIntS_l0 a b h hl d (i + 1) (by omega) ?_)
      · rw [laws_eqIntS.l0, if_pos (by omega), if_pos (by omega), if_pos (by omega), if_pos (by exact e), w1 (by omega)]
      · intro j hj'
        by_cases e2 : j = i
        · rw [e2]; exact e
        · exact hj j (by omega)
    · refine Ev.one (fun k => ?_)
      have : a ≠ b := fun h => e (by rw [h])
      rw [laws_eqIntS.l0, if_pos (by omega), if_pos (by omega), if_pos (by omega), if_neg (by exact e)]; simp [this]
theorem eqIntS_ev (a b : List Int) (hl : a.length < 4611686018427387904) : Ev (fun k => laws_eqIntS.f k a b) (decide (a = b)) := by
  unfold laws_eqIntS.f
  by_cases h : a.length = b.length
  · simp only [if_pos (show (a.length : Int) = (b.length : Int) by omega)]
    exact eqIntS_l0 a b h hl a.length 0 (by omega) (fun j hj => absurd hj (Nat.not_lt_zero _))
  · simp only [if_neg (show ¬ (a.length : Int) = (b.length : Int) by omega)]
    have : a ≠ b := fun e => h (by rw [e])
    exact Ev.one (fun k => by simp [this])
theorem eqIntS_self (a : List Int) (hl : a.length < 4611686018427387904) : Ev (fun k => laws_eqIntS.f k a a) true := by
  have h := eqIntS_ev a a hl
  rwa [decide_eq_true rfl] at h
theorem eqPairS_l0 (l : List S74) (hl : l.length < 4611686018427387904) : ∀ (d i : Nat), i + d = l.length → Ev (fun k => laws_eqPairS.l0 k l l i) true
  | 0, i, hd => by
    refine Ev.one (fun k => ?_)
    rw [laws_eqPairS.l0, if_neg (by omega)]
  | d + 1, i, hd => by
    refine Ev.step (fun k => ?_) (eqPairS_l0 l hl d (i + 1) (by omega))
    rw [laws_eqPairS.l0, if_pos (by omega), if_pos (by omega), if_pos (by omega), laws_eqPair.f, if_pos rfl, if_pos rfl, w1 (by omega)]
    rfl
theorem eqParty_self (a : Int) (l : List S74) (hl : l.length < 4611686018427387904) : Ev (fun k => laws_eqParty.f k a l a l) true := by
  unfold laws_eqParty.f laws_eqPairS.f
  simp only [if_true]
  have h : Ev (fun k => laws_eqPairS.l0 k l l 0) true := by simpa using eqPairS_l0 l hl l.length 0 (by omega)
  refine Ev.bind h ?_
  simp only [if_true]
  exact Ev.now _

/-- The list bears the marks m, m+1, .. -/
def Marked (m : Int) (z : List Int) : Prop := ∀ j, j < z.length → z.getD j 0 = m + j
theorem heldIntS_l0 (m : Int) (z : List Int) (h0 : 0 ≤ m) (hm : m + z.length < 4611686018427387904) (hz : Marked m z) : ∀ (d i : Nat), i + d = z.length → Ev (fun k => laws_heldIntS.l0 k z (m + i) i) (m + z.length)
  | 0, i, hd => by
    refine Ev.one (fun k => ?_)
    rw [laws_heldIntS.l0, if_neg (by omega), show i = z.length by omega]
  | d + 1, i, hd => by
    refine Ev.step (fun k => ?_) (heldIntS_l0 m z h0 hm hz d (i + 1) (by omega))
    rw [laws_heldIntS.l0, if_pos (by omega), if_pos (by omega), if_pos (by exact hz i (by omega)), w1 (by omega), w64 (by omega) (by omega), show m + (i : Int) + 1 = m + ((i + 1 : Nat) : Int) by omega]
theorem heldIntS_ev (z : List Int) (m : Int) (h0 : 0 ≤ m) (hm : m + z.length < 4611686018427387904) (hz : Marked m z) : Ev (fun k => laws_heldIntS.f k z m) (m + z.length) := by
  unfold laws_heldIntS.f
  simpa using heldIntS_l0 m z h0 hm hz z.length 0 (by omega)

theorem getD_set (l : List Int) (i j : Nat) (v : Int) (hi : i < l.length) : (l.set i v).getD j 0 = if i = j then v else l.getD j 0 := by
  rw [List.getD_eq_getElem?_getD, List.getElem?_set]
  by_cases h : i = j
  · subst h; simp [hi]
  · simp [h]
theorem markIntS_l0 (m : Int) (n : Nat) (h0 : 0 ≤ m) (hm : m + n < 4611686018427387904) : ∀ (d i : Nat) (y : List Int), i + d = n → y.length = n → (∀ j, j < i → y.getD j 0 = m + j) → ∃ z : List Int, z.length = n ∧ Marked m z ∧ Ev (fun k => laws_markIntS.l0 k y (m + i) i) (m + n, z)
  | 0, i, y, hd, hy, h => by
    refine ⟨y, hy, fun j hj => h j (by omega), Ev.one (fun k => ?_)⟩
    rw [laws_markIntS.l0, if_neg (by omega), show i = n by omega]
  | d + 1, i, y, hd, hy, h => by
    obtain ⟨z, hz, hj, hE⟩ := markIntS_l0 m n h0 hm d (i + 1) (y.set i (m + i)) (by omega) (by simpa using hy) (fun j hj => by
      rw [getD_set _ _ _ _ (by omega)]
      by_cases e : i = j
      · simp [e]
      · rw [if_neg e]; exact h j (by omega))
    refine ⟨z, hz, hj, Ev.step (fun k => ?_) hE⟩
    rw [laws_markIntS.l0, if_pos (by omega), if_pos (by omega), w1 (by omega), w64 (by omega) (by omega), show m + (i : Int) + 1 = m + ((i + 1 : Nat) : Int) by omega]
    rfl
theorem markIntS_ev (y : List Int) (m : Int) (h0 : 0 ≤ m) (hm : m + y.length < 4611686018427387904) : ∃ z : List Int, z.length = y.length ∧ Marked m z ∧ Ev (fun k => laws_markIntS.f k y m) (m + y.length, z) := by
  obtain ⟨z, hz, hj, hE⟩ := markIntS_l0 m y.length h0 hm y.length 0 y (by omega) rfl (fun j hj => absurd hj (Nat.not_lt_zero _))
  refine ⟨z, hz, hj, ?_⟩
  unfold laws_markIntS.f
  simpa using hE
/-- The pairs bear the marks m, m+1, .. -/
def MarkedP (m : Int) (z : List S74) : Prop := ∀ j, j < z.length → z[j]? = some ⟨m + 2 * j, m + 2 * j + 1⟩
theorem getD_of_get {α : Type} (l : List α) (i : Nat) (d x : α) (h : l[i]? = some x) : l.getD i d = x := by rw [List.getD_eq_getElem?_getD, h]; rfl
theorem rdT_set (y : List S74) (i : Nat) (v : S74) (h : i < y.length) : rd_T74 (y.set i v) (i : Int) = v := getD_of_get _ i _ _ (by rw [List.getElem?_set]; simp [h])
theorem markPairS_l0 (m : Int) (n : Nat) (h0 : 0 ≤ m) (hm : m + 2 * n < 4611686018427387904) : ∀ (d i : Nat) (y : List S74), i + d = n → y.length = n → (∀ j, j < i → y[j]? = some ⟨m + 2 * j, m + 2 * j + 1⟩) → ∃ z : List S74, z.length = n ∧ MarkedP m z ∧ Ev (fun k => laws_markPairS.l0 k y (m + 2 * i) i) (m + 2 * n, z)
  | 0, i, y, hd, hy, h => by
    refine ⟨y, hy, fun j hj => h j (by omega), Ev.one (fun k => ?_)⟩
    rw [laws_markPairS.l0, if_neg (by omega), show i = n by omega]
  | d + 1, i, y, hd, hy, h => by
    have hi : i < y.length := by omega
    obtain ⟨z, hz, hj, hE⟩ := markPairS_l0 m n h0 hm d (i + 1) (y.set i ⟨m + 2 * i, m + 2 * i + 1⟩) (by omega) (by simpa using hy) (fun j hj => by
      rw [List.getElem?_set]
      by_cases e : i = j
      · subst e; simp [hi]
      · rw [if_neg e]; exact h j (by omega))
    refine ⟨z, hz, hj, Ev.step (fun k => ?_) hE⟩
    rw [laws_markPairS.l0, if_pos (by omega), if_pos (by omega)]
    simp only [Option.bind_some, Int.toNat_natCast]
    rw [rdT_set _ _ _ (by omega), List.set_set, w1 (by omega), w64 (i := m + 2 * (i : Int) + 1) (by omega) (by omega), w64 (by omega) (by omega), show m + 2 * (i : Int) + 1 + 1 = m + 2 * ((i + 1 : Nat) : Int) by omega]
theorem markParty_ev (a : Int) (y : List S74) (m : Int) (h0 : 0 ≤ m) (hm : m + 2 * y.length < 4611686018427387904) : ∃ z : List S74, z.length = y.length ∧ MarkedP m z ∧ Ev (fun k => laws_markParty.f k a y m) (m + 2 * y.length, z) := by
  obtain ⟨z, hz, hj, hE⟩ := markPairS_l0 m y.length h0 hm y.length 0 y (by omega) rfl (fun j hj => absurd hj (Nat.not_lt_zero _))
  refine ⟨z, hz, hj, ?_⟩
  unfold laws_markParty.f laws_markPairS.f
  have hE' : Ev (fun k => laws_markPairS.l0 k y m 0) (m + 2 * y.length, z) := by simpa using hE
  exact Ev.bind hE' (Ev.now _)
theorem szParty_f (a0 : Int) (l : List S79) (a1 : Int) (h0 : 0 ≤ a1) (h1 : a1 ≤ 1048576) (hl : l.length ≤ maxLen) : laws_szParty.f a0 l a1 = some (if a1 - l.length < 0 then -1 else a1 - l.length) := by
  unfold maxLen at hl
  unfold laws_szParty.f laws_szPairS.f
  rw [w64 (by omega) (by omega)]
  by_cases h : a1 - l.length < 0
  · simp [h]
  · simp [h]
theorem toPairS_l0 (l : List S79) (hl : l.length < 4611686018427387904) : ∀ (d i : Nat) (y : List S74), i + d = l.length → y.length = l.length → (∀ j, j < i → y[j]? = (conv l)[j]?) → Ev (fun k => laws_toPairS.l0 k l y i) (conv l)
  | 0, i, y, hd, hy, h => by
    refine Ev.one (fun k => ?_)
    have e : y = conv l := by
      apply List.ext_getElem?
      intro j
      by_cases hj : j < i
      · exact h j hj
      · rw [List.getElem?_eq_none (by omega), List.getElem?_eq_none (by rw [conv_len]; omega)]
    rw [laws_toPairS.l0, if_neg (by omega), e]
  | d + 1, i, y, hd, hy, h => by
    have hi : i < l.length := by omega
    have hx : rd_T79 l (i : Int) = l[i] := getD_of_get l i _ _ (List.getElem?_eq_getElem hi)
    refine Ev.step (fun k => ?_) (toPairS_l0 l hl d (i + 1) (y.set i ⟨l[i].f0, l[i].f1⟩) (by omega) (by simpa using hy) ?_)
    · rw [laws_toPairS.l0, if_pos (by omega), if_pos (by omega), hx, laws_toPair.f]
      simp only [Option.bind_some]
      rw [if_pos (by omega), w1 (by omega)]
      rfl
    · intro j hj
      rw [List.getElem?_set]
      by_cases e : i = j
      · subst e
        have hiy : i < y.length := by omega
        simp [conv, hi, hiy]
      · rw [if_neg e]; exact h j (by omega)
theorem toPairS_ev (l : List S79) (hl : l.length ≤ 17592186044416) : Ev (fun k => laws_toPairS.f k l) (conv l) := by
  unfold laws_toPairS.f
  simp only [if_pos (show (0 : Int) ≤ (l.length : Int) by omega), if_pos (show ((l.length : Int) : Int).toNat ≤ 17592186044416 by simpa using hl)]
  exact toPairS_l0 l (by omega) l.length 0 _ (by omega) (by simp) (fun j hj => absurd hj (Nat.not_lt_zero _))
theorem toParty_ev (a : Int) (l : List S79) (hl : l.length ≤ 17592186044416) : Ev (fun k => laws_toParty.f k a l) (a, conv l) := by
  unfold laws_toParty.f
  exact Ev.bind (toPairS_ev l hl) (Ev.now _)
theorem FnExactGroupNumbers : ∀ (a0 : Int) (l0 : List S79), (Lit.int .i64 a0).wf = true → l0.length ≤ maxLen → (∀ x ∈ l0, ∃ m n : Int, x = ⟨m, n⟩ ∧ (Lit.int .i64 m).wf = true ∧ (Lit.int .i64 n).wf = true) → ∃ k, laws_FnExactGroupNumbers.f k a0 l0 = some true := by
  intro a0 l0 w0 hm0 hw0
  refine Ev.rounds ?_
  unfold laws_FnExactGroupNumbers.f
  simp only [szParty_f a0 l0 1048576 (by omega) (by omega) hm0, Option.bind_some]
  by_cases hg0 : 1048576 - (l0.length : Int) < 0
  · simp only [if_pos hg0, show ((-1 : Int) < 0) from by decide, if_true]; exact Ev.now _
  simp only [if_neg hg0]
  have hlen0 : l0.length ≤ 1048576 := by omega
  have hcl0 := conv_len l0
  obtain ⟨R, hs, hi, hr0⟩ := GroupNumbers_common a0 (conv l0) w0 (by rw [conv_len]; omega)
  refine Ev.bind (toParty_ev a0 l0 (by omega)) ?_
  refine Ev.bind hs ?_
  try simp only [if_true, if_false, bne_self_eq_false, Bool.false_eq_true, ↓reduceIte, decide_true]
  refine Ev.bind (toParty_ev a0 l0 (by omega)) ?_
  refine Ev.bind hi ?_
  try simp only [if_true, if_false, bne_self_eq_false, Bool.false_eq_true, ↓reduceIte, decide_true]
  refine Ev.bind (eqIntS_self R.1 (by omega)) ?_
  try simp only [if_true, if_false, bne_self_eq_false, Bool.false_eq_true, ↓reduceIte, decide_true]
  try simp only [if_true, if_false, bne_self_eq_false, Bool.false_eq_true, ↓reduceIte, decide_true]
  refine Ev.step (fun k => rfl) ?_
  simp only [laws_FnExactGroupNumbers.j0]
  try simp only [if_true, if_false, bne_self_eq_false, Bool.false_eq_true, ↓reduceIte, decide_true]
  refine Ev.bind (toParty_ev a0 l0 (by omega)) ?_
  refine Ev.bind (eqParty_self a0 (conv l0) (by omega)) ?_
  try simp only [if_true, if_false, bne_self_eq_false, Bool.false_eq_true, ↓reduceIte, decide_true]
  obtain ⟨zk1, hzk1, _, hEk1⟩ := markParty_ev a0 (conv l0) (1 : Int) (by omega) (by omega)
  refine Ev.bind hEk1 ?_
  try simp only [if_true, if_false, bne_self_eq_false, Bool.false_eq_true, ↓reduceIte, decide_true]
  simp only [if_neg (show ¬ (((1 : Int) + 2 * ((conv l0).length : Int)) < 0) by omega)]
  refine Ev.bind (eqIntS_self R.1 (by omega)) ?_
  try simp only [if_true, if_false, bne_self_eq_false, Bool.false_eq_true, ↓reduceIte, decide_true]
  try simp only [if_true, if_false, bne_self_eq_false, Bool.false_eq_true, ↓reduceIte, decide_true]
  refine Ev.step (fun k => rfl) ?_
  simp only [laws_FnExactGroupNumbers.j1]
  try simp only [if_true, if_false, bne_self_eq_false, Bool.false_eq_true, ↓reduceIte, decide_true]
  obtain ⟨zm, hzm, hmm, hEm⟩ := markIntS_ev R.1 1 (by omega) (by omega)
  refine Ev.bind hEm ?_
  try simp only [if_true, if_false, bne_self_eq_false, Bool.false_eq_true, ↓reduceIte, decide_true]
  refine Ev.bind (heldIntS_ev zm 1 (by omega) (by omega) hmm) ?_
  simp only [hzm, if_neg (show ¬ ((1 + (R.1.length : Int)) < 0) by omega), if_true]
  refine Ev.bind (toParty_ev a0 l0 (by omega)) ?_
  refine Ev.bind hi ?_
  try simp only [if_true, if_false, bne_self_eq_false, Bool.false_eq_true, ↓reduceIte, decide_true]
  refine Ev.bind (eqIntS_self R.1 (by omega)) ?_
  try simp only [if_true, if_false, bne_self_eq_false, Bool.false_eq_true, ↓reduceIte, decide_true]
  try simp only [if_true, if_false, bne_self_eq_false, Bool.false_eq_true, ↓reduceIte, decide_true]
  refine Ev.step (fun k => rfl) ?_
  simp only [laws_FnExactGroupNumbers.j2]
  try simp only [if_true, if_false, bne_self_eq_false, Bool.false_eq_true, ↓reduceIte, decide_true]
  refine Ev.bind (heldIntS_ev zm 1 (by omega) (by omega) hmm) ?_
  simp only [hzm, if_neg (show ¬ ((1 + (R.1.length : Int)) < 0) by omega), if_true]
  exact Ev.now _
end Go.Proofs.YtifkaefccghgdaaDoor.Pure
