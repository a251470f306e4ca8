/- The program's PartsOfParty returns what the reference's returns, for all arguments (the plain statement behind the walk of lawss.py); no condition. -/
import Derived.Lib.TrailingZeros
import Derived.Test.YtialimbdkokdcaaDoorPx0
import Derived.Test.YtialimbdkokdcaaDoorPx1
import Derived.Test.YtialimbdkokdcaaDoorPx4
import Derived.Test.YtialimbdkokdcaaDoorPx5
import Derived.Test.YtialimbdkokdcaaDoorPx6
import Derived.Test.YtialimbdkokdcaaDoorPx8
namespace Go.Proofs.YtialimbdkokdcaaDoor.Pure
open Go.RowKit Go.Proofs.YtialimbdkokdcaaDoor.P Go.Proofs.YtialimbdkokdcaaDoorW.PrintWords Go.Proofs.YtialimbdkokdcaaDoorW.PrintLast
set_option linter.unusedSimpArgs false
set_option linter.unusedVariables false
/-! ### tables of bits -/
def bitsOf : Nat → (Nat → Bool) → Nat
  | 0, _ => 0
  | m + 1, f => bitsOf m f + (f m).toNat * 2 ^ m
theorem bitsOf_lt : ∀ (m : Nat) (f : Nat → Bool), bitsOf m f < 2 ^ m
  | 0, _ => by simp [bitsOf]
  | m + 1, f => by
    have := bitsOf_lt m f
    have h2 : (f m).toNat * 2 ^ m ≤ 2 ^ m := by cases f m <;> simp
    rw [bitsOf, Nat.pow_succ]; omega
theorem testBit_bitsOf : ∀ (m : Nat) (f : Nat → Bool) (i : Nat), (bitsOf m f).testBit i = (decide (i < m) && f i)
  | 0, f, i => by simp [bitsOf]
  | m + 1, f, i => by
    have ih := testBit_bitsOf m f
    by_cases hi : i < m
    · have h1 : i < m + 1 := by omega
      cases hf : f m with
      | false => simp [bitsOf, hf, ih i, hi, h1]
      | true => rw [bitsOf, hf, Bool.toNat_true, Nat.one_mul, Nat.add_comm, Nat.testBit_two_pow_add_gt hi, ih i]; simp [hi, h1]
    · by_cases e : i = m
      · subst e
        cases hf : f i with
        | false => simp [bitsOf, hf, ih i]
        | true => rw [bitsOf, hf, Bool.toNat_true, Nat.one_mul, Nat.add_comm, Nat.testBit_two_pow_add_eq, ih i]; simp
      · have h1 : ¬ i < m + 1 := by omega
        rw [Nat.testBit_lt_two_pow (Nat.lt_of_lt_of_le (bitsOf_lt (m + 1) f) (Nat.pow_le_pow_right (by decide) (by omega)))]
        simp [h1]
theorem bitsOf_none (m : Nat) : bitsOf m (fun _ => false) = 0 := by
  apply Nat.eq_of_testBit_eq
  intro i
  rw [testBit_bitsOf]; simp
def blR (m : Nat) (f : Nat → Bool) : List Bool := (List.range m).map f
def crowd (n : Int) : Bool := decide (0 ≤ n ∧ n ≤ 12)
def lt2 (p q : S68) : Bool := decide (p.f0 < q.f0) || (decide (p.f0 = q.f0) && decide (p.f1 < q.f1))
def okPrev : Option S68 → S68 → Bool
  | none, _ => true
  | some p, x => lt2 p x
def okFrom (n : Int) : Option S68 → List S68 → Bool
  | _, [] => true
  | prev, x :: xs => (decide (0 ≤ x.f0) && (decide (x.f0 < x.f1) && (decide (x.f1 < n) && okPrev prev x))) && okFrom n (some x) xs
def good (n : Int) (l : List S68) : Bool := crowd n && okFrom n none l
def natPairs (m : Nat) (l : List S68) : Prop := ∀ x ∈ l, ∃ a b : Nat, x = ⟨(a : Int), (b : Int)⟩ ∧ a < b ∧ b < m
theorem okFrom_nat (m : Nat) : ∀ (l : List S68) (p : Option S68), okFrom (m : Int) p l = true → natPairs m l
  | [], _, _ => fun x hx => by simp at hx
  | x :: xs, p, h => by
    simp only [okFrom, Bool.and_eq_true, decide_eq_true_eq] at h
    obtain ⟨⟨h0, h1, h2, _⟩, h3⟩ := h
    intro y hy
    rcases List.mem_cons.1 hy with rfl | hy
    · refine ⟨y.f0.toNat, y.f1.toNat, ?_, by omega, by omega⟩
      rw [Int.toNat_of_nonneg h0, Int.toNat_of_nonneg (by omega)]
    · exact okFrom_nat m xs _ h3 y hy
theorem good_nat {n : Int} {l : List S68} (h : good n l = true) : ∃ m : Nat, n = (m : Int) ∧ m ≤ 12 ∧ natPairs m l ∧ okFrom (m : Int) none l = true := by
  unfold good crowd at h
  simp only [Bool.and_eq_true, decide_eq_true_eq] at h
  obtain ⟨⟨h0, h1⟩, h2⟩ := h
  obtain ⟨m, rfl⟩ := Int.eq_ofNat_of_zero_le h0
  exact ⟨m, rfl, by omega, okFrom_nat m l none h2, h2⟩
abbrev Rel := Nat → Nat → Bool
def hasP (l : List S68) : Rel := fun a b => l.any fun x => (x.f0 == (a : Int) && x.f1 == (b : Int)) || (x.f0 == (b : Int) && x.f1 == (a : Int))
theorem hasP_symm (l : List S68) (x y : Nat) : hasP l x y = hasP l y x := by
  unfold hasP; congr 1; funext z; rw [Bool.or_comm]
theorem Ev.cast {α : Type} {g : Nat → Option α} {a b : α} (h : Ev g a) (e : a = b) : Ev g b := e ▸ h
theorem Ev.one {α : Type} {g : Nat → Option α} {r : α} (h : ∀ k, g (k + 1) = some r) : Ev g r := Ev.step h (Ev.now r)
theorem within_f (a lo hi : Int) : impl_within.f a lo hi = some (decide (lo ≤ a) && decide (a ≤ hi)) := by
  unfold impl_within.f
  by_cases h : lo ≤ a
  · rw [if_pos h]; simp [h]
  · rw [if_neg h]; simp [h]
theorem areCrowd_f (a : Int) : impl_areCrowd.f a = some (decide (0 ≤ a ∧ a ≤ 12)) := by
  unfold impl_areCrowd.f
  rw [within_f]; simp [Bool.decide_and]
def cmp3 (a b : Int) : Int := if a < b then -1 else if a > b then 1 else 0
def cmpP (p q : S68) : Int := if cmp3 p.f0 q.f0 = 0 then cmp3 p.f1 q.f1 else cmp3 p.f0 q.f0
theorem cmpP_neg (p q : S68) : decide (cmpP p q ≥ 0) = !lt2 p q := by
  unfold cmpP cmp3 lt2
  by_cases h1 : p.f0 < q.f0
  · simp [h1]
  · by_cases h2 : p.f0 > q.f0
    · have h3 : ¬ p.f0 = q.f0 := by omega
      simp [h1, h2, h3]
    · have h3 : p.f0 = q.f0 := by omega
      by_cases h4 : p.f1 < q.f1
      · simp [h3, h4]
      · by_cases h5 : p.f1 > q.f1
        · simp [h3, h4, h5]
        · simp [h3, h4, h5]
theorem cmpOr_ev (a b : Int) : Ev (fun k => cmp_Or_int.f k [a, b]) (if a = 0 then b else a) := by
  refine ⟨3, fun k hk => ?_⟩
  obtain ⟨k, rfl⟩ : ∃ m, k = m + 3 := ⟨k - 3, by omega⟩
  have e1 : wrap64 (0 + 1) = 1 := by unfold wrap64; omega
  have e2 : wrap64 (1 + 1) = 2 := by unfold wrap64; omega
  have r0 : rd [a, b] 0 = a := rfl
  have r1 : rd [a, b] 1 = b := rfl
  simp only [cmp_Or_int.f, cmp_Or_int.l0, List.length_cons, List.length_nil, r0, r1, e1, e2]
  by_cases h : a = 0
  · by_cases h2 : b = 0
    · simp [h, h2]
    · simp [h, h2]
  · simp [h]
theorem compare_f (a b : Int) : cmp_Compare_int.f a b = some (cmp3 a b) := by
  unfold cmp_Compare_int.f cmp_isNaN_int.f cmp3
  simp
  by_cases h : a < b
  · simp [h]
  · by_cases h2 : a > b
    · simp [h, h2]
    · simp [h, h2]
theorem comparePairs_ev (p q : S68) : Ev (fun k => impl_comparePairs.f k p.f0 p.f1 q.f0 q.f1) (cmpP p q) := by
  unfold impl_comparePairs.f
  simp only [compare_f, Option.bind_some]
  exact Ev.bind (cmpOr_ev _ _) (Ev.now _)
theorem rdT_mid (pre rest : List S68) (x : S68) : rd_T68 (pre ++ x :: rest) (pre.length : Int) = x := by
  unfold rd_T68
  simp [List.getD_eq_getElem?_getD]
theorem w1 {n : Nat} (h : n < 4611686018427387904) : wrap64 ((n : Int) + 1) = ((n + 1 : Nat) : Int) := by unfold wrap64; omega
theorem w64 {i : Int} (h0 : -9223372036854775808 ≤ i) (h : i ≤ 9223372036854775807) : wrap64 i = i := by unfold wrap64; omega
theorem implIsParty_l0 (n : Int) (l : List S68) (hl : l.length < 4611686018427387904) : ∀ (rest pre : List S68), l = pre ++ rest → Ev (fun k => impl_IsParty.l0 k l (l.length : Int) (pre.length : Int) n l) (okFrom n pre.getLast? rest && crowd n)
  | [], pre, h => by
    refine Ev.one (fun k => ?_)
    have e : l.length = pre.length := by rw [h]; simp
    rw [impl_IsParty.l0, if_neg (by omega), areCrowd_f]
    simp [okFrom, crowd]
  | x :: rest, pre, h => by
    have hlen : pre.length < l.length := by rw [h]; simp
    have hx : rd_T68 l (pre.length : Int) = x := by rw [h]; exact rdT_mid pre rest x
    have ih := implIsParty_l0 n l hl rest (pre ++ [x]) (by rw [h]; simp)
    rw [List.getLast?_concat, List.length_append, List.length_singleton] at ih
    by_cases c1 : x.f0 < 0
    · refine Ev.one (fun k => ?_)
      rw [impl_IsParty.l0, if_pos (by omega), if_pos (by omega), if_pos (by omega), hx, if_pos c1]
      have : decide (0 ≤ x.f0) = false := by simp; omega
      simp [okFrom, this]
    by_cases c2 : x.f0 ≥ x.f1
    · refine Ev.one (fun k => ?_)
      rw [impl_IsParty.l0, if_pos (by omega), if_pos (by omega), if_pos (by omega), hx, if_neg c1, if_pos c2]
      have : decide (x.f0 < x.f1) = false := by simp; omega
      simp [okFrom, this]
    by_cases c3 : x.f1 ≥ n
    · refine Ev.one (fun k => ?_)
      rw [impl_IsParty.l0, if_pos (by omega), if_pos (by omega), if_pos (by omega), hx, if_neg c1, if_neg c2, if_pos c3]
      have : decide (x.f1 < n) = false := by simp; omega
      simp [okFrom, this]
    have d1 : decide (0 ≤ x.f0) = true := by simp; omega
    have d2 : decide (x.f0 < x.f1) = true := by simp; omega
    have d3 : decide (x.f1 < n) = true := by simp; omega
    rcases List.eq_nil_or_concat pre with rfl | ⟨q, p, rfl⟩
    · refine Ev.cast (Ev.step (fun k => ?_) ih) ?_
      · rw [impl_IsParty.l0, if_pos (by omega), if_pos (by omega), if_pos (by omega), hx, if_neg c1, if_neg c2, if_neg c3, if_neg (by simp), w1 (by simp)]
      · simp [okFrom, d1, d2, d3, okPrev]
    · rw [List.concat_eq_append] at hlen hx ih h ⊢
      have hp : rd_T68 l (q.length : Int) = p := by rw [h, List.append_assoc]; exact rdT_mid q (x :: rest) p
      have hq : (q ++ [p]).length = q.length + 1 := by simp
      rw [hq] at hlen hx ih ⊢
      refine Ev.step (f := fun k => (impl_comparePairs.f k p.f0 p.f1 x.f0 x.f1).bind fun t => if t ≥ 0 then some false else impl_IsParty.l0 k l (l.length : Int) ((q.length + 1 + 1 : Nat) : Int) n l) (fun k => ?_) (Ev.bind (comparePairs_ev p x) ?_)
      · rw [impl_IsParty.l0, if_pos (by omega), if_pos (by omega), if_pos (by omega), hx, if_neg c1, if_neg c2, if_neg c3, if_pos (by omega), w64 (i := ((q.length + 1 : Nat) : Int) - 1) (by omega) (by omega), show ((q.length + 1 : Nat) : Int) - 1 = (q.length : Int) by omega, if_pos (by omega), if_pos (by omega), hp, w1 (by omega)]
      · have hc := cmpP_neg p x
        rw [List.getLast?_concat]
        by_cases hlt : lt2 p x = true
        · have c4 : ¬ cmpP p x ≥ 0 := by rw [hlt] at hc; simpa using hc
          simp only [if_neg c4]
          refine Ev.cast ih ?_
          simp [okFrom, d1, d2, d3, okPrev, hlt]
        · have hlt' : lt2 p x = false := by simpa using hlt
          have c4 : cmpP p x ≥ 0 := by rw [hlt'] at hc; simpa using hc
          simp only [if_pos c4]
          refine Ev.cast (Ev.now _) ?_
          simp [okFrom, okPrev, hlt']
theorem implIsParty_ev (n : Int) (l : List S68) (hl : l.length < 4611686018427387904) : Ev (fun k => impl_IsParty.f k n l) (good n l) := by
  unfold impl_IsParty.f
  have := implIsParty_l0 n l hl l [] rfl
  rw [Bool.and_comm] at this
  exact this
def ints (l : List Nat) : List Int := l.map Int.ofNat
theorem ints_len (l : List Nat) : (ints l).length = l.length := by simp [ints]
theorem wraps_u16 (n : Int) (h0 : 0 ≤ n) (h1 : n < 2 ^ 16) : IntKind.u16.wrap n = n := by
  simp [IntKind.wrap, IntKind.bits, IntKind.signed]; omega
theorem and16 (x y : Nat) (hx : x < 65536) (hy : y < 65536) : Go.bits .and .u16 (x : Int) (y : Int) = ((x &&& y : Nat) : Int) := (bits_nat .u16 16 (by decide) wraps_u16 x y hx hy).1
theorem bitsOf_u16 (m : Nat) (hm : m ≤ 12) (f : Nat → Bool) : bitsOf m f < 65536 :=
  Nat.lt_of_lt_of_le (bitsOf_lt m f) (Nat.le_trans (Nat.pow_le_pow_right (by decide) hm) (by decide))
theorem bit_test (m : Nat) (hm : m ≤ 12) (f : Nat → Bool) (b : Nat) (hb : b < m) : (Go.bits .and .u16 (shr .u16 ((bitsOf m f : Nat) : Int) (b : Int)) 1 = 1) ↔ f b = true := by
  have hX := bitsOf_u16 m hm f
  have hs : shr .u16 ((bitsOf m f : Nat) : Int) (b : Int) = ((bitsOf m f / 2 ^ b : Nat) : Int) := by
    unfold shr
    rw [Int.toNat_natCast, Nat.min_eq_left (show b ≤ IntKind.u16.bits from by show b ≤ 16; omega)]
    simp
  have hd : bitsOf m f / 2 ^ b < 65536 := Nat.lt_of_le_of_lt (Nat.div_le_self _ _) hX
  have ht := testBit_bitsOf m f b
  rw [Nat.testBit_eq_decide_div_mod_eq] at ht
  have e1 : Go.bits .and .u16 ((bitsOf m f / 2 ^ b : Nat) : Int) 1 = ((bitsOf m f / 2 ^ b % 2 : Nat) : Int) := by
    have := and16 (bitsOf m f / 2 ^ b) 1 hd (by decide)
    rw [Nat.and_one_is_mod] at this
    exact this
  rw [hs, e1]
  simp only [hb, decide_true, Bool.true_and] at ht
  rw [← ht, decide_eq_true_eq]
  omega
theorem bitsOf_one (m : Nat) (b : Nat) (hb : b < m) : 2 ^ b = bitsOf m fun x => x == b := by
  apply Nat.eq_of_testBit_eq
  intro i
  rw [testBit_bitsOf, Nat.testBit_two_pow]
  by_cases e : i = b
  · subst e; simp [hb]
  · have e' : ¬ b = i := fun h => e h.symm
    simp [e, e']
def reach1 (m : Nat) (r : Rel) (f : Nat → Bool) : Nat → Bool := fun x => f x || (List.range m).any fun a => f a && r a x
def reachN (m : Nat) (r : Rel) : Nat → (Nat → Bool) → Nat → Bool
  | 0, f => f
  | k + 1, f => reachN m r k (reach1 m r f)
def comp (m : Nat) (r : Rel) (s : Nat) : Nat → Bool := reachN m r m fun x => x == s
theorem bitsOf_or2 (m : Nat) (f g : Nat → Bool) : bitsOf m f ||| bitsOf m g = bitsOf m fun x => f x || g x := by
  apply Nat.eq_of_testBit_eq
  intro i
  rw [Nat.testBit_or, testBit_bitsOf, testBit_bitsOf, testBit_bitsOf]
  cases decide (i < m) <;> simp
theorem bitsOf_congr (m : Nat) (f g : Nat → Bool) (h : ∀ i, i < m → f i = g i) : bitsOf m f = bitsOf m g := by
  apply Nat.eq_of_testBit_eq
  intro i
  rw [testBit_bitsOf, testBit_bitsOf]
  by_cases hi : i < m
  · simp [hi, h i hi]
  · simp [hi]
theorem fold_reach (m : Nat) (r : Rel) (g : Nat → Bool) (x : Nat) : ∀ (L : List Nat) (f : Nat → Bool), L.foldl (fun g a x => g x || r a x) f x = (f x || L.any fun a => r a x)
  | [], f => by simp
  | a :: L, f => by rw [List.foldl_cons, fold_reach m r g x L, List.any_cons, Bool.or_assoc]
theorem fold_filter (m : Nat) (r : Rel) (g : Nat → Bool) : bitsOf m (((List.range m).filter g).foldl (fun g a x => g x || r a x) g) = bitsOf m (reach1 m r g) := bitsOf_congr m _ _ fun x _ => by
  rw [fold_reach m r g x, List.any_filter]
  rfl
theorem or16 (x y : Nat) (hx : x < 65536) (hy : y < 65536) : Go.bits .or .u16 (x : Int) (y : Int) = ((x ||| y : Nat) : Int) := (bits_nat .u16 16 (by decide) wraps_u16 x y hx hy).2
def tab (m : Nat) (r : Rel) : List Int := (List.range m).map fun a => ((bitsOf m (r a) : Nat) : Int)
theorem map_range_getD {α : Type} (m : Nat) (f : Nat → α) (d : α) (a : Nat) (h : a < m) : ((List.range m).map f).getD a d = f a := by simp [List.getD_eq_getElem?_getD, h]
theorem tab_at (m : Nat) (r : Rel) (a : Nat) (h : a < m) : rd (tab m r) (a : Int) = ((bitsOf m (r a) : Nat) : Int) := map_range_getD m _ _ a h
theorem tab_len (m : Nat) (r : Rel) : (tab m r).length = m := by simp [tab]
theorem iparts_l2_ev (m : Nat) (hm : m ≤ 12) (r : Rel) (P : List (List Int)) (S : Nat → Bool) (s j : Nat) (hj : j < 1000) (R : List (List Int)) : ∀ (rest pre : List Nat) (g : Nat → Bool), pre.length + rest.length ≤ 1000 → (∀ b ∈ rest, b < m) →
    Ev (fun k => impl_table_parts.l1 k (tab m r) P ((bitsOf m S : Nat) : Int) ((bitsOf m (rest.foldl (fun g a x => g x || r a x) g) : Nat) : Int) (m : Int) (s : Int) (m : Int) ((j + 1 : Nat) : Int)) R →
    Ev (fun k => impl_table_parts.l2 k (tab m r) P ((bitsOf m S : Nat) : Int) ((bitsOf m g : Nat) : Int) (m : Int) (s : Int) (m : Int) (j : Int) (ints (pre ++ rest)) ((ints (pre ++ rest)).length : Int) (pre.length : Int)) R
  | [], pre, g, _, _, h => by
    refine Ev.step (fun k => ?_) h
    rw [impl_table_parts.l2, ints_len, List.append_nil, if_neg (by omega), w1 (by omega)]
    rfl
  | b :: rest, pre, g, hp, hb, h => by
    rw [List.length_cons] at hp
    have hbm := hb b List.mem_cons_self
    have hrd : rd (ints (pre ++ b :: rest)) (pre.length : Int) = (b : Int) := by
      unfold rd ints
      rw [Int.toNat_natCast, List.getD_eq_getElem?_getD, List.getElem?_map, List.getElem?_append_right (Nat.le_refl _), Nat.sub_self]
      rfl
    have hlen : (ints (pre ++ b :: rest)).length = pre.length + (rest.length + 1) := by rw [ints_len, List.length_append, List.length_cons]
    have ih := iparts_l2_ev m hm r P S s j hj R rest (pre ++ [b]) (fun x => g x || r b x) (by simp; omega) (fun x hx => hb x (List.mem_cons_of_mem _ hx)) h
    rw [List.append_assoc, List.singleton_append, List.length_append, List.length_singleton] at ih
    refine Ev.step (fun k => ?_) ih
    rw [impl_table_parts.l2, hlen, if_pos (by omega), if_pos (by omega), if_pos (by omega), hrd, if_pos (by omega), tab_len, if_pos (by omega), tab_at m r b hbm, or16 _ _ (bitsOf_u16 m hm _) (bitsOf_u16 m hm _), bitsOf_or2, w1 (by omega)]
def lst (s : Nat) : List Nat := (List.range 16).filter s.testBit
theorem low_bits (c m i : Nat) : ((2 ^ c * (2 * m + 1)).testBit i = if i < c then false else (2 * m + 1).testBit (i - c)) := by
  have := Nat.testBit_two_pow_mul_add (2 * m + 1) (b := 0) (i := c) (by exact Nat.two_pow_pos c) i
  simpa using this
theorem pred_bits (c m i : Nat) : ((2 ^ c * (2 * m + 1) - 1).testBit i = if i < c then true else (2 * m).testBit (i - c)) := by
  have e : 2 ^ c * (2 * m + 1) - 1 = 2 ^ c * (2 * m) + (2 ^ c - 1) := by
    have := Nat.two_pow_pos c
    rw [Nat.mul_add, Nat.mul_one]; omega
  rw [e, Nat.testBit_two_pow_mul_add (2 * m) (b := 2 ^ c - 1) (i := c) (by have := Nat.two_pow_pos c; omega) i]
  split
  · rename_i h; rw [Nat.testBit_two_pow_sub_one]; simpa using h
  · rfl
theorem clear_bit (c m i : Nat) : ((2 ^ c * (2 * m + 1)) &&& (2 ^ c * (2 * m + 1) - 1)).testBit i = ((2 ^ c * (2 * m + 1)).testBit i && i != c) := by
  rw [Nat.testBit_and, low_bits, pred_bits]
  by_cases h : i < c
  · simp [h]
  · rw [if_neg h, if_neg h]
    by_cases he : i = c
    · subst he; simp
    · have h2 : i - c = (i - c - 1) + 1 := by omega
      have h3 : (i != c) = true := by simpa using he
      rw [h2, Nat.testBit_succ, Nat.testBit_succ, h3]
      have a1 : (2 * m + 1) / 2 = m := by omega
      have a2 : (2 * m) / 2 = m := by omega
      rw [a1, a2]; simp
theorem filter_first (p : Nat → Bool) (c : Nat) (hc : p c = true) : ∀ (len lo : Nat), lo ≤ c → c < lo + len → (∀ i, lo ≤ i → i < c → p i = false) →
    (List.range' lo len).filter p = c :: (List.range' lo len).filter (fun i => p i && i != c)
  | 0, lo, h1, h2, _ => by omega
  | len + 1, lo, h1, h2, h3 => by
    rw [List.range'_succ]
    by_cases he : lo = c
    · subst he
      rw [List.filter_cons_of_pos hc, List.filter_cons_of_neg (by simp)]
      congr 1
      refine List.filter_congr fun x hx => ?_
      have := List.mem_range'_1.1 hx
      have : (x != lo) = true := by simp; omega
      rw [this, Bool.and_true]
    · rw [List.filter_cons_of_neg (by rw [h3 lo (Nat.le_refl _) (by omega)]; simp), List.filter_cons_of_neg (by rw [h3 lo (Nat.le_refl _) (by omega)]; simp)]
      exact filter_first p c hc len (lo + 1) (by omega) (by omega) (fun i hi hic => h3 i (by omega) hic)
theorem lst_step (s : Nat) (h0 : 0 < s) (h : s < 65536) : lst s = Lib.ctz 16 s :: lst (s &&& (s - 1)) := by
  obtain ⟨m, e, hc⟩ := Lib.ctzFrom_spec 16 s h0 h
  have ec : Lib.ctz 16 s = Lib.ctzFrom 16 s := by unfold Lib.ctz; rw [if_neg (by omega)]
  rw [ec]
  generalize Lib.ctzFrom 16 s = c at e hc
  subst e
  unfold lst
  rw [List.range_eq_range', filter_first _ c (by rw [low_bits]; simp) 16 0 (by omega) (by omega) (fun i _ hi => by rw [low_bits, if_pos hi])]
  congr 1
  exact List.filter_congr fun x _ => (clear_bit c m x).symm
theorem listed_l0 : ∀ (s : Nat) (acc : List Int), s < 65536 → acc.length + s < 4611686018427 → Ev (fun k => impl_listed.l0 k (s : Int) acc) (acc ++ ints (lst s)) := by
  intro s
  induction s using Nat.strongRecOn with
  | _ s ih =>
    intro acc hs hacc
    by_cases h0 : s = 0
    · subst h0
      refine Ev.one (fun k => ?_)
      rw [impl_listed.l0, if_neg (by omega)]
      have : ints (lst 0) = [] := by decide
      rw [this, List.append_nil]
    · have hlt : s &&& (s - 1) < s := by
        have : s &&& (s - 1) ≤ s - 1 := Nat.and_le_right
        omega
      have h1 := ih (s &&& (s - 1)) hlt (acc ++ [(Lib.ctz 16 s : Int)]) (by omega) (by rw [List.length_append, List.length_singleton]; omega)
      rw [List.append_assoc] at h1
      have e : [(Lib.ctz 16 s : Int)] ++ ints (lst (s &&& (s - 1))) = ints (lst s) := by rw [lst_step s (by omega) hs]; rfl
      rw [e] at h1
      refine Ev.step (fun k => ?_) h1
      have hw : IntKind.u16.wrap ((s : Int) - 1) = ((s - 1 : Nat) : Int) := by rw [wraps_u16 _ (by omega) (by omega)]; omega
      rw [impl_listed.l0, if_pos (by omega), hw, and16 s (s - 1) hs (by omega)]
      unfold bits_TrailingZeros16.f
      rw [if_pos (by omega), Int.toNat_natCast]
      simp only [Option.bind_some]
      rw [if_pos (by omega)]
theorem listed_ev (s : Nat) (hs : s < 65536) : Ev (fun k => impl_listed.f k (s : Int)) (ints (lst s)) := by
  unfold impl_listed.f
  exact listed_l0 s [] hs (by simp; omega)
theorem filter_range_lt (p : Nat → Bool) (m : Nat) : ∀ d : Nat, (List.range (m + d)).filter (fun i => decide (i < m) && p i) = (List.range m).filter p
  | 0 => List.filter_congr fun x hx => by
    have : x < m := by simpa using hx
    simp [this]
  | d + 1 => by
    rw [← Nat.add_assoc, List.range_succ, List.filter_append, filter_range_lt p m d]
    have : ¬ (m + d < m) := by omega
    simp [this]
theorem lst_bitsOf (m : Nat) (hm : m ≤ 12) (f : Nat → Bool) : lst (bitsOf m f) = (List.range m).filter f := by
  unfold lst
  have := filter_range_lt f m (16 - m)
  rw [show m + (16 - m) = 16 by omega] at this
  rw [← this]
  exact List.filter_congr fun x _ => testBit_bitsOf m f x
theorem iparts_l1_ev (m : Nat) (hm : m ≤ 12) (r : Rel) (P : List (List Int)) (hP : P.length ≤ 100) (S : Nat → Bool) (s : Nat) (hs : s < m) (g0 : Nat → Bool) (R : List (List Int))
    (h : Ev (fun k => impl_table_parts.l0 k (tab m r) (P ++ [ints ((List.range m).filter g0)]) ((bitsOf m (fun x => S x || g0 x) : Nat) : Int) (m : Int) ((s + 1 : Nat) : Int)) R) : ∀ (d j : Nat) (g : Nat → Bool), j + d = m → reachN m r d g = g0 →
    Ev (fun k => impl_table_parts.l1 k (tab m r) P ((bitsOf m S : Nat) : Int) ((bitsOf m g : Nat) : Int) (m : Int) (s : Int) (m : Int) (j : Int)) R
  | 0, j, g, hd, hg => by
    rw [reachN] at hg
    subst hg
    refine Ev.step (f := fun k => (impl_listed.f k ((bitsOf m g : Nat) : Int)).bind fun t427 => (if P.length < 5864062014805 then (impl_table_parts.l0 k (tab m r) (P ++ [t427]) (Go.bits .or .u16 ((bitsOf m S : Nat) : Int) ((bitsOf m g : Nat) : Int)) (m : Int) (wrap64 ((s : Int) + 1))) else none)) (fun k => ?_) (Ev.bind (listed_ev (bitsOf m g) (bitsOf_u16 m hm g)) ?_)
    · rw [impl_table_parts.l1, if_neg (by omega)]
    · rw [lst_bitsOf m hm g]
      simp only [if_pos (show P.length < 5864062014805 by omega), or16 _ _ (bitsOf_u16 m hm S) (bitsOf_u16 m hm g), bitsOf_or2, w1 (show s < 4611686018427387904 by omega)]
      exact h
  | d + 1, j, g, hd, hg => by
    have ih := iparts_l1_ev m hm r P hP S s hs g0 R h d (j + 1) (reach1 m r g) (by omega) (by rw [reachN] at hg; exact hg)
    have hfl := List.length_filter_le g (List.range m)
    rw [List.length_range] at hfl
    have h2 := iparts_l2_ev m hm r P S s j (by omega) R ((List.range m).filter g) [] g (by simp; omega) (fun b hb => List.mem_range.1 (List.mem_filter.1 hb).1) (by rw [fold_filter]; exact ih)
    rw [List.nil_append] at h2
    refine Ev.step (f := fun k => (impl_listed.f k ((bitsOf m g : Nat) : Int)).bind fun t433 => impl_table_parts.l2 k (tab m r) P ((bitsOf m S : Nat) : Int) ((bitsOf m g : Nat) : Int) (m : Int) (s : Int) (m : Int) (j : Int) t433 (t433.length : Int) 0) (fun k => ?_) (Ev.bind (listed_ev (bitsOf m g) (bitsOf_u16 m hm g)) (by rw [lst_bitsOf m hm g]; exact h2))
    rw [impl_table_parts.l1, if_pos (by omega)]
/-- The parts from a person on, some having been seen. -/
def partsFrom (m : Nat) (r : Rel) : Nat → Nat → (Nat → Bool) → List (List Nat)
  | 0, _, _ => []
  | d + 1, s, S => if S s = true then partsFrom m r d (s + 1) S else (List.range m).filter (comp m r s) :: partsFrom m r d (s + 1) fun x => S x || comp m r s x
theorem shl1 (b : Nat) (h : b ≤ 12) : shl .u16 1 (b : Int) = ((2 ^ b : Nat) : Int) := by
  have : b = 0 ∨ b = 1 ∨ b = 2 ∨ b = 3 ∨ b = 4 ∨ b = 5 ∨ b = 6 ∨ b = 7 ∨ b = 8 ∨ b = 9 ∨ b = 10 ∨ b = 11 ∨ b = 12 := by omega
  rcases this with rfl | rfl | rfl | rfl | rfl | rfl | rfl | rfl | rfl | rfl | rfl | rfl | rfl <;> decide
theorem iparts_l0_ev (m : Nat) (hm : m ≤ 12) (r : Rel) : ∀ (d s : Nat) (S : Nat → Bool) (P : List (List Int)), s + d = m → P.length ≤ s → Ev (fun k => impl_table_parts.l0 k (tab m r) P ((bitsOf m S : Nat) : Int) (m : Int) (s : Int)) (P ++ (partsFrom m r d s S).map ints)
  | 0, s, S, P, hd, hP => by
    refine Ev.one fun k => ?_
    rw [impl_table_parts.l0, if_neg (by omega)]
    simp [partsFrom]
  | d + 1, s, S, P, hd, hP => by
    rw [partsFrom]
    cases h0 : S s with
    | true =>
      simp only [if_true]
      refine Ev.step (fun k => ?_) (iparts_l0_ev m hm r d (s + 1) S P (by omega) (by omega))
      rw [impl_table_parts.l0, if_pos (by omega), if_pos (by omega), if_pos ((bit_test m hm S s (by omega)).2 h0), w1 (by omega)]
    | false =>
      simp only [Bool.false_eq_true, if_false]
      have ih := iparts_l0_ev m hm r d (s + 1) (fun x => S x || comp m r s x) (P ++ [ints ((List.range m).filter (comp m r s))]) (by omega) (by simp; omega)
      rw [List.append_assoc, List.singleton_append] at ih
      have h1 := iparts_l1_ev m hm r P (by omega) S s (by omega) (comp m r s) _ ih m 0 (fun x => x == s) (by omega) rfl
      rw [List.map_cons]
      refine Ev.step (fun k => ?_) h1
      rw [impl_table_parts.l0, if_pos (by omega), if_pos (by omega), if_neg (fun h => by rw [(bit_test m hm S s (by omega)).1 h] at h0; cases h0), tab_len, shl1 s (by omega), ← bitsOf_one m s (by omega)]
      rfl
theorem map_range_const {α : Type} (c : α) : ∀ m : Nat, (List.range m).map (fun _ => c) = List.replicate m c
  | 0 => rfl
  | m + 1 => by rw [List.range_succ, List.map_append, map_range_const c m, List.replicate_succ']; rfl
/-! ### matrices -/
def mat (m : Nat) (r : Rel) : List (List Bool) := (List.range m).map fun a => (List.range m).map fun b => r a b
theorem mat_len (m : Nat) (r : Rel) : (mat m r).length = m := by simp [mat]
/-! the number of pairs -/
def below (m : Nat) : Nat → Nat
  | 0 => 0
  | a + 1 => below m a + (m - 1 - a)
theorem below_all (m : Nat) (h : m ≤ 12) : Int.tdiv ((m : Int) * ((m : Int) - 1)) 2 = (below m m : Int) := by
  have : m = 0 ∨ m = 1 ∨ m = 2 ∨ m = 3 ∨ m = 4 ∨ m = 5 ∨ m = 6 ∨ m = 7 ∨ m = 8 ∨ m = 9 ∨ m = 10 ∨ m = 11 ∨ m = 12 := by omega
  rcases this with rfl | rfl | rfl | rfl | rfl | rfl | rfl | rfl | rfl | rfl | rfl | rfl | rfl <;> rfl
/-- where a pair stands among all pairs of m people -/
def rank (m : Nat) (x : S68) : Nat := below m x.f0.toNat + (x.f1.toNat - x.f0.toNat - 1)
theorem below_mono (m a : Nat) : ∀ d, below m a ≤ below m (a + d)
  | 0 => Nat.le_refl _
  | d + 1 => Nat.le_trans (below_mono m a d) (by show below m (a + d) ≤ below m (a + d) + _; omega)
theorem rank_lt (m : Nat) (p x : S68) (h : lt2 p x = true) (p0 : 0 ≤ p.f0) (p1 : p.f0 < p.f1) (p2 : p.f1 < m) (x0 : 0 ≤ x.f0) (x1 : x.f0 < x.f1) : rank m p < rank m x := by
  unfold lt2 at h
  unfold rank
  simp at h
  rcases h with h | ⟨h, h2⟩
  · have h1 := below_mono m (p.f0.toNat + 1) (x.f0.toNat - (p.f0.toNat + 1))
    rw [show p.f0.toNat + 1 + (x.f0.toNat - (p.f0.toNat + 1)) = x.f0.toNat by omega] at h1
    have h3 : below m (p.f0.toNat + 1) = below m p.f0.toNat + (m - 1 - p.f0.toNat) := rfl
    omega
  · rw [h]; omega
theorem rank_top (m : Nat) (x : S68) (x0 : 0 ≤ x.f0) (x1 : x.f0 < x.f1) (x2 : x.f1 < m) : rank m x < below m m := by
  unfold rank
  have h1 := below_mono m (x.f0.toNat + 1) (m - (x.f0.toNat + 1))
  rw [show x.f0.toNat + 1 + (m - (x.f0.toNat + 1)) = m by omega] at h1
  have h3 : below m (x.f0.toNat + 1) = below m x.f0.toNat + (m - 1 - x.f0.toNat) := rfl
  omega
theorem okFrom_len (m : Nat) : ∀ (l : List S68) (p : S68), 0 ≤ p.f0 → p.f0 < p.f1 → p.f1 < m → okFrom m (some p) l = true → rank m p + l.length < below m m
  | [], p, p0, p1, p2, _ => rank_top m p p0 p1 p2
  | x :: xs, p, p0, p1, p2, h => by
    simp [okFrom, okPrev] at h
    obtain ⟨⟨x0, x1, x2, hlt⟩, h⟩ := h
    have ih := okFrom_len m xs x x0 x1 x2 h
    have := rank_lt m p x hlt p0 p1 p2 x0 x1
    simp only [List.length_cons]
    omega
theorem good_len (m : Nat) (l : List S68) (h : okFrom m none l = true) : l.length ≤ below m m := by
  cases l with
  | nil => simp
  | cons x xs =>
    simp [okFrom, okPrev] at h
    obtain ⟨⟨x0, x1, x2⟩, h⟩ := h
    have := okFrom_len m xs x x0 x1 x2 h
    simp only [List.length_cons]
    omega
theorem l1In_f (a lo hi : Int) : spec_l1In.f a lo hi = some (decide (lo ≤ a) && decide (a ≤ hi)) := by
  unfold spec_l1In.f
  by_cases h : lo ≤ a
  · rw [if_pos h]; simp [h]
  · rw [if_neg h]; simp [h]
theorem paLess_f (p x : S68) : spec_paLess.f p.f0 p.f1 x.f0 x.f1 = some (lt2 p x) := by
  unfold spec_paLess.f lt2
  by_cases h : p.f0 < x.f0
  · simp [h]
  · by_cases h2 : p.f0 = x.f0
    · simp [h2]
    · simp [h, h2]
theorem paGood_l0 (m : Nat) (hm : m ≤ 12) (l : List S68) (hl : l.length < 4611686018427387904) : ∀ (rest pre : List S68), l = pre ++ rest → Ev (fun k => spec_paGood.l0 k l (l.length : Int) (pre.length : Int) (m : Int) l) (okFrom m pre.getLast? rest)
  | [], pre, h => by
    refine Ev.one (fun k => ?_)
    have e : l.length = pre.length := by rw [h]; simp
    rw [spec_paGood.l0, if_neg (by omega)]
    simp [okFrom]
  | x :: rest, pre, h => by
    have hlen : pre.length < l.length := by rw [h]; simp
    have hx : rd_T68 l (pre.length : Int) = x := by rw [h]; exact rdT_mid pre rest x
    have ih := paGood_l0 m hm l hl rest (pre ++ [x]) (by rw [h]; simp)
    rw [List.getLast?_concat, List.length_append, List.length_singleton] at ih
    have em : wrap64 ((m : Int) - 1) = (m : Int) - 1 := w64 (by omega) (by omega)
    by_cases c1 : 0 ≤ x.f0 ∧ x.f0 ≤ (m : Int) - 1
    · have e1 : wrap64 (x.f0 + 1) = x.f0 + 1 := w64 (by omega) (by omega)
      have b1 : (decide (0 ≤ x.f0) && decide (x.f0 ≤ (m : Int) - 1)) = true := by simp; exact c1
      by_cases c2 : x.f0 + 1 ≤ x.f1 ∧ x.f1 ≤ (m : Int) - 1
      · have b2 : (decide (x.f0 + 1 ≤ x.f1) && decide (x.f1 ≤ (m : Int) - 1)) = true := by simp; exact c2
        have d1 : decide (0 ≤ x.f0) = true := by simp; omega
        have d2 : decide (x.f0 < x.f1) = true := by simp; omega
        have d3 : decide (x.f1 < (m : Int)) = true := by simp; omega
        rcases List.eq_nil_or_concat pre with rfl | ⟨q, p, rfl⟩
        · refine Ev.cast (Ev.step (fun k => ?_) ih) ?_
          · rw [spec_paGood.l0, if_pos (by omega), if_pos (by omega), if_pos (by omega), hx, em, e1, l1In_f, l1In_f, b1, b2]
            simp only [Option.bind_some, if_true]
            rw [if_neg (by simp), w1 (by simp)]
          · simp [okFrom, d1, d2, d3, okPrev]
        · rw [List.concat_eq_append] at hlen hx ih h ⊢
          have hp : rd_T68 l (q.length : Int) = p := by rw [h, List.append_assoc]; exact rdT_mid q (x :: rest) p
          have hq : (q ++ [p]).length = q.length + 1 := by simp
          rw [hq] at hlen hx ih ⊢
          rw [List.getLast?_concat]
          cases hlt : lt2 p x with
          | true =>
            refine Ev.cast (Ev.step (fun k => ?_) ih) ?_
            · rw [spec_paGood.l0, if_pos (by omega), if_pos (by omega), if_pos (by omega), hx, em, e1, l1In_f, l1In_f, b1, b2]
              simp only [Option.bind_some, if_true]
              rw [if_pos (by omega), w64 (i := ((q.length + 1 : Nat) : Int) - 1) (by omega) (by omega), show ((q.length + 1 : Nat) : Int) - 1 = (q.length : Int) by omega, if_pos (by omega), if_pos (by omega), hp, paLess_f, hlt, w1 (by omega)]
              rfl
            · simp [okFrom, d1, d2, d3, okPrev, hlt]
          | false =>
            refine Ev.one (fun k => ?_)
            rw [spec_paGood.l0, if_pos (by omega), if_pos (by omega), if_pos (by omega), hx, em, e1, l1In_f, l1In_f, b1, b2]
            simp only [Option.bind_some, if_true]
            rw [if_pos (by omega), w64 (i := ((q.length + 1 : Nat) : Int) - 1) (by omega) (by omega), show ((q.length + 1 : Nat) : Int) - 1 = (q.length : Int) by omega, if_pos (by omega), if_pos (by omega), hp, paLess_f, hlt]
            simp [okFrom, okPrev, hlt]
      · refine Ev.one (fun k => ?_)
        have b2 : (decide (x.f0 + 1 ≤ x.f1) && decide (x.f1 ≤ (m : Int) - 1)) = false := by simp; omega
        rw [spec_paGood.l0, if_pos (by omega), if_pos (by omega), if_pos (by omega), hx, em, e1, l1In_f, l1In_f, b1, b2]
        have : (decide (x.f0 < x.f1) && decide (x.f1 < (m : Int))) = false := by simp; omega
        simp only [okFrom, ← Bool.and_assoc (decide (x.f0 < x.f1)), this]
        simp
    · refine Ev.one (fun k => ?_)
      have b1 : (decide (0 ≤ x.f0) && decide (x.f0 ≤ (m : Int) - 1)) = false := by simp; omega
      rw [spec_paGood.l0, if_pos (by omega), if_pos (by omega), if_pos (by omega), hx, em, l1In_f, b1]
      have : (decide (0 ≤ x.f0) && (decide (x.f0 < x.f1) && (decide (x.f1 < (m : Int)) && okPrev pre.getLast? x))) = false := by
        by_cases z0 : 0 ≤ x.f0
        · by_cases z1 : x.f0 < x.f1
          · have : ¬ x.f1 < (m : Int) := by omega
            simp [this]
          · simp [z1]
        · simp [z0]
      simp [okFrom, this]
theorem paPeople_f (a : Int) : spec_paPeople.f a = some (decide (0 ≤ a ∧ a ≤ 12)) := by
  unfold spec_paPeople.f
  rw [l1In_f]; simp [Bool.decide_and]
theorem paGood_ev (n : Int) (l : List S68) (hl : l.length < 4611686018427387904) : Ev (fun k => spec_paGood.f k n l) (good n l) := by
  unfold spec_paGood.f
  rw [paPeople_f]
  by_cases h : 0 ≤ n ∧ n ≤ 12
  · obtain ⟨m, rfl⟩ := Int.eq_ofNat_of_zero_le h.1
    have hm : m ≤ 12 := by omega
    have hc : crowd (m : Int) = true := by unfold crowd; simp; omega
    have hmul : (m : Int) * ((m : Int) - 1) ≤ 144 := by
      have : m = 0 ∨ m = 1 ∨ m = 2 ∨ m = 3 ∨ m = 4 ∨ m = 5 ∨ m = 6 ∨ m = 7 ∨ m = 8 ∨ m = 9 ∨ m = 10 ∨ m = 11 ∨ m = 12 := by omega
      rcases this with rfl | rfl | rfl | rfl | rfl | rfl | rfl | rfl | rfl | rfl | rfl | rfl | rfl <;> decide
    have hmul0 : 0 ≤ (m : Int) * ((m : Int) - 1) := by
      have : m = 0 ∨ m = 1 ∨ m = 2 ∨ m = 3 ∨ m = 4 ∨ m = 5 ∨ m = 6 ∨ m = 7 ∨ m = 8 ∨ m = 9 ∨ m = 10 ∨ m = 11 ∨ m = 12 := by omega
      rcases this with rfl | rfl | rfl | rfl | rfl | rfl | rfl | rfl | rfl | rfl | rfl | rfl | rfl <;> decide
    have hb : (below m m : Int) ≤ 144 := by
      have : m = 0 ∨ m = 1 ∨ m = 2 ∨ m = 3 ∨ m = 4 ∨ m = 5 ∨ m = 6 ∨ m = 7 ∨ m = 8 ∨ m = 9 ∨ m = 10 ∨ m = 11 ∨ m = 12 := by omega
      rcases this with rfl | rfl | rfl | rfl | rfl | rfl | rfl | rfl | rfl | rfl | rfl | rfl | rfl <;> decide
    have e : wrap64 (Int.tdiv (wrap64 ((m : Int) * (wrap64 ((m : Int) - 1)))) 2) = (below m m : Int) := by
      rw [w64 (i := (m : Int) - 1) (by omega) (by omega), w64 (i := (m : Int) * ((m : Int) - 1)) (by omega) (by omega), below_all m hm, w64 (by omega) (by omega)]
    simp only [h, decide_true, Option.bind_some, if_true, e, and_self]
    unfold good
    rw [hc, Bool.true_and]
    by_cases hlen : l.length ≤ below m m
    · refine Ev.step (fun k => ?_) (paGood_l0 m hm l hl l [] rfl)
      have : decide ((l.length : Int) > (below m m : Int)) = false := by simp; omega
      rw [this, spec_paGood.j0, if_neg (by decide)]
      rfl
    · refine Ev.one (fun k => ?_)
      have : decide ((l.length : Int) > (below m m : Int)) = true := by simp; omega
      rw [this, spec_paGood.j0, if_pos rfl]
      have hn : okFrom (m : Int) none l = false := by
        cases hok : okFrom (m : Int) none l with
        | false => rfl
        | true => exact absurd (good_len m l hok) hlen
      rw [hn]
  · have hc : crowd n = false := by unfold crowd; simp; omega
    simp only [h, decide_false, Option.bind_some]
    unfold good
    rw [hc]
    refine Ev.one (fun k => ?_)
    rw [if_neg (by decide), spec_paGood.j0]; simp

theorem hasP_nil : hasP [] = fun _ _ => false := by funext x y; rfl
theorem mat_false (m : Nat) : mat m (fun _ _ => false) = List.replicate m (List.replicate m false) := by
  unfold mat; rw [map_range_const, map_range_const]
theorem mat_row (m : Nat) (r : Rel) (a : Nat) (h : a < m) : rd_L4 (mat m r) (a : Int) = (List.range m).map fun b => r a b := map_range_getD m _ _ a h
theorem map_range_congr {α : Type} (m : Nat) (f g : Nat → α) (h : ∀ a, a < m → f a = g a) : (List.range m).map f = (List.range m).map g := List.map_congr_left fun a ha => h a (List.mem_range.1 ha)
theorem map_range_set {α : Type} (m : Nat) (f : Nat → α) (a : Nat) (v : α) : ((List.range m).map f).set a v = (List.range m).map fun i => if i = a then v else f i := by
  apply List.ext_getElem?
  intro j
  rw [List.getElem?_set]
  by_cases hj : j < m
  · by_cases e : a = j
    · subst e; simp [hj]
    · have e' : ¬ j = a := fun h => e h.symm
      simp [hj, e, e']
  · by_cases e : a = j
    · subst e; simp [hj]
    · simp [hj, e]
def upd (r : Rel) (a b : Nat) (v : Bool) : Rel := fun x y => if x = a ∧ y = b then v else r x y
theorem mat_set (m : Nat) (r : Rel) (a b : Nat) (v : Bool) (ha : a < m) : (mat m r).set a ((rd_L4 (mat m r) (a : Int)).set b v) = mat m (upd r a b v) := by
  rw [mat_row m r a ha, map_range_set]
  show ((List.range m).map fun a => (List.range m).map fun b => r a b).set a _ = _
  rw [map_range_set]
  refine map_range_congr m _ _ fun i hi => ?_
  by_cases e : i = a
  · subst e
    rw [if_pos rfl]
    refine map_range_congr m _ _ fun j hj => ?_
    simp [upd]
  · rw [if_neg e]
    refine map_range_congr m _ _ fun j hj => ?_
    simp [upd, e]
theorem hasP_snoc (pre : List S68) (a b x y : Nat) : hasP (pre ++ [⟨(a : Int), (b : Int)⟩]) x y = (hasP pre x y || ((decide (a = x) && decide (b = y)) || (decide (a = y) && decide (b = x)))) := by
  unfold hasP
  rw [List.any_append]
  congr 1
  simp only [List.any_cons, List.any_nil, Bool.or_false]
  have e : ∀ u v : Nat, ((u : Int) == (v : Int)) = decide (u = v) := fun u v => by
    by_cases h : u = v
    · simp [h]
    · have : ¬ (u : Int) = (v : Int) := by omega
      simp [h, this]
  rw [e, e, e, e]
theorem upd2_hasP (pre : List S68) (a b : Nat) : upd (upd (hasP pre) a b true) b a true = hasP (pre ++ [⟨(a : Int), (b : Int)⟩]) := by
  funext x y
  rw [hasP_snoc]
  unfold upd
  by_cases h1 : x = b ∧ y = a
  · simp [h1]
  · by_cases h2 : x = a ∧ y = b
    · simp [h2]
    · have e1 : (decide (a = x) && decide (b = y)) = false := by simp; intro h3 h4; exact h2 ⟨h3.symm, h4.symm⟩
      have e2 : (decide (a = y) && decide (b = x)) = false := by simp; intro h3 h4; exact h1 ⟨h4.symm, h3.symm⟩
      simp [h1, h2, e1, e2]
theorem paTable_l1 (m : Nat) (l : List S68) (hl : l.length < 4611686018427387904) (hn : natPairs m l) : ∀ (rest pre : List S68), l = pre ++ rest → Ev (fun k => spec_paTable.l1 k (mat m (hasP pre)) l (l.length : Int) (pre.length : Int)) (mat m (hasP l))
  | [], pre, h => by
    refine Ev.one (fun k => ?_)
    have e : l = pre := by rw [h]; simp
    rw [spec_paTable.l1, if_neg (by rw [e]; omega), e]
  | x :: rest, pre, h => by
    have hlen : pre.length < l.length := by rw [h]; simp
    obtain ⟨a, b, rfl, hab, hb⟩ := hn x (by rw [h]; simp)
    have hx : rd_T68 l (pre.length : Int) = ⟨(a : Int), (b : Int)⟩ := by rw [h]; exact rdT_mid pre rest _
    have ih := paTable_l1 m l hl hn rest (pre ++ [⟨(a : Int), (b : Int)⟩]) (by rw [h]; simp)
    rw [List.length_append, List.length_singleton, ← upd2_hasP] at ih
    refine Ev.step (fun k => ?_) ih
    have hrow : (rd_L4 (mat m (hasP pre)) (a : Int)).length = m := by rw [mat_row _ _ _ (by omega)]; simp
    have hrow2 : (rd_L4 (mat m (upd (hasP pre) a b true)) (b : Int)).length = m := by rw [mat_row _ _ _ (by omega)]; simp
    rw [spec_paTable.l1, if_pos (by omega), if_pos (by omega), if_pos (by omega), hx]
    dsimp only
    rw [mat_len, hrow, if_pos (by omega), if_pos (by omega), if_pos (by omega), if_pos (by omega), Int.toNat_natCast, Int.toNat_natCast, mat_set _ _ _ _ _ (by omega)]
    simp only [Option.bind_some]
    rw [if_pos (by omega), hrow2, if_pos (by omega), mat_set _ _ _ _ _ (by omega), w1 (by omega)]
theorem paTable_l0 (m : Nat) (hm : m ≤ 12) (l : List S68) (hl : l.length < 4611686018427387904) (hn : natPairs m l) : ∀ (d i : Nat), i + d = m → Ev (fun k => spec_paTable.l0 k (List.replicate i (List.replicate m false)) (i : Int) (m : Int) l) (mat m (hasP l))
  | 0, i, hd => by
    refine Ev.step (fun k => ?_) (paTable_l1 m l hl hn l [] rfl)
    obtain rfl : i = m := by omega
    rw [spec_paTable.l0, if_neg (by omega), hasP_nil, mat_false]
    rfl
  | d + 1, i, hd => by
    refine Ev.step (fun k => ?_) (paTable_l0 m hm l hl hn d (i + 1) (by omega))
    rw [spec_paTable.l0, if_pos (by omega), if_pos (by omega), if_pos (by omega), if_pos (by simp; omega), w1 (by omega), Int.toNat_natCast, List.replicate_succ']
theorem paTable_ev (m : Nat) (hm : m ≤ 12) (l : List S68) (hl : l.length < 4611686018427387904) (hn : natPairs m l) : Ev (fun k => spec_paTable.f k (m : Int) l) (mat m (hasP l)) := by
  unfold spec_paTable.f
  exact paTable_l0 m hm l hl hn m 0 (by omega)
theorem partsFrom_len (m : Nat) (r : Rel) : ∀ (d s : Nat) (S : Nat → Bool), (partsFrom m r d s S).length ≤ d
  | 0, _, _ => Nat.le_refl _
  | d + 1, s, S => by
    rw [partsFrom]
    split
    · have := partsFrom_len m r d (s + 1) S; omega
    · have := partsFrom_len m r d (s + 1) fun x => S x || comp m r s x
      simp; omega
theorem partsFrom_mem (m : Nat) (r : Rel) : ∀ (d s : Nat) (S : Nat → Bool), ∀ x ∈ partsFrom m r d s S, x.length ≤ m
  | 0, _, _, x, hx => by cases hx
  | d + 1, s, S, x, hx => by
    rw [partsFrom] at hx
    split at hx
    · exact partsFrom_mem m r d (s + 1) S x hx
    · rcases List.mem_cons.1 hx with rfl | hx
      · have := List.length_filter_le (comp m r s) (List.range m)
        simpa using this
      · exact partsFrom_mem m r d (s + 1) _ x hx
theorem blR_at (m : Nat) (f : Nat → Bool) (b : Nat) (h : b < m) : rdOf false (blR m f) (b : Int) = f b := map_range_getD m f false b h
theorem blR_len (m : Nat) (f : Nat → Bool) : (blR m f).length = m := by simp [blR]
theorem blR_set (m : Nat) (f : Nat → Bool) (b : Nat) : (blR m f).set b true = blR m fun x => if x = b then true else f x := by
  unfold blR
  exact map_range_set m f b true
def closedB (m : Nat) (r : Rel) (f : Nat → Bool) : Prop := ∀ a x, a < m → x < m → f a = true → r a x = true → f x = true
theorem closed_or (m : Nat) (r : Rel) (f g : Nat → Bool) (hf : closedB m r f) (hg : closedB m r g) : closedB m r fun x => f x || g x := by
  intro a x ha hx h1 h2
  simp only [Bool.or_eq_true] at h1 ⊢
  rcases h1 with h1 | h1
  · exact .inl (hf a x ha hx h1 h2)
  · exact .inr (hg a x ha hx h1 h2)
theorem reach1_of (m : Nat) (r : Rel) (f : Nat → Bool) (x : Nat) (h : f x = true) : reach1 m r f x = true := by unfold reach1; rw [h]; rfl
theorem reach1_sub (m : Nat) (r : Rel) (C f : Nat → Bool) (hC : closedB m r C) (h : ∀ x, x < m → f x = true → C x = true) : ∀ x, x < m → reach1 m r f x = true → C x = true := by
  intro x hx h1
  unfold reach1 at h1
  rw [Bool.or_eq_true, List.any_eq_true] at h1
  rcases h1 with h1 | ⟨a, ha, h1⟩
  · exact h x hx h1
  · rw [Bool.and_eq_true] at h1
    have ha := List.mem_range.1 ha
    exact hC a x ha hx (h a ha h1.1) h1.2
theorem closed_step (m : Nat) (r : Rel) (f : Nat → Bool) (h : closedB m r f) : closedB m r (reach1 m r f) := by
  have e : ∀ x, x < m → reach1 m r f x = true → f x = true := reach1_sub m r f f h (fun x _ h => h)
  intro a x ha hx h1 h2
  exact reach1_of m r f x (h a x ha hx (e a ha h1) h2)
theorem closed_N (m : Nat) (r : Rel) : ∀ (k : Nat) (f : Nat → Bool), closedB m r f → closedB m r (reachN m r k f)
  | 0, f, h => h
  | k + 1, f, h => closed_N m r k _ (closed_step m r f h)
theorem closed_dec (m : Nat) (r : Rel) (f : Nat → Bool) : closedB m r f ∨ ∃ x, x < m ∧ f x = false ∧ reach1 m r f x = true := by
  by_cases h : ∃ x, x < m ∧ f x = false ∧ reach1 m r f x = true
  · exact .inr h
  · refine .inl fun a x ha hx h1 h2 => ?_
    cases hf : f x with
    | true => rfl
    | false =>
      refine absurd ⟨x, hx, hf, ?_⟩ h
      unfold reach1
      rw [Bool.or_eq_true, List.any_eq_true]
      exact .inr ⟨a, List.mem_range.2 ha, by rw [h1, h2]; rfl⟩
theorem countP_mono (p q : Nat → Bool) : ∀ l : List Nat, (∀ x ∈ l, p x = true → q x = true) → l.countP p ≤ l.countP q
  | [], _ => Nat.le_refl _
  | x :: l, h => by
    have ih := countP_mono p q l (fun y hy => h y (List.mem_cons_of_mem _ hy))
    rw [List.countP_cons, List.countP_cons]
    have hx := h x (List.mem_cons_self ..)
    by_cases hp : p x = true
    · rw [if_pos hp, if_pos (hx hp)]; omega
    · rw [if_neg hp]; split <;> omega
theorem countP_lt (p q : Nat → Bool) : ∀ l : List Nat, (∀ x ∈ l, p x = true → q x = true) → (∃ x ∈ l, p x = false ∧ q x = true) → l.countP p < l.countP q
  | [], _, h => by obtain ⟨x, hx, _⟩ := h; cases hx
  | y :: l, h, ⟨x, hx, h0, h1⟩ => by
    have hm := countP_mono p q l (fun y hy => h y (List.mem_cons_of_mem _ hy))
    rw [List.countP_cons, List.countP_cons]
    rcases List.mem_cons.1 hx with rfl | hx
    · rw [if_neg (by rw [h0]; simp), if_pos h1]; omega
    · have ih := countP_lt p q l (fun y hy => h y (List.mem_cons_of_mem _ hy)) ⟨x, hx, h0, h1⟩
      have hy := h y (List.mem_cons_self ..)
      by_cases hp : p y = true
      · rw [if_pos hp, if_pos (hy hp)]; omega
      · rw [if_neg hp]; split <;> omega
theorem closed_many (m : Nat) (r : Rel) : ∀ (k : Nat) (f : Nat → Bool), m < (List.range m).countP f + k → closedB m r (reachN m r k f)
  | 0, f, h => by
    have := List.countP_le_length (p := f) (l := List.range m)
    rw [List.length_range] at this
    omega
  | k + 1, f, h => by
    rcases closed_dec m r f with hc | ⟨x, hx, h0, h1⟩
    · exact closed_N m r (k + 1) f hc
    · refine closed_many m r k _ ?_
      have := countP_lt f (reach1 m r f) (List.range m) (fun x _ h => reach1_of m r f x h) ⟨x, List.mem_range.2 hx, h0, h1⟩
      omega
theorem comp_closed (m : Nat) (r : Rel) (s : Nat) (hs : s < m) : closedB m r (comp m r s) := by
  refine closed_many m r m _ ?_
  have : 0 < (List.range m).countP fun x => x == s := List.countP_pos_iff.2 ⟨s, List.mem_range.2 hs, by simp⟩
  omega
theorem reachN_of (m : Nat) (r : Rel) : ∀ (k : Nat) (f : Nat → Bool) (x : Nat), f x = true → reachN m r k f x = true
  | 0, f, x, h => h
  | k + 1, f, x, h => reachN_of m r k _ x (reach1_of m r f x h)
theorem comp_self (m : Nat) (r : Rel) (s : Nat) : comp m r s s = true := reachN_of m r m _ s (by simp)
/-- What the search keeps: the queue, and who was seen. -/
def FInv (m : Nat) (r : Rel) (S : Nat → Bool) (s : Nat) (f : Nat → Bool) (Q : List Nat) : Prop :=
  Q.Nodup ∧ s ∈ Q ∧ (∀ x ∈ Q, x < m ∧ S x = false ∧ comp m r s x = true) ∧ ∀ x, f x = (S x || decide (x ∈ Q))
def takeF (fQ : (Nat → Bool) × List Nat) (b : Nat) : (Nat → Bool) × List Nat := if fQ.1 b = true then fQ else (fun x => if x = b then true else fQ.1 x, fQ.2 ++ [b])
theorem takeF_inv (m : Nat) (r : Rel) (S : Nat → Bool) (s : Nat) (f : Nat → Bool) (Q : List Nat) (h : FInv m r S s f Q) (b : Nat) (hb : b < m) (hc : comp m r s b = true) :
    FInv m r S s (takeF (f, Q) b).1 (takeF (f, Q) b).2 ∧ (∃ e, (takeF (f, Q) b).2 = Q ++ e) ∧ (b ∈ (takeF (f, Q) b).2 ∨ S b = true) := by
  obtain ⟨h1, h2, h3, h4⟩ := h
  unfold takeF
  by_cases hf : f b = true
  · rw [if_pos hf]
    refine ⟨⟨h1, h2, h3, h4⟩, ⟨[], (List.append_nil _).symm⟩, ?_⟩
    rw [h4, Bool.or_eq_true, decide_eq_true_eq] at hf
    exact hf.symm
  · rw [if_neg hf]
    have hff : f b = false := by simpa using hf
    rw [h4, Bool.or_eq_false_iff, decide_eq_false_iff_not] at hff
    refine ⟨⟨?_, ?_, ?_, ?_⟩, ⟨[b], rfl⟩, .inl (by simp)⟩
    · refine List.nodup_append.2 ⟨h1, by simp, fun x hx y hy e => ?_⟩
      rw [List.mem_singleton] at hy
      subst hy; subst e
      exact hff.2 hx
    · exact List.mem_append_left _ h2
    · intro x hx
      rcases List.mem_append.1 hx with hx | hx
      · exact h3 x hx
      · rw [List.mem_singleton] at hx
        subst hx
        exact ⟨hb, hff.1, hc⟩
    · intro x
      simp only [List.mem_append, List.mem_singleton]
      by_cases e : x = b
      · subst e; simp
      · rw [if_neg e, h4]; simp [e]
theorem foldF_inv (m : Nat) (r : Rel) (S : Nat → Bool) (s : Nat) : ∀ (L : List Nat) (f : Nat → Bool) (Q : List Nat), FInv m r S s f Q → (∀ b ∈ L, b < m ∧ comp m r s b = true) →
    FInv m r S s (L.foldl takeF (f, Q)).1 (L.foldl takeF (f, Q)).2 ∧ (∃ e, (L.foldl takeF (f, Q)).2 = Q ++ e) ∧ ∀ b ∈ L, b ∈ (L.foldl takeF (f, Q)).2 ∨ S b = true
  | [], f, Q, h, _ => ⟨h, ⟨[], (List.append_nil _).symm⟩, fun b hb => by cases hb⟩
  | b :: L, f, Q, h, hL => by
    obtain ⟨h1, ⟨e1, he1⟩, h3⟩ := takeF_inv m r S s f Q h b (hL b List.mem_cons_self).1 (hL b List.mem_cons_self).2
    obtain ⟨g1, ⟨e2, he2⟩, g3⟩ := foldF_inv m r S s L _ _ h1 fun x hx => hL x (List.mem_cons_of_mem _ hx)
    rw [List.foldl_cons, show takeF (f, Q) b = ((takeF (f, Q) b).1, (takeF (f, Q) b).2) from rfl]
    refine ⟨g1, ⟨e1 ++ e2, by rw [he2, he1, List.append_assoc]⟩, fun x hx => ?_⟩
    rcases List.mem_cons.1 hx with rfl | hx
    · rcases h3 with h3 | h3
      · exact .inl (by rw [he2]; exact List.mem_append_left _ h3)
      · exact .inr h3
    · exact g3 x hx
/-! inserting into an increasing list -/
def insert1 (n : Int) : List Int → List Int
  | [] => [n]
  | x :: xs => if x < n then x :: insert1 n xs else n :: x :: xs
theorem insert1_perm (n : Int) : ∀ l : List Int, (insert1 n l).Perm (n :: l)
  | [] => List.Perm.refl _
  | x :: xs => by
    unfold insert1
    split
    · exact ((insert1_perm n xs).cons x).trans (List.Perm.swap n x xs)
    · exact List.Perm.refl _
theorem insert1_sorted (n : Int) : ∀ l : List Int, l.Pairwise (fun a b => a < b) → n ∉ l → (insert1 n l).Pairwise (fun a b => a < b)
  | [], _, _ => List.pairwise_singleton _ _
  | x :: xs, h, hn => by
    have h1 := List.pairwise_cons.1 h
    unfold insert1
    split
    · rename_i hx
      refine List.Pairwise.cons (fun y hy => ?_) (insert1_sorted n xs h1.2 (fun hm => hn (by simp [hm])))
      rcases List.mem_cons.1 ((insert1_perm n xs).mem_iff.1 hy) with rfl | hy
      · exact hx
      · exact h1.1 y hy
    · rename_i hx
      have hne : x ≠ n := fun e => hn (by simp [e])
      refine List.Pairwise.cons (fun y hy => ?_) h
      rcases List.mem_cons.1 hy with rfl | hy
      · omega
      · have := h1.1 y hy; omega
theorem rd_mid (pre rest : List Int) (x : Int) : rd (pre ++ x :: rest) (pre.length : Int) = x := by
  unfold rd
  simp [List.getD_eq_getElem?_getD]
theorem l1Put_l0 (L : List Int) (n : Int) (hL : L.length ≤ 100) (hn : n ∉ L) : ∀ (rest pre : List Int), L = pre ++ rest → Ev (fun k => spec_l1Put.l0 k L n (pre.length : Int)) (pre ++ insert1 n rest)
  | [], pre, e => by
    have el : L.length = pre.length := by rw [e]; simp
    refine Ev.one (fun k => ?_)
    rw [spec_l1Put.l0, if_neg (by omega)]
    simp only [Option.bind_some]
    rw [if_pos (by omega), if_pos (by omega)]
    have ht : L.take (pre.length : Int).toNat = pre := by rw [e]; simp
    have hd : L.drop (pre.length : Int).toNat = [] := by rw [e]; simp
    rw [ht, hd, if_pos (by simp; omega), if_pos (by simp; omega), if_pos (by simp; omega)]
    simp [insert1]
  | x :: rest, pre, e => by
    have el : pre.length < L.length := by rw [e]; simp
    have hx : rd L (pre.length : Int) = x := by rw [e]; exact rd_mid pre _ x
    have hxn : x ≠ n := fun h => hn (by rw [e, h]; simp)
    by_cases c : x < n
    · have ih := l1Put_l0 L n hL hn rest (pre ++ [x]) (by rw [e]; simp)
      rw [List.length_append, List.length_singleton] at ih
      refine Ev.cast (Ev.step (fun k => ?_) ih) (by rw [insert1, if_pos c]; simp)
      rw [spec_l1Put.l0, if_pos (by omega), if_pos (by omega), hx, if_pos c, w1 (by omega)]
    · refine Ev.one (fun k => ?_)
      rw [spec_l1Put.l0, if_pos (by omega), if_pos (by omega), hx, if_neg c, if_neg hxn]
      simp only [Option.bind_some]
      rw [if_pos (by omega)]
      have ht : L.take (pre.length : Int).toNat = pre := by rw [e]; simp
      have hd : L.drop (pre.length : Int).toNat = x :: rest := by rw [e]; simp
      have hlen : pre.length + (rest.length + 1) ≤ 100 := by rw [e] at hL; simpa using hL
      rw [ht, hd, if_pos (by simp; omega), if_pos (by simp; omega), if_pos (by simp; omega)]
      rw [insert1, if_neg c]
      simp
theorem l1Put_ev (L : List Int) (n : Int) (hL : L.length ≤ 100) (hn : n ∉ L) : Ev (fun k => spec_l1Put.f k L n) (insert1 n L) := l1Put_l0 L n hL hn L [] rfl
theorem nodup_len : ∀ (m : Nat) (Q : List Nat), Q.Nodup → (∀ x ∈ Q, x < m) → Q.length ≤ m
  | 0, [], _, _ => Nat.le_refl _
  | 0, x :: _, _, h => absurd (h x List.mem_cons_self) (by omega)
  | m + 1, Q, hn, h => by
    have h1 := nodup_len m (Q.erase m) (hn.erase m) fun x hx => by
      have h2 := h x (List.mem_of_mem_erase hx)
      have h3 : x ≠ m := fun e => by subst e; exact (List.Nodup.not_mem_erase hn) hx
      omega
    rw [List.length_erase] at h1
    split at h1 <;> omega
theorem paFriends_l0 (m : Nat) (hm : m ≤ 12) (f : Nat → Bool) : ∀ (d b : Nat) (acc : List Int), b + d = m → acc.length ≤ b → Ev (fun k => spec_paFriends.l0 k acc ((List.range m).map f) (m : Int) (b : Int)) (acc ++ ints ((List.range' b d).filter f))
  | 0, b, acc, hd, hacc => by
    refine Ev.one (fun k => ?_)
    rw [spec_paFriends.l0, if_neg (by omega)]; simp [ints]
  | d + 1, b, acc, hd, hacc => by
    have hrd : rdOf false ((List.range m).map f) (b : Int) = f b := map_range_getD m f false b (by omega)
    have hl : ((List.range m).map f).length = m := by simp
    cases hf : f b with
    | true =>
      have ih := paFriends_l0 m hm f d (b + 1) (acc ++ [(b : Int)]) (by omega) (by rw [List.length_append, List.length_singleton]; omega)
      rw [List.append_assoc] at ih
      refine Ev.cast (Ev.step (fun k => ?_) ih) ?_
      · rw [spec_paFriends.l0, if_pos (by omega), if_pos (by omega), hl, if_pos (by omega), hrd, hf, if_pos rfl, if_pos (by omega), w1 (by omega)]
      · rw [List.range'_succ, List.filter_cons_of_pos hf]; rfl
    | false =>
      have ih := paFriends_l0 m hm f d (b + 1) acc (by omega) (by omega)
      refine Ev.cast (Ev.step (fun k => ?_) ih) ?_
      · rw [spec_paFriends.l0, if_pos (by omega), if_pos (by omega), hl, if_pos (by omega), hrd, hf, if_neg (by decide), w1 (by omega)]
      · rw [List.range'_succ, List.filter_cons_of_neg (by rw [hf]; decide)]
theorem paFriends_ev (m : Nat) (hm : m ≤ 12) (r : Rel) (a : Nat) (ha : a < m) : Ev (fun k => spec_paFriends.f k (mat m r) (a : Int)) (ints ((List.range m).filter (r a))) := by
  unfold spec_paFriends.f
  have hrow : (rd_L4 (mat m r) (a : Int)).length = m := by rw [mat_row _ _ _ ha]; simp
  simp only [if_pos (show (0 : Int) ≤ (a : Int) by omega), mat_len, if_pos (show (a : Int) < (m : Int) by omega), hrow]
  rw [mat_row _ _ _ ha]
  have := paFriends_l0 m hm (r a) m 0 [] (by omega) (by simp)
  rw [← List.range_eq_range'] at this
  exact this
theorem blR_congr (m : Nat) (f g : Nat → Bool) (h : ∀ x, x < m → f x = g x) : blR m f = blR m g := map_range_congr m _ _ h
theorem eq_of_sorted {α : Type} (lt : α → α → Bool) (hi : ∀ x, lt x x = false) (ht : ∀ {x y z}, lt x y = true → lt y z = true → lt x z = true) : ∀ (l1 l2 : List α), l1.Pairwise (fun x y => lt x y = true) → l2.Pairwise (fun x y => lt x y = true) → (∀ x, x ∈ l1 ↔ x ∈ l2) → l1 = l2
  | [], [], _, _, _ => rfl
  | [], y :: l2, _, _, h => by have := (h y).2 (List.mem_cons_self ..); cases this
  | x :: l1, [], _, _, h => by have := (h x).1 (List.mem_cons_self ..); cases this
  | x :: l1, y :: l2, h1, h2, h => by
    obtain ⟨h1a, h1b⟩ := List.pairwise_cons.1 h1
    obtain ⟨h2a, h2b⟩ := List.pairwise_cons.1 h2
    have asym : ∀ a b, lt a b = true → lt b a = true → False := fun a b p q => by
      have := ht p q
      rw [hi] at this; cases this
    have e : x = y := by
      rcases List.mem_cons.1 ((h x).1 (List.mem_cons_self ..)) with e | hx
      · exact e
      · rcases List.mem_cons.1 ((h y).2 (List.mem_cons_self ..)) with e | hy
        · exact e.symm
        · exact (asym x y (h1a y hy) (h2a x hx)).elim
    subst e
    congr 1
    refine eq_of_sorted lt hi ht l1 l2 h1b h2b fun z => ?_
    constructor
    · intro hz
      rcases List.mem_cons.1 ((h z).1 (List.mem_cons_of_mem _ hz)) with e | hz2
      · subst e
        have := h1a z hz
        rw [hi] at this; cases this
      · exact hz2
    · intro hz
      rcases List.mem_cons.1 ((h z).2 (List.mem_cons_of_mem _ hz)) with e | hz2
      · subst e
        have := h2a z hz
        rw [hi] at this; cases this
      · exact hz2

theorem reachN_sub (m : Nat) (r : Rel) (C : Nat → Bool) (hC : closedB m r C) : ∀ (k : Nat) (f : Nat → Bool), (∀ x, x < m → f x = true → C x = true) → ∀ x, x < m → reachN m r k f x = true → C x = true
  | 0, f, h, x, hx, h1 => h x hx h1
  | k + 1, f, h, x, hx, h1 => reachN_sub m r C hC k _ (reach1_sub m r C f hC h) x hx h1
theorem comp_sub (m : Nat) (r : Rel) (s : Nat) (C : Nat → Bool) (hC : closedB m r C) (h : C s = true) : ∀ x, x < m → comp m r s x = true → C x = true :=
  reachN_sub m r C hC m _ fun x _ hx => by
    have : x = s := by simpa using hx
    rw [this]; exact h
/-- What a search that starts outside a closed set has found, once all that was found has been looked at. -/
theorem found_comp (m : Nat) (r : Rel) (hs : ∀ a b, r a b = r b a) (S : Nat → Bool) (hS : closedB m r S) (s : Nat) (hsm : s < m) (h0 : S s = false) (Q : List Nat) (hQ : s ∈ Q) (h1 : ∀ x ∈ Q, x < m ∧ S x = false ∧ comp m r s x = true) (h2 : ∀ x ∈ Q, ∀ b, b < m → r x b = true → b ∈ Q ∨ S b = true) :
    ∀ x, x < m → ((x ∈ Q) ↔ comp m r s x = true) := by
  intro x hx
  refine ⟨fun h => (h1 x h).2.2, fun h => ?_⟩
  have hC : closedB m r fun x => decide (x ∈ Q) := by
    intro a b ha hb h3 h4
    have h3 := of_decide_eq_true h3
    refine decide_eq_true ?_
    rcases h2 a h3 b hb h4 with h5 | h5
    · exact h5
    · have := hS b a hb ha h5 (by rw [hs]; exact h4)
      rw [(h1 a h3).2.1] at this
      cases this
  exact of_decide_eq_true (comp_sub m r s _ hC (decide_eq_true hQ) x hx h)

theorem parts_end (m : Nat) (r : Rel) (hs : ∀ a b, r a b = r b a) (S : Nat → Bool) (hS : closedB m r S) (P : List (List Int)) (hP : P.length ≤ 100) (s : Nat) (hsm : s < m) (h0 : S s = false) (R : List (List Int))
    (h : Ev (fun k => spec_paParts.l0 k (mat m r) (blR m fun x => S x || comp m r s x) (P ++ [ints ((List.range m).filter (comp m r s))]) (m : Int) ((s + 1 : Nat) : Int)) R)
    (j : Nat) (f : Nat → Bool) (Q : List Nat) (part : List Int) (hjm : s < 1000) (hj : j = Q.length) (hI : FInv m r S s f Q) (hN : ∀ x ∈ Q.take j, ∀ b, b < m → r x b = true → b ∈ Q ∨ S b = true) (hps : part.Pairwise (fun a b => a < b)) (hpm : ∀ x, x ∈ part ↔ ∃ q ∈ Q.take j, x = (q : Int)) :
    Ev (fun k => spec_paParts.l1 k (mat m r) (blR m f) P (ints Q) part (j : Int) (m : Int) (s : Int)) R := by
  obtain ⟨h1, h2, h3, h4⟩ := hI
  rw [hj, List.take_length] at hN hpm
  have hf := found_comp m r hs S hS s hsm h0 Q h2 h3 hN
  have e1 : blR m f = blR m fun x => S x || comp m r s x := blR_congr m _ _ fun x hx => by
    rw [h4]
    congr 1
    rw [Bool.eq_iff_iff, decide_eq_true_eq]
    exact hf x hx
  have e2 : part = ints ((List.range m).filter (comp m r s)) := by
    refine eq_of_sorted (fun a b : Int => decide (a < b)) (fun x => by simp) (fun h5 h6 => by simp only [decide_eq_true_eq] at *; omega) _ _ (by simpa using hps) ?_ fun x => ?_
    · unfold ints
      rw [List.pairwise_map]
      exact ((List.pairwise_lt_range).filter _).imp fun h => by simpa using h
    · rw [hpm]
      unfold ints
      rw [List.mem_map]
      constructor
      · rintro ⟨q, hq, rfl⟩
        exact ⟨q, List.mem_filter.2 ⟨List.mem_range.2 (h3 q hq).1, (h3 q hq).2.2⟩, rfl⟩
      · rintro ⟨q, hq, rfl⟩
        obtain ⟨ha, hb⟩ := List.mem_filter.1 hq
        exact ⟨q, (hf q (List.mem_range.1 ha)).2 hb, rfl⟩
  rw [e1, e2]
  refine Ev.step (fun k => ?_) h
  rw [spec_paParts.l1, ints_len, hj, if_neg (by omega), if_pos (by omega), w1 (by omega)]
theorem parts_l2_ev (T : List (List Bool)) (m : Nat) (hm : m ≤ 12) (P : List (List Int)) (part : List Int) (j s : Nat) (hj : j < 1000) (R : List (List Int)) : ∀ (rest pre : List Nat) (f : Nat → Bool) (Q : List Nat), pre.length + rest.length ≤ 1000 → Q.length + rest.length ≤ 1000 → (∀ b ∈ rest, b < m) →
    Ev (fun k => spec_paParts.l1 k T (blR m (rest.foldl takeF (f, Q)).1) P (ints (rest.foldl takeF (f, Q)).2) part ((j + 1 : Nat) : Int) (m : Int) (s : Int)) R →
    Ev (fun k => spec_paParts.l2 k T (blR m f) P (ints Q) part (j : Int) (m : Int) (s : Int) (ints (pre ++ rest)) ((ints (pre ++ rest)).length : Int) (pre.length : Int)) R
  | [], pre, f, Q, _, _, _, h => by
    refine Ev.step (fun k => ?_) h
    rw [spec_paParts.l2, ints_len, List.append_nil, if_neg (by omega), w1 (by omega)]
    rfl
  | b :: rest, pre, f, Q, hp, hq, hb, h => by
    rw [List.length_cons] at hp hq
    have hbm := hb b List.mem_cons_self
    have hrd : rd (ints (pre ++ b :: rest)) (pre.length : Int) = (b : Int) := by
      unfold rd ints
      rw [Int.toNat_natCast, List.getD_eq_getElem?_getD, List.getElem?_map, List.getElem?_append_right (Nat.le_refl _), Nat.sub_self]
      rfl
    have hlen : (ints (pre ++ b :: rest)).length = pre.length + (rest.length + 1) := by rw [ints_len, List.length_append, List.length_cons]
    have ih := parts_l2_ev T m hm P part j s hj R rest (pre ++ [b]) (takeF (f, Q) b).1 (takeF (f, Q) b).2 (by simp; omega) (by unfold takeF; split <;> simp <;> omega) (fun x hx => hb x (List.mem_cons_of_mem _ hx)) h
    rw [List.append_assoc, List.singleton_append, List.length_append, List.length_singleton] at ih
    cases hf : f b with
    | true =>
      rw [show takeF (f, Q) b = (f, Q) from by unfold takeF; rw [if_pos hf]] at ih
      refine Ev.step (fun k => ?_) ih
      rw [spec_paParts.l2, hlen, if_pos (by omega), if_pos (by omega), if_pos (by omega), hrd, if_pos (by omega), blR_len, if_pos (by omega), blR_at m f b hbm, hf, if_pos rfl, w1 (by omega)]
    | false =>
      rw [show takeF (f, Q) b = (fun x => if x = b then true else f x, Q ++ [b]) from by unfold takeF; rw [if_neg (show ¬ f b = true by rw [hf]; decide)]] at ih
      refine Ev.step (fun k => ?_) ih
      rw [spec_paParts.l2, hlen, if_pos (by omega), if_pos (by omega), if_pos (by omega), hrd, if_pos (by omega), blR_len, if_pos (by omega), blR_at m f b hbm, hf, if_neg (by decide), ints_len, if_pos (by omega), Int.toNat_natCast, blR_set, w1 (by omega), show ints Q ++ [(b : Int)] = ints (Q ++ [b]) from by simp [ints]]
theorem parts_l1_ev (m : Nat) (hm : m ≤ 12) (r : Rel) (hs : ∀ a b, r a b = r b a) (S : Nat → Bool) (hS : closedB m r S) (P : List (List Int)) (hP : P.length ≤ 100) (s : Nat) (hsm : s < m) (h0 : S s = false) (R : List (List Int))
    (h : Ev (fun k => spec_paParts.l0 k (mat m r) (blR m fun x => S x || comp m r s x) (P ++ [ints ((List.range m).filter (comp m r s))]) (m : Int) ((s + 1 : Nat) : Int)) R) :
    ∀ (d j : Nat) (f : Nat → Bool) (Q : List Nat) (part : List Int), j + d = m → j ≤ Q.length → FInv m r S s f Q → (∀ x ∈ Q.take j, ∀ b, b < m → r x b = true → b ∈ Q ∨ S b = true) → part.length = j → part.Pairwise (fun a b => a < b) → (∀ x, x ∈ part ↔ ∃ q ∈ Q.take j, x = (q : Int)) →
      Ev (fun k => spec_paParts.l1 k (mat m r) (blR m f) P (ints Q) part (j : Int) (m : Int) (s : Int)) R := by
  intro d
  induction d with
  | zero =>
    intro j f Q part hd hjQ hI hN hpl hps hpm
    have hQ := nodup_len m Q hI.1 fun x hx => (hI.2.2.1 x hx).1
    exact parts_end m r hs S hS P hP s hsm h0 R h j f Q part (by omega) (by omega) hI hN hps hpm
  | succ d ih =>
    intro j f Q part hd hjQ hI hN hpl hps hpm
    have hQ := nodup_len m Q hI.1 fun x hx => (hI.2.2.1 x hx).1
    by_cases hj : j = Q.length
    · exact parts_end m r hs S hS P hP s hsm h0 R h j f Q part (by omega) hj hI hN hps hpm
    · have hjl : j < Q.length := by omega
      obtain ⟨q, hq⟩ : ∃ q, Q[j]? = some q := ⟨_, List.getElem?_eq_getElem hjl⟩
      have hqQ : q ∈ Q := List.mem_of_getElem? hq
      obtain ⟨hqm, hqS, hqc⟩ := hI.2.2.1 q hqQ
      have hcl := comp_closed m r s hsm
      have hrd : rd (ints Q) (j : Int) = (q : Int) := by
        unfold rd ints
        rw [Int.toNat_natCast, List.getD_eq_getElem?_getD, List.getElem?_map, hq]
        rfl
      have hnq : q ∉ Q.take j := fun hx => by
        have h1 := hI.1
        rw [← List.take_append_drop j Q] at h1
        have h2 := (List.nodup_append.1 h1).2.2 q hx q (by
          refine List.mem_iff_getElem?.2 ⟨0, ?_⟩
          rw [List.getElem?_drop, Nat.add_zero]
          exact hq)
        exact h2 rfl
      have hnp : (q : Int) ∉ part := fun hx => by
        obtain ⟨q2, h2, e⟩ := (hpm _).1 hx
        have : q = q2 := by omega
        subst this
        exact hnq h2
      have htk : Q.take (j + 1) = Q.take j ++ [q] := by rw [List.take_add_one, hq]; rfl
      obtain ⟨g1, ⟨e, he⟩, g3⟩ := foldF_inv m r S s ((List.range m).filter (r q)) f Q hI fun b hb => by
        obtain ⟨hb1, hb2⟩ := List.mem_filter.1 hb
        exact ⟨List.mem_range.1 hb1, hcl q b hqm (List.mem_range.1 hb1) hqc hb2⟩
      have hfl := List.length_filter_le (r q) (List.range m)
      rw [List.length_range] at hfl
      have htk2 : (((List.range m).filter (r q)).foldl takeF (f, Q)).2.take j = Q.take j := by rw [he, List.take_append_of_le_length (by omega)]
      have htk3 : (((List.range m).filter (r q)).foldl takeF (f, Q)).2.take (j + 1) = Q.take j ++ [q] := by rw [he, List.take_append_of_le_length (by omega), htk]
      have ih' := ih (j + 1) _ _ (insert1 (q : Int) part) (by omega) (by rw [he, List.length_append]; omega) g1 (by
        rw [htk3]
        intro x hx b hb hr
        rcases List.mem_append.1 hx with hx | hx
        · rcases hN x hx b hb hr with h5 | h5
          · exact .inl (by rw [he]; exact List.mem_append_left _ h5)
          · exact .inr h5
        · rw [List.mem_singleton] at hx
          subst hx
          exact g3 b (List.mem_filter.2 ⟨List.mem_range.2 hb, hr⟩)) (by rw [(insert1_perm _ _).length_eq, List.length_cons, hpl]) (insert1_sorted _ _ hps hnp) (by
        intro x
        rw [(insert1_perm _ _).mem_iff, List.mem_cons, hpm, htk3]
        constructor
        · rintro (rfl | ⟨q2, h2, rfl⟩)
          · exact ⟨q, by simp, rfl⟩
          · exact ⟨q2, List.mem_append_left _ h2, rfl⟩
        · rintro ⟨q2, h2, rfl⟩
          rcases List.mem_append.1 h2 with h2 | h2
          · exact .inr ⟨q2, h2, rfl⟩
          · rw [List.mem_singleton] at h2
            subst h2
            exact .inl rfl)
      have h2 := parts_l2_ev (mat m r) m hm P (insert1 (q : Int) part) j s (by omega) R ((List.range m).filter (r q)) [] f Q (by simp; omega) (by omega) (fun b hb => List.mem_range.1 (List.mem_filter.1 hb).1) ih'
      rw [List.nil_append] at h2
      refine Ev.step (f := fun k => (spec_l1Put.f k part (q : Int)).bind fun t406 => (spec_paFriends.f k (mat m r) (q : Int)).bind fun t410 => spec_paParts.l2 k (mat m r) (blR m f) P (ints Q) t406 (j : Int) (m : Int) (s : Int) t410 (t410.length : Int) 0) (fun k => ?_) (Ev.bind (l1Put_ev part (q : Int) (by omega) hnp) (Ev.bind (paFriends_ev m hm r q hqm) h2))
      rw [spec_paParts.l1, ints_len, if_pos (by omega), if_pos (by omega), hrd]
theorem parts_l0_ev (m : Nat) (hm : m ≤ 12) (r : Rel) (hs : ∀ a b, r a b = r b a) : ∀ (d s : Nat) (S : Nat → Bool) (P : List (List Int)), s + d = m → P.length ≤ s → closedB m r S → Ev (fun k => spec_paParts.l0 k (mat m r) (blR m S) P (m : Int) (s : Int)) (P ++ (partsFrom m r d s S).map ints)
  | 0, s, S, P, hd, hP, _ => by
    refine Ev.one fun k => ?_
    rw [spec_paParts.l0, if_neg (by omega)]
    simp [partsFrom]
  | d + 1, s, S, P, hd, hP, hS => by
    rw [partsFrom]
    cases h0 : S s with
    | true =>
      simp only [if_true]
      refine Ev.step (fun k => ?_) (parts_l0_ev m hm r hs d (s + 1) S P (by omega) (by omega) hS)
      rw [spec_paParts.l0, if_pos (by omega), if_pos (by omega), blR_len, if_pos (by omega), blR_at m S s (by omega), h0, if_pos rfl, w1 (by omega)]
    | false =>
      simp only [Bool.false_eq_true, if_false]
      have ih := parts_l0_ev m hm r hs d (s + 1) (fun x => S x || comp m r s x) (P ++ [ints ((List.range m).filter (comp m r s))]) (by omega) (by simp; omega) (closed_or m r _ _ hS (comp_closed m r s (by omega)))
      rw [List.append_assoc, List.singleton_append] at ih
      have h1 := parts_l1_ev m hm r hs S hS P (by omega) s (by omega) h0 _ ih m 0 (fun x => if x = s then true else S x) [s] [] (by omega) (by simp) ⟨by simp, by simp, fun x hx => by rw [List.mem_singleton] at hx; subst hx; exact ⟨by omega, h0, comp_self m r x⟩, fun x => by
        by_cases e : x = s
        · subst e; simp
        · simp [e]⟩ (fun x hx => by simp at hx) rfl List.Pairwise.nil (fun x => by simp)
      rw [List.map_cons]
      refine Ev.step (fun k => ?_) h1
      rw [spec_paParts.l0, if_pos (by omega), if_pos (by omega), blR_len, if_pos (by omega), blR_at m S s (by omega), h0, if_neg (by decide), Int.toNat_natCast, blR_set]
      rfl
def smallSS (L : List (List Int)) : Prop := L.length ≤ 100000 ∧ ∀ x ∈ L, x.length ≤ 1000
theorem tab_false (m : Nat) : tab m (fun _ _ => false) = List.replicate m 0 := by
  unfold tab
  rw [← map_range_const (0 : Int) m]
  refine map_range_congr m _ _ fun i hi => ?_
  have : bitsOf m (fun _ => false) = 0 := by
    apply Nat.eq_of_testBit_eq
    intro i
    rw [testBit_bitsOf]; simp
  rw [this]; rfl
theorem bitsOf_or (m : Nat) (f : Nat → Bool) (b : Nat) (hb : b < m) : bitsOf m f ||| 2 ^ b = bitsOf m fun j => if j = b then true else f j := by
  apply Nat.eq_of_testBit_eq
  intro i
  rw [Nat.testBit_or, testBit_bitsOf, testBit_bitsOf, Nat.testBit_two_pow]
  by_cases e : i = b
  · subst e; simp [hb]
  · have e' : ¬ b = i := fun h => e h.symm
    simp [e, e']
theorem pow_u16 (b : Nat) (h : b ≤ 12) : 2 ^ b < 65536 := Nat.lt_of_le_of_lt (Nat.pow_le_pow_right (by decide) h) (by decide)
theorem tab_congr (m : Nat) (r s : Rel) (h : ∀ a b, a < m → b < m → r a b = s a b) : tab m r = tab m s := map_range_congr m _ _ fun a ha => by rw [bitsOf_congr m _ _ fun b hb => h a b ha hb]
theorem tab_set (m : Nat) (r : Rel) (a : Nat) (f : Nat → Bool) : (tab m r).set a ((bitsOf m f : Nat) : Int) = tab m (fun x => if x = a then f else r x) := by
  unfold tab
  rw [map_range_set]
  refine map_range_congr m _ _ fun i hi => ?_
  by_cases e : i = a <;> simp [e]
theorem tab_or (m : Nat) (hm : m ≤ 12) (r : Rel) (a b : Nat) (ha : a < m) (hb : b < m) : (tab m r).set a (Go.bits .or .u16 (rd (tab m r) (a : Int)) (shl .u16 1 (b : Int))) = tab m (upd r a b true) := by
  rw [tab_at m r a ha, shl1 b (by omega), or16 _ _ (bitsOf_u16 m hm _) (pow_u16 b (by omega)), bitsOf_or m _ b hb, tab_set]
  refine tab_congr m _ _ fun x y hx hy => ?_
  by_cases e : x = a
  · subst e; simp [upd]
  · simp [upd, e]
theorem table_l0 (m : Nat) (hm : m ≤ 12) (l : List S68) (hl : l.length < 4611686018427387904) (hn : natPairs m l) : ∀ (rest pre : List S68), l = pre ++ rest → Ev (fun k => impl_Party_table.l0 k (tab m (hasP pre)) l (l.length : Int) (pre.length : Int)) (tab m (hasP l))
  | [], pre, h => by
    refine Ev.one (fun k => ?_)
    have e : l = pre := by rw [h]; simp
    rw [impl_Party_table.l0, if_neg (by rw [e]; omega), e]
  | x :: rest, pre, h => by
    have hlen : pre.length < l.length := by rw [h]; simp
    obtain ⟨a, b, rfl, hab, hb⟩ := hn x (by rw [h]; simp)
    have hx : rd_T68 l (pre.length : Int) = ⟨(a : Int), (b : Int)⟩ := by rw [h]; exact rdT_mid pre rest _
    have ih := table_l0 m hm l hl hn rest (pre ++ [⟨(a : Int), (b : Int)⟩]) (by rw [h]; simp)
    rw [List.length_append, List.length_singleton, ← upd2_hasP] at ih
    refine Ev.step (fun k => ?_) ih
    rw [impl_Party_table.l0, if_pos (by omega), if_pos (by omega), if_pos (by omega), hx]
    dsimp only
    rw [tab_len, if_pos (by omega), if_pos (by omega), if_pos (by omega), Int.toNat_natCast, Int.toNat_natCast, tab_or m hm _ a b (by omega) (by omega)]
    simp only [Option.bind_some]
    rw [if_pos (by omega), tab_or m hm _ b a (by omega) (by omega), w1 (by omega)]
theorem table_ev (m : Nat) (hm : m ≤ 12) (l : List S68) (hl : l.length < 4611686018427387904) (hn : natPairs m l) : Ev (fun k => impl_Party_table.f k (m : Int) l) (tab m (hasP l)) := by
  unfold impl_Party_table.f
  simp only [if_pos (show (0 : Int) ≤ (m : Int) by omega), Int.toNat_natCast, if_pos (show m ≤ 140737488355328 by omega)]
  have := table_l0 m hm l hl hn l [] rfl
  rw [hasP_nil, tab_false] at this
  exact this

theorem PartsOfParty_common (n : Int) (l : List S68) (w : (Lit.int .i64 n).wf = true) (hl : l.length ≤ 1048576) : ∃ R : List (List Int) × Bool, Ev (fun k => spec_PartsOfParty.f k n l) R ∧ Ev (fun k => impl_PartsOfParty.f k n l) R ∧ smallSS R.1 := by
  have hi := implIsParty_ev n l (by omega)
  have hg' := paGood_ev n l (by omega)
  cases h : good n l with
  | true =>
    rw [h] at hi hg'
    obtain ⟨m, rfl, hm, hn, _⟩ := good_nat h
    have hlen := partsFrom_len m (hasP l) m 0 fun _ => false
    refine ⟨((partsFrom m (hasP l) m 0 fun _ => false).map ints, true), ?_, ?_, ?_⟩
    · unfold spec_PartsOfParty.f
      refine Ev.bind hg' ?_
      simp only [if_true]
      refine Ev.bind ?_ (Ev.now _)
      unfold spec_paParts.f
      refine Ev.bind (paTable_ev m hm l (by omega) hn) ?_
      simp only [if_pos (show (0 : Int) ≤ (m : Int) by omega), Int.toNat_natCast, if_pos (show m ≤ 281474976710656 by omega), mat_len]
      have h1 := parts_l0_ev m hm (hasP l) (hasP_symm l) m 0 (fun _ => false) [] (by omega) (by simp) (fun a x _ _ h => by cases h)
      rw [show blR m (fun _ => false) = List.replicate m false from map_range_const false m] at h1
      exact h1
    · unfold impl_PartsOfParty.f
      refine Ev.bind hi ?_
      simp only [if_true]
      refine Ev.bind (table_ev m hm l (by omega) hn) ?_
      refine Ev.bind ?_ (Ev.now _)
      unfold impl_table_parts.f
      have h1 := iparts_l0_ev m hm (hasP l) m 0 (fun _ => false) [] (by omega) (by simp)
      rw [bitsOf_none] at h1
      rw [tab_len]
      exact h1
    · refine ⟨by rw [List.length_map]; omega, fun x hx => ?_⟩
      obtain ⟨y, hy, rfl⟩ := List.mem_map.1 hx
      have := partsFrom_mem m (hasP l) m 0 _ y hy
      rw [ints_len]
      omega
  | false =>
    rw [h] at hi hg'
    refine ⟨([], false), ?_, ?_, ⟨by simp, fun x hx => by cases hx⟩⟩
    · unfold spec_PartsOfParty.f
      refine Ev.bind hg' ?_
      simp only [Bool.false_eq_true, if_false]; exact Ev.now _
    · unfold impl_PartsOfParty.f
      refine Ev.bind hi ?_
      simp only [Bool.false_eq_true, if_false]; exact Ev.now _

def conv (l : List S75) : List S68 := l.map fun x => ⟨x.f0, x.f1⟩
theorem conv_len (l : List S75) : (conv l).length = l.length := by simp [conv]
theorem ext_getD {a b : List Int} (h : a.length = b.length) (hj : ∀ j, j < a.length → a.getD j 0 = b.getD j 0) : a = b := by
  apply List.ext_getElem h
  intro i h1 h2
  have := hj i h1
  simpa [List.getD_eq_getElem?_getD, h1, h2] using this
theorem eqIntS_l0 (a b : List Int) (h : a.length = b.length) (hl : a.length < 4611686018427387904) : ∀ (d i : Nat), i + d = a.length → (∀ j, j < i → a.getD j 0 = b.getD j 0) → Ev (fun k => laws_eqIntS.l0 k a b i) (decide (a = b))
  | 0, i, hd, hj => by
    refine Ev.one (fun k => ?_)
    have : a = b := ext_getD h (fun j hj' => hj j (by omega))
    rw [laws_eqIntS.l0, if_neg (by omega)]; simp [this]
  | d + 1, i, hd, hj => by
    by_cases e : a.getD i 0 = b.getD i 0
    · refine Ev.step (f := fun k => laws_eqIntS.l0 k a b ((i + 1 : Nat) : Int)) (fun k => ?_) (eqIntS_l0 a b h hl d (i + 1) (by omega) ?_)
      · rw [laws_eqIntS.l0, if_pos (by omega), if_pos (by omega), if_pos (by omega), if_pos (by exact e), w1 (by omega)]
      · intro j hj'
        by_cases e2 : j = i
        · rw [e2]; exact e
        · exact hj j (by omega)
    · refine Ev.one (fun k => ?_)
      have : a ≠ b := fun h => e (by rw [h])
      rw [laws_eqIntS.l0, if_pos (by omega), if_pos (by omega), if_pos (by omega), if_neg (by exact e)]; simp [this]
theorem eqIntS_ev (a b : List Int) (hl : a.length < 4611686018427387904) : Ev (fun k => laws_eqIntS.f k a b) (decide (a = b)) := by
  unfold laws_eqIntS.f
  by_cases h : a.length = b.length
  · simp only [if_pos (show (a.length : Int) = (b.length : Int) by omega)]
    exact eqIntS_l0 a b h hl a.length 0 (by omega) (fun j hj => absurd hj (Nat.not_lt_zero _))
  · simp only [if_neg (show ¬ (a.length : Int) = (b.length : Int) by omega)]
    have : a ≠ b := fun e => h (by rw [e])
    exact Ev.one (fun k => by simp [this])
theorem eqIntS_self (a : List Int) (hl : a.length < 4611686018427387904) : Ev (fun k => laws_eqIntS.f k a a) true := by
  have h := eqIntS_ev a a hl
  rwa [decide_eq_true rfl] at h
theorem rdL_mid (pre rest : List (List Int)) (x : List Int) : rd_L5 (pre ++ x :: rest) (pre.length : Int) = x := by
  show (pre ++ x :: rest).getD _ [] = x
  simp [List.getD_eq_getElem?_getD]
theorem eqIntSS_l0 (L : List (List Int)) (h : smallSS L) : ∀ (rest pre : List (List Int)), L = pre ++ rest → Ev (fun k => laws_eqIntSS.l0 k L L (pre.length : Int)) true
  | [], pre, e => by
    have e2 : L.length = pre.length := by rw [e]; simp
    refine Ev.one fun k => ?_
    rw [laws_eqIntSS.l0, if_neg (by omega)]
  | x :: rest, pre, e => by
    have e2 : L.length = pre.length + (rest.length + 1) := by rw [e]; simp
    have hx : rd_L5 L (pre.length : Int) = x := by rw [e]; exact rdL_mid pre rest x
    have hl := h.1
    have hxl := h.2 x (by rw [e]; simp)
    have ih := eqIntSS_l0 L h rest (pre ++ [x]) (by rw [e]; simp)
    rw [List.length_append, List.length_singleton] at ih
    refine Ev.step (f := fun k => (laws_eqIntS.f k x x).bind fun t => if t = true then laws_eqIntSS.l0 k L L ((pre.length + 1 : Nat) : Int) else some false) (fun k => ?_) (Ev.bind (eqIntS_self x (by omega)) ?_)
    · rw [laws_eqIntSS.l0, if_pos (by omega), if_pos (by omega), if_pos (by omega), hx, w1 (by omega)]
    · simp only [if_true]; exact ih
theorem eqIntSS_self (L : List (List Int)) (h : smallSS L) : Ev (fun k => laws_eqIntSS.f k L L) true := by
  unfold laws_eqIntSS.f
  simp only [if_true]
  exact eqIntSS_l0 L h L [] rfl
theorem eqPairS_l0 (l : List S68) (hl : l.length < 4611686018427387904) : ∀ (d i : Nat), i + d = l.length → Ev (fun k => laws_eqPairS.l0 k l l i) true
  | 0, i, hd => by
    refine Ev.one (fun k => ?_)
    rw [laws_eqPairS.l0, if_neg (by omega)]
  | d + 1, i, hd => by
    refine Ev.step (fun k => ?_) (eqPairS_l0 l hl d (i + 1) (by omega))
    rw [laws_eqPairS.l0, if_pos (by omega), if_pos (by omega), if_pos (by omega), laws_eqPair.f, if_pos rfl, if_pos rfl, w1 (by omega)]
    rfl
theorem eqParty_self (a : Int) (l : List S68) (hl : l.length < 4611686018427387904) : Ev (fun k => laws_eqParty.f k a l a l) true := by
  unfold laws_eqParty.f laws_eqPairS.f
  simp only [if_true]
  have h : Ev (fun k => laws_eqPairS.l0 k l l 0) true := by simpa using eqPairS_l0 l hl l.length 0 (by omega)
  refine Ev.bind h ?_
  simp only [if_true]
  exact Ev.now _

/-- The list bears the marks m, m+1, .. -/
def Marked (m : Int) (z : List Int) : Prop := ∀ j, j < z.length → z.getD j 0 = m + j
inductive MarkedSS : Nat → List (List Int) → Prop
  | nil (m : Nat) : MarkedSS m []
  | cons (m : Nat) (z : List Int) (Z : List (List Int)) : Marked (m : Int) z → MarkedSS (m + z.length) Z → MarkedSS m (z :: Z)
theorem heldIntS_l0 (m : Int) (z : List Int) (h0 : 0 ≤ m) (hm : m + z.length < 4611686018427387904) (hz : Marked m z) : ∀ (d i : Nat), i + d = z.length → Ev (fun k => laws_heldIntS.l0 k z (m + i) i) (m + z.length)
  | 0, i, hd => by
    refine Ev.one (fun k => ?_)
    rw [laws_heldIntS.l0, if_neg (by omega), show i = z.length by omega]
  | d + 1, i, hd => by
    refine Ev.step (fun k => ?_) (heldIntS_l0 m z h0 hm hz d (i + 1) (by omega))
    rw [laws_heldIntS.l0, if_pos (by omega), if_pos (by omega), if_pos (by exact hz i (by omega)), w1 (by omega), w64 (by omega) (by omega), show m + (i : Int) + 1 = m + ((i + 1 : Nat) : Int) by omega]
theorem heldIntS_ev (z : List Int) (m : Int) (h0 : 0 ≤ m) (hm : m + z.length < 4611686018427387904) (hz : Marked m z) : Ev (fun k => laws_heldIntS.f k z m) (m + z.length) := by
  unfold laws_heldIntS.f
  simpa using heldIntS_l0 m z h0 hm hz z.length 0 (by omega)

def sumLen : List (List Int) → Nat
  | [] => 0
  | x :: l => x.length + sumLen l
theorem heldSS_l0 (L : List (List Int)) (hb : L.length < 4611686018427387904) : ∀ (rest pre : List (List Int)) (m : Nat), L = pre ++ rest → MarkedSS m rest → m + sumLen rest < 4611686018427387904 → Ev (fun k => laws_heldIntSS.l0 k L (m : Int) (pre.length : Int)) ((m + sumLen rest : Nat) : Int)
  | [], pre, m, e, _, _ => by
    have e2 : L.length = pre.length := by rw [e]; simp
    refine Ev.one fun k => ?_
    rw [laws_heldIntSS.l0, if_neg (by omega)]; rfl
  | x :: rest, pre, m, e, hM, hs => by
    have e2 : L.length = pre.length + (rest.length + 1) := by rw [e]; simp
    have hx : rd_L5 L (pre.length : Int) = x := by rw [e]; exact rdL_mid pre rest x
    rw [sumLen] at hs
    cases hM with
    | cons _ _ _ hm hr =>
      have ih := heldSS_l0 L hb rest (pre ++ [x]) (m + x.length) (by rw [e]; simp) hr (by omega)
      rw [List.length_append, List.length_singleton] at ih
      have eN : (m : Int) + (x.length : Int) = ((m + x.length : Nat) : Int) := by omega
      have hh := heldIntS_ev x (m : Int) (by omega) (by omega) hm
      rw [eN] at hh
      refine Ev.step (f := fun k => (laws_heldIntS.f k x (m : Int)).bind fun t => if t < 0 then some (-1) else laws_heldIntSS.l0 k L t ((pre.length + 1 : Nat) : Int)) (fun k => ?_) (Ev.bind hh ?_)
      · rw [laws_heldIntSS.l0, if_pos (by omega), if_pos (by omega), hx, w1 (by omega)]
      · simp only [if_neg (show ¬ (((m + x.length : Nat) : Int) < 0) by omega)]
        rw [sumLen, ← Nat.add_assoc]; exact ih
theorem getD_set (l : List Int) (i j : Nat) (v : Int) (hi : i < l.length) : (l.set i v).getD j 0 = if i = j then v else l.getD j 0 := by
  rw [List.getD_eq_getElem?_getD, List.getElem?_set]
  by_cases h : i = j
  · subst h; simp [hi]
  · simp [h]
theorem markIntS_l0 (m : Int) (n : Nat) (h0 : 0 ≤ m) (hm : m + n < 4611686018427387904) : ∀ (d i : Nat) (y : List Int), i + d = n → y.length = n → (∀ j, j < i → y.getD j 0 = m + j) → ∃ z : List Int, z.length = n ∧ Marked m z ∧ Ev (fun k => laws_markIntS.l0 k y (m + i) i) (m + n, z)
  | 0, i, y, hd, hy, h => by
    refine ⟨y, hy, fun j hj => h j (by omega), Ev.one (fun k => ?_)⟩
    rw [laws_markIntS.l0, if_neg (by omega), show i = n by omega]
  | d + 1, i, y, hd, hy, h => by
    obtain ⟨z, hz, hj, hE⟩ := markIntS_l0 m n h0 hm d (i + 1) (y.set i (m + i)) (by omega) (by simpa using hy) (fun j hj => by
      rw [getD_set _ _ _ _ (by omega)]
      by_cases e : i = j
      · simp [e]
      · rw [if_neg e]; exact h j (by omega))
    refine ⟨z, hz, hj, Ev.step (fun k => ?_) hE⟩
    rw [laws_markIntS.l0, if_pos (by omega), if_pos (by omega), w1 (by omega), w64 (by omega) (by omega), show m + (i : Int) + 1 = m + ((i + 1 : Nat) : Int) by omega]
    rfl
theorem markIntS_ev (y : List Int) (m : Int) (h0 : 0 ≤ m) (hm : m + y.length < 4611686018427387904) : ∃ z : List Int, z.length = y.length ∧ Marked m z ∧ Ev (fun k => laws_markIntS.f k y m) (m + y.length, z) := by
  obtain ⟨z, hz, hj, hE⟩ := markIntS_l0 m y.length h0 hm y.length 0 y (by omega) rfl (fun j hj => absurd hj (Nat.not_lt_zero _))
  refine ⟨z, hz, hj, ?_⟩
  unfold laws_markIntS.f
  simpa using hE
theorem markSS_go : ∀ (L : List (List Int)) (m : Nat), m + sumLen L < 4611686018427387904 → ∃ Z : List (List Int), Z.length = L.length ∧ sumLen Z = sumLen L ∧ MarkedSS m Z ∧ Ev (fun k => laws_markIntSS.go k L (m : Int)) (((m + sumLen L : Nat) : Int), Z)
  | [], m, h => ⟨[], rfl, rfl, .nil m, Ev.now _⟩
  | x :: L, m, h => by
    rw [sumLen] at h
    obtain ⟨z, hz, hm, hE⟩ := markIntS_ev x (m : Int) (by omega) (by omega)
    obtain ⟨Z, h1, h2, h3, h4⟩ := markSS_go L (m + x.length) (by omega)
    refine ⟨z :: Z, by rw [List.length_cons, List.length_cons, h1], by rw [sumLen, sumLen, hz, h2], .cons m z Z hm (by rw [hz]; exact h3), ?_⟩
    unfold laws_markIntSS.go
    refine Ev.bind hE ?_
    have e : (m : Int) + (x.length : Int) = ((m + x.length : Nat) : Int) := by omega
    simp only [e]
    refine Ev.bind h4 ?_
    rw [sumLen, ← Nat.add_assoc]
    exact Ev.now _
theorem sumLen_le : ∀ (L : List (List Int)) (b : Nat), (∀ x ∈ L, x.length ≤ b) → sumLen L ≤ L.length * b
  | [], b, h => by simp [sumLen]
  | x :: l, b, h => by
    have h1 := h x (List.mem_cons_self ..)
    have h2 := sumLen_le l b (fun y hy => h y (List.mem_cons_of_mem _ hy))
    rw [sumLen, List.length_cons, Nat.succ_mul]; omega
theorem markIntSS_ev (L : List (List Int)) (h : smallSS L) : ∃ (Z : List (List Int)) (m : Int), 0 ≤ m ∧ Ev (fun k => laws_markIntSS.f k L 1) (m, Z) ∧ Ev (fun k => laws_heldIntSS.f k Z 1) m := by
  have hs := sumLen_le L 1000 h.2
  have hl := h.1
  have hs2 : sumLen L ≤ 100000000 := Nat.le_trans hs (by have := Nat.mul_le_mul_right 1000 hl; omega)
  obtain ⟨Z, h1, h2, h3, h4⟩ := markSS_go L 1 (by omega)
  refine ⟨Z, ((1 + sumLen L : Nat) : Int), by omega, ?_, ?_⟩
  · unfold laws_markIntSS.f
    simp only [if_pos (show L.length ≤ 1000000000 by omega)]
    exact h4
  · unfold laws_heldIntSS.f
    have := heldSS_l0 Z (by omega) Z [] 1 rfl h3 (by rw [h2]; omega)
    rw [h2] at this
    exact this

/-- The pairs bear the marks m, m+1, .. -/
def MarkedP (m : Int) (z : List S68) : Prop := ∀ j, j < z.length → z[j]? = some ⟨m + 2 * j, m + 2 * j + 1⟩
theorem getD_of_get {α : Type} (l : List α) (i : Nat) (d x : α) (h : l[i]? = some x) : l.getD i d = x := by rw [List.getD_eq_getElem?_getD, h]; rfl
theorem rdT_set (y : List S68) (i : Nat) (v : S68) (h : i < y.length) : rd_T68 (y.set i v) (i : Int) = v := getD_of_get _ i _ _ (by rw [List.getElem?_set]; simp [h])
theorem markPairS_l0 (m : Int) (n : Nat) (h0 : 0 ≤ m) (hm : m + 2 * n < 4611686018427387904) : ∀ (d i : Nat) (y : List S68), i + d = n → y.length = n → (∀ j, j < i → y[j]? = some ⟨m + 2 * j, m + 2 * j + 1⟩) → ∃ z : List S68, z.length = n ∧ MarkedP m z ∧ Ev (fun k => laws_markPairS.l0 k y (m + 2 * i) i) (m + 2 * n, z)
  | 0, i, y, hd, hy, h => by
    refine ⟨y, hy, fun j hj => h j (by omega), Ev.one (fun k => ?_)⟩
    rw [laws_markPairS.l0, if_neg (by omega), show i = n by omega]
  | d + 1, i, y, hd, hy, h => by
    have hi : i < y.length := by omega
    obtain ⟨z, hz, hj, hE⟩ := markPairS_l0 m n h0 hm d (i + 1) (y.set i ⟨m + 2 * i, m + 2 * i + 1⟩) (by omega) (by simpa using hy) (fun j hj => by
      rw [List.getElem?_set]
      by_cases e : i = j
      · subst e; simp [hi]
      · rw [if_neg e]; exact h j (by omega))
    refine ⟨z, hz, hj, Ev.step (fun k => ?_) hE⟩
    rw [laws_markPairS.l0, if_pos (by omega), if_pos (by omega)]
    simp only [Option.bind_some, Int.toNat_natCast]
    rw [rdT_set _ _ _ (by omega), List.set_set, w1 (by omega), w64 (i := m + 2 * (i : Int) + 1) (by omega) (by omega), w64 (by omega) (by omega), show m + 2 * (i : Int) + 1 + 1 = m + 2 * ((i + 1 : Nat) : Int) by omega]
theorem markParty_ev (a : Int) (y : List S68) (m : Int) (h0 : 0 ≤ m) (hm : m + 2 * y.length < 4611686018427387904) : ∃ z : List S68, z.length = y.length ∧ MarkedP m z ∧ Ev (fun k => laws_markParty.f k a y m) (m + 2 * y.length, z) := by
  obtain ⟨z, hz, hj, hE⟩ := markPairS_l0 m y.length h0 hm y.length 0 y (by omega) rfl (fun j hj => absurd hj (Nat.not_lt_zero _))
  refine ⟨z, hz, hj, ?_⟩
  unfold laws_markParty.f laws_markPairS.f
  have hE' : Ev (fun k => laws_markPairS.l0 k y m 0) (m + 2 * y.length, z) := by simpa using hE
  exact Ev.bind hE' (Ev.now _)
theorem szParty_f (a0 : Int) (l : List S75) (a1 : Int) (h0 : 0 ≤ a1) (h1 : a1 ≤ 1048576) (hl : l.length ≤ maxLen) : laws_szParty.f a0 l a1 = some (if a1 - l.length < 0 then -1 else a1 - l.length) := by
  unfold maxLen at hl
  unfold laws_szParty.f laws_szPairS.f
  rw [w64 (by omega) (by omega)]
  by_cases h : a1 - l.length < 0
  · simp [h]
  · simp [h]
theorem toPairS_l0 (l : List S75) (hl : l.length < 4611686018427387904) : ∀ (d i : Nat) (y : List S68), i + d = l.length → y.length = l.length → (∀ j, j < i → y[j]? = (conv l)[j]?) → Ev (fun k => laws_toPairS.l0 k l y i) (conv l)
  | 0, i, y, hd, hy, h => by
    refine Ev.one (fun k => ?_)
    have e : y = conv l := by
      apply List.ext_getElem?
      intro j
      by_cases hj : j < i
      · exact h j hj
      · rw [List.getElem?_eq_none (by omega), List.getElem?_eq_none (by rw [conv_len]; omega)]
    rw [laws_toPairS.l0, if_neg (by omega), e]
  | d + 1, i, y, hd, hy, h => by
    have hi : i < l.length := by omega
    have hx : rd_T75 l (i : Int) = l[i] := getD_of_get l i _ _ (List.getElem?_eq_getElem hi)
    refine Ev.step (fun k => ?_) (toPairS_l0 l hl d (i + 1) (y.set i ⟨l[i].f0, l[i].f1⟩) (by omega) (by simpa using hy) ?_)
    · rw [laws_toPairS.l0, if_pos (by omega), if_pos (by omega), hx, laws_toPair.f]
      simp only [Option.bind_some]
      rw [if_pos (by omega), w1 (by omega)]
      rfl
    · intro j hj
      rw [List.getElem?_set]
      by_cases e : i = j
      · subst e
        have hiy : i < y.length := by omega
        simp [conv, hi, hiy]
      · rw [if_neg e]; exact h j (by omega)
theorem toPairS_ev (l : List S75) (hl : l.length ≤ 17592186044416) : Ev (fun k => laws_toPairS.f k l) (conv l) := by
  unfold laws_toPairS.f
  simp only [if_pos (show (0 : Int) ≤ (l.length : Int) by omega), if_pos (show ((l.length : Int) : Int).toNat ≤ 17592186044416 by simpa using hl)]
  exact toPairS_l0 l (by omega) l.length 0 _ (by omega) (by simp) (fun j hj => absurd hj (Nat.not_lt_zero _))
theorem toParty_ev (a : Int) (l : List S75) (hl : l.length ≤ 17592186044416) : Ev (fun k => laws_toParty.f k a l) (a, conv l) := by
  unfold laws_toParty.f
  exact Ev.bind (toPairS_ev l hl) (Ev.now _)
theorem FnExactPartsOfParty : ∀ (a0 : Int) (l0 : List S75), (Lit.int .i64 a0).wf = true → l0.length ≤ maxLen → (∀ x ∈ l0, ∃ m n : Int, x = ⟨m, n⟩ ∧ (Lit.int .i64 m).wf = true ∧ (Lit.int .i64 n).wf = true) → ∃ k, laws_FnExactPartsOfParty.f k a0 l0 = some true := by
  intro a0 l0 w0 hm0 hw0
  refine Ev.rounds ?_
  unfold laws_FnExactPartsOfParty.f
  simp only [szParty_f a0 l0 1048576 (by omega) (by omega) hm0, Option.bind_some]
  by_cases hg0 : 1048576 - (l0.length : Int) < 0
  · simp only [if_pos hg0, show ((-1 : Int) < 0) from by decide, if_true]; exact Ev.now _
  simp only [if_neg hg0]
  have hlen0 : l0.length ≤ 1048576 := by omega
  have hcl0 := conv_len l0
  obtain ⟨R, hs, hi, hr0⟩ := PartsOfParty_common a0 (conv l0) w0 (by rw [conv_len]; omega)
  obtain ⟨zk1, hzk1, _, hEk1⟩ := markParty_ev a0 (conv l0) (1 : Int) (by omega) (by omega)
  obtain ⟨Z, m, hm, hEm, hEh⟩ := markIntSS_ev R.1 hr0
  refine Ev.bind (toParty_ev a0 l0 (by omega)) ?_
  refine Ev.bind hs ?_
  refine Ev.bind hi ?_
  refine Ev.bind (eqIntSS_self R.1 hr0) ?_
  refine Ev.bind (eqParty_self a0 (conv l0) (by omega)) ?_
  refine Ev.bind hEk1 ?_
  refine Ev.bind hEm ?_
  refine Ev.bind hEh ?_
  have h1 : (0 : Int) ≤ 1 + 2 * ((conv l0).length : Int) := by omega
  simp only [h1, hm, true_and, and_self, if_true]
  exact Ev.now _
end Go.Proofs.YtialimbdkokdcaaDoor.Pure
