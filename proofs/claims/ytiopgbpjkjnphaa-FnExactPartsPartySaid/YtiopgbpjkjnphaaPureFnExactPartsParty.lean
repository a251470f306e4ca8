/- The program's PartsParty returns what the reference's returns, for all arguments (the plain statement behind the printed walk); no condition. -/
import Derived.Test.YtiopgbpjkjnphaaPx0
import Derived.Test.YtiopgbpjkjnphaaPx11
import Derived.Test.YtiopgbpjkjnphaaPx12
import Derived.Test.YtiopgbpjkjnphaaPx13
import Derived.Test.YtiopgbpjkjnphaaPx17
import Derived.Test.YtiopgbpjkjnphaaPx2
import Derived.Test.YtiopgbpjkjnphaaPx21
import Derived.Test.YtiopgbpjkjnphaaPx23
import Derived.Test.YtiopgbpjkjnphaaPx28
import Derived.Test.YtiopgbpjkjnphaaPx31
import Derived.Test.YtiopgbpjkjnphaaPx6
import Derived.Test.YtiopgbpjkjnphaaPx7
import Derived.Test.YtiopgbpjkjnphaaPx8
namespace Go.Proofs.Ytiopgbpjkjnphaa.Pure
open Go.RowKit Go.Proofs.Ytiopgbpjkjnphaa.P Go.Proofs.YtiopgbpjkjnphaaW.PrintWords Go.Proofs.YtiopgbpjkjnphaaW.PrintLast
set_option linter.unusedSimpArgs false
set_option linter.unusedVariables false
theorem Ev.one {α : Type} {g : Nat → Option α} {r : α} (h : ∀ k, g (k + 1) = some r) : Ev g r := Ev.step h (Ev.now r)
def inAll (l : List Int) (lo hi : Int) : Bool := l.all fun n => decide (lo ≤ n) && decide (n ≤ hi)
theorem areWithin_f (l : List Int) (lo hi : Int) : impl_areWithin.f l lo hi = some (inAll l lo hi) := rfl

def castL : List Nat → List Int
  | [] => []
  | s :: ss => (s : Int) :: castL ss
theorem castL_len : ∀ l : List Nat, (castL l).length = l.length
  | [] => rfl
  | _ :: ss => by rw [castL, List.length_cons, List.length_cons, castL_len ss]
abbrev Rel := Nat → Nat → Bool
def difR (P : List Int) : Rel := fun x y => rd P (x : Int) != rd P (y : Int)
def cutR (P : List Int) (a b : Nat) : Rel := fun x y => if x < a ∨ (x = a ∧ y < b) then difR P x y else false
def hasP (l : List S61) : Rel := fun a b => l.any fun x => (x.f0 == (a : Int) && x.f1 == (b : Int)) || (x.f0 == (b : Int) && x.f1 == (a : Int))
def impR (P : List Int) (a b : Nat) : Rel := fun x y => if (y < x ∧ (x < a ∨ (x = a ∧ y < b))) ∨ (x < y ∧ (y < a ∨ (y = a ∧ x < b))) then difR P x y else false
def partL : Nat → List Nat → List Int
  | _, [] => []
  | i, s :: ss => List.replicate s (i : Int) ++ partL (i + 1) ss
theorem rd_mid_ (pre : List Int) (s : Int) (ss : List Int) : rd (pre ++ s :: ss) (pre.length : Int) = s := by
  show (pre ++ s :: ss).getD (pre.length : Int).toNat 0 = s
  rw [Int.toNat_natCast]
  simp [List.getD_eq_getElem?_getD]
def sumN : List Nat → Nat
  | [] => 0
  | s :: ss => s + sumN ss
theorem w1 {n : Nat} (h : n < 4611686018427387904) : wrap64 ((n : Int) + 1) = ((n + 1 : Nat) : Int) := by unfold wrap64; omega
theorem iparts_l0 (L : List Int) (hL : L.length ≤ 12) (R : Int × List S61) : ∀ (rest : List Nat) (pre P : List Int), L = pre ++ castL rest → P.length + sumN rest ≤ 12 → Ev (fun k => impl_partsParty.l1 k (P ++ partL pre.length rest) (List.replicate (P ++ partL pre.length rest).length 0) ((P ++ partL pre.length rest).length : Int) 0) R → Ev (fun k => impl_partsParty.l0 k P L (L.length : Int) (pre.length : Int)) R
  | [], pre, P, e, hp, h => by
    rw [partL, List.append_nil] at h
    refine Ev.step (fun k => ?_) h
    have : L.length = pre.length := by rw [e]; simp [castL, castL_len]
    rw [impl_partsParty.l0, if_neg (by omega), if_pos (by omega), Int.toNat_natCast, if_pos (by omega)]
  | s :: ss, pre, P, e, hp, h => by
    have hl : L.length = pre.length + (ss.length + 1) := by rw [e]; simp [castL, castL_len]
    have hs : rd L (pre.length : Int) = (s : Int) := by rw [e]; exact rd_mid_ pre _ _
    simp only [sumN] at hp
    have hq : P ++ List.replicate s (pre.length : Int) ++ partL (pre ++ [(s : Int)]).length ss = P ++ partL pre.length (s :: ss) := by rw [List.length_append, List.length_singleton, List.append_assoc]; rfl
    have ih := iparts_l0 L hL R ss (pre ++ [(s : Int)]) (P ++ List.replicate s (pre.length : Int)) (by rw [e, List.append_assoc]; rfl) (by rw [List.length_append, List.length_replicate]; omega) (by rw [hq]; exact h)
    rw [List.length_append, List.length_singleton] at ih
    have hrep : slices_Repeat_int_int.f [(pre.length : Int)] (s : Int) = some (List.replicate s (pre.length : Int)) := by
      unfold slices_Repeat_int_int.f
      rw [if_pos ⟨rfl, by omega, by omega⟩, Int.toNat_natCast]
      rfl
    refine Ev.step (fun k => ?_) ih
    rw [impl_partsParty.l0, if_pos (by omega), if_pos (by omega), if_pos (by omega), hs, hrep, Option.bind_some, if_pos (by rw [List.length_replicate]; omega), w1 (by omega)]
theorem dif_symm (P : List Int) (x y : Nat) : difR P x y = difR P y x := by
  unfold difR
  by_cases h : rd P (x : Int) = rd P (y : Int)
  · simp [h]
  · have h2 : ¬ rd P (y : Int) = rd P (x : Int) := fun e => h e.symm
    simp [bne, beq_eq_false_iff_ne.mpr h, beq_eq_false_iff_ne.mpr h2]
/-! ### tables of bits -/
def bitsOf : Nat → (Nat → Bool) → Nat
  | 0, _ => 0
  | m + 1, f => bitsOf m f + (f m).toNat * 2 ^ m
def tab (m : Nat) (r : Rel) : List Int := (List.range m).map fun a => ((bitsOf m (r a) : Nat) : Int)
theorem bitsOf_lt : ∀ (m : Nat) (f : Nat → Bool), bitsOf m f < 2 ^ m
  | 0, _ => by simp [bitsOf]
  | m + 1, f => by
    have := bitsOf_lt m f
    have h2 : (f m).toNat * 2 ^ m ≤ 2 ^ m := by cases f m <;> simp
    rw [bitsOf, Nat.pow_succ]; omega
theorem testBit_bitsOf : ∀ (m : Nat) (f : Nat → Bool) (i : Nat), (bitsOf m f).testBit i = (decide (i < m) && f i)
  | 0, f, i => by simp [bitsOf]
  | m + 1, f, i => by
    have ih := testBit_bitsOf m f
    by_cases hi : i < m
    · have h1 : i < m + 1 := by omega
      cases hf : f m with
      | false => simp [bitsOf, hf, ih i, hi, h1]
      | true => rw [bitsOf, hf, Bool.toNat_true, Nat.one_mul, Nat.add_comm, Nat.testBit_two_pow_add_gt hi, ih i]; simp [hi, h1]
    · by_cases e : i = m
      · subst e
        cases hf : f i with
        | false => simp [bitsOf, hf, ih i]
        | true => rw [bitsOf, hf, Bool.toNat_true, Nat.one_mul, Nat.add_comm, Nat.testBit_two_pow_add_eq, ih i]; simp
      · have h1 : ¬ i < m + 1 := by omega
        rw [Nat.testBit_lt_two_pow (Nat.lt_of_lt_of_le (bitsOf_lt (m + 1) f) (Nat.pow_le_pow_right (by decide) (by omega)))]
        simp [h1]
theorem bitsOf_congr (m : Nat) (f g : Nat → Bool) (h : ∀ i, i < m → f i = g i) : bitsOf m f = bitsOf m g := by
  apply Nat.eq_of_testBit_eq
  intro i
  rw [testBit_bitsOf, testBit_bitsOf]
  by_cases hi : i < m
  · simp [hi, h i hi]
  · simp [hi]
theorem map_range_congr {α : Type} (m : Nat) (f g : Nat → α) (h : ∀ a, a < m → f a = g a) : (List.range m).map f = (List.range m).map g := List.map_congr_left fun a ha => h a (List.mem_range.1 ha)
theorem tab_congr (m : Nat) (r s : Rel) (h : ∀ a b, a < m → b < m → r a b = s a b) : tab m r = tab m s := map_range_congr m _ _ fun a ha => by rw [bitsOf_congr m _ _ fun b hb => h a b ha hb]
def upd (r : Rel) (a b : Nat) (v : Bool) : Rel := fun x y => if x = a ∧ y = b then v else r x y
theorem imp_put (m : Nat) (P : List Int) (a b : Nat) (hba : b < a) (h : ¬ rd P (a : Int) = rd P (b : Int)) : tab m (upd (upd (impR P a b) a b true) b a true) = tab m (impR P a (b + 1)) := by
  have hd : difR P a b = true := by simp [difR, h]
  refine tab_congr m _ _ fun x y hx hy => ?_
  unfold upd
  by_cases h1 : x = b ∧ y = a
  · obtain ⟨rfl, rfl⟩ := h1
    rw [if_pos ⟨rfl, rfl⟩]
    unfold impR
    rw [if_pos (by omega), dif_symm, hd]
  · rw [if_neg h1]
    by_cases h2 : x = a ∧ y = b
    · obtain ⟨rfl, rfl⟩ := h2
      rw [if_pos ⟨rfl, rfl⟩]
      unfold impR
      rw [if_pos (by omega), hd]
    · rw [if_neg h2]
      unfold impR
      have : ((y < x ∧ (x < a ∨ (x = a ∧ y < b))) ∨ (x < y ∧ (y < a ∨ (y = a ∧ x < b)))) ↔ ((y < x ∧ (x < a ∨ (x = a ∧ y < b + 1))) ∨ (x < y ∧ (y < a ∨ (y = a ∧ x < b + 1)))) := by omega
      simp only [this]
theorem imp_row (m : Nat) (P : List Int) (a : Nat) : tab m (impR P a a) = tab m (impR P (a + 1) 0) := by
  refine tab_congr m _ _ fun x y hx hy => ?_
  unfold impR
  have : ((y < x ∧ (x < a ∨ (x = a ∧ y < a))) ∨ (x < y ∧ (y < a ∨ (y = a ∧ x < a)))) ↔ ((y < x ∧ (x < a + 1 ∨ (x = a + 1 ∧ y < 0))) ∨ (x < y ∧ (y < a + 1 ∨ (y = a + 1 ∧ x < 0)))) := by omega
  simp only [this]
theorem imp_skip (m : Nat) (P : List Int) (a b : Nat) (h : rd P (a : Int) = rd P (b : Int)) : tab m (impR P a b) = tab m (impR P a (b + 1)) := by
  have hd : difR P a b = false := by simp [difR, h]
  refine tab_congr m _ _ fun x y hx hy => ?_
  unfold impR
  by_cases h1 : (x = b ∧ y = a) ∨ (x = a ∧ y = b)
  · have e : difR P x y = false := by
      rcases h1 with ⟨rfl, rfl⟩ | ⟨rfl, rfl⟩
      · rw [dif_symm]; exact hd
      · exact hd
    rw [e]
    simp
  · have : ((y < x ∧ (x < a ∨ (x = a ∧ y < b))) ∨ (x < y ∧ (y < a ∨ (y = a ∧ x < b)))) ↔ ((y < x ∧ (x < a ∨ (x = a ∧ y < b + 1))) ∨ (x < y ∧ (y < a ∨ (y = a ∧ x < b + 1)))) := by omega
    simp only [this]
theorem tab_len (m : Nat) (r : Rel) : (tab m r).length = m := by simp [tab]
theorem bitsOf_or (m : Nat) (f : Nat → Bool) (b : Nat) (hb : b < m) : bitsOf m f ||| 2 ^ b = bitsOf m fun j => if j = b then true else f j := by
  apply Nat.eq_of_testBit_eq
  intro i
  rw [Nat.testBit_or, testBit_bitsOf, testBit_bitsOf, Nat.testBit_two_pow]
  by_cases e : i = b
  · subst e; simp [hb]
  · have e' : ¬ b = i := fun h => e h.symm
    simp [e, e']
theorem bitsOf_u16 (m : Nat) (hm : m ≤ 12) (f : Nat → Bool) : bitsOf m f < 65536 :=
  Nat.lt_of_lt_of_le (bitsOf_lt m f) (Nat.le_trans (Nat.pow_le_pow_right (by decide) hm) (by decide))
theorem wraps_u16 (n : Int) (h0 : 0 ≤ n) (h1 : n < 2 ^ 16) : IntKind.u16.wrap n = n := by
  simp [IntKind.wrap, IntKind.bits, IntKind.signed]; omega
theorem or16 (x y : Nat) (hx : x < 65536) (hy : y < 65536) : Go.bits .or .u16 (x : Int) (y : Int) = ((x ||| y : Nat) : Int) := (bits_nat .u16 16 (by decide) wraps_u16 x y hx hy).2
theorem pow_u16 (b : Nat) (h : b ≤ 12) : 2 ^ b < 65536 := Nat.lt_of_le_of_lt (Nat.pow_le_pow_right (by decide) h) (by decide)
theorem shl1 (b : Nat) (h : b ≤ 12) : shl .u16 1 (b : Int) = ((2 ^ b : Nat) : Int) := by
  have : b = 0 ∨ b = 1 ∨ b = 2 ∨ b = 3 ∨ b = 4 ∨ b = 5 ∨ b = 6 ∨ b = 7 ∨ b = 8 ∨ b = 9 ∨ b = 10 ∨ b = 11 ∨ b = 12 := by omega
  rcases this with rfl | rfl | rfl | rfl | rfl | rfl | rfl | rfl | rfl | rfl | rfl | rfl | rfl <;> decide
theorem map_range_getD {α : Type} (m : Nat) (f : Nat → α) (d : α) (a : Nat) (h : a < m) : ((List.range m).map f).getD a d = f a := by simp [List.getD_eq_getElem?_getD, h]
theorem tab_at (m : Nat) (r : Rel) (a : Nat) (h : a < m) : rd (tab m r) (a : Int) = ((bitsOf m (r a) : Nat) : Int) := map_range_getD m _ _ a h
theorem map_range_set {α : Type} (m : Nat) (f : Nat → α) (a : Nat) (v : α) : ((List.range m).map f).set a v = (List.range m).map fun i => if i = a then v else f i := by
  apply List.ext_getElem?
  intro j
  rw [List.getElem?_set]
  by_cases hj : j < m
  · by_cases e : a = j
    · subst e; simp [hj]
    · have e' : ¬ j = a := fun h => e h.symm
      simp [hj, e, e']
  · by_cases e : a = j
    · subst e; simp [hj]
    · simp [hj, e]
theorem tab_set (m : Nat) (r : Rel) (a : Nat) (f : Nat → Bool) : (tab m r).set a ((bitsOf m f : Nat) : Int) = tab m (fun x => if x = a then f else r x) := by
  unfold tab
  rw [map_range_set]
  refine map_range_congr m _ _ fun i hi => ?_
  by_cases e : i = a <;> simp [e]
theorem tab_or (m : Nat) (hm : m ≤ 12) (r : Rel) (a b : Nat) (ha : a < m) (hb : b < m) : (tab m r).set a (Go.bits .or .u16 (rd (tab m r) (a : Int)) (shl .u16 1 (b : Int))) = tab m (upd r a b true) := by
  rw [tab_at m r a ha, shl1 b (by omega), or16 _ _ (bitsOf_u16 m hm _) (pow_u16 b (by omega)), bitsOf_or m _ b hb, tab_set]
  refine tab_congr m _ _ fun x y hx hy => ?_
  by_cases e : x = a
  · subst e; simp [upd]
  · simp [upd, e]
theorem put_f (m : Nat) (hm : m ≤ 12) (r : Rel) (a b : Nat) (ha : a < m) (hb : b < m) : impl_table_put.f (tab m r) (a : Int) (b : Int) = some (tab m (upd (upd r a b true) b a true)) := by
  unfold impl_table_put.f
  rw [if_pos (by omega), tab_len, if_pos (by omega), if_pos (by omega), Int.toNat_natCast, Int.toNat_natCast, tab_or m hm r a b ha hb]
  simp only [Option.bind_some]
  rw [if_pos (by omega), tab_or m hm _ b a hb ha]
theorem iparts_l2 (P : List Int) (m : Nat) (hP : P.length = m) (hm : m ≤ 12) (a : Nat) (ha : a < m) (R : Int × List S61) (h : Ev (fun k => impl_partsParty.l1 k P (tab m (impR P (a + 1) 0)) (m : Int) ((a + 1 : Nat) : Int)) R) : ∀ (d b : Nat), b + d = a → Ev (fun k => impl_partsParty.l2 k P (tab m (impR P a b)) (a : Int) (m : Int) (a : Int) (a : Int) (b : Int)) R
  | 0, b, hd => by
    obtain rfl : b = a := by omega
    refine Ev.step (fun k => ?_) h
    rw [impl_partsParty.l2, if_neg (by omega), w1 (by omega), imp_row]
  | d + 1, b, hd => by
    refine Ev.step (fun k => ?_) (iparts_l2 P m hP hm a ha R h d (b + 1) (by omega))
    rw [impl_partsParty.l2, hP, if_pos (by omega), if_pos (by omega), if_pos (by omega), if_pos (by omega), if_pos (by omega)]
    by_cases e : rd P (a : Int) = rd P (b : Int)
    · rw [if_pos e, w1 (by omega), imp_skip m P a b e]
    · rw [if_neg e, put_f m hm _ a b ha (by omega), Option.bind_some, imp_put m P a b (by omega) e, w1 (by omega)]
/-! ### pairs listed -/
def rowFrom (r : Rel) (a : Nat) : Nat → Nat → List S61
  | _, 0 => []
  | b, d + 1 => (if r a b then [⟨(a : Int), (b : Int)⟩] else []) ++ rowFrom r a (b + 1) d
def pairsFrom (r : Rel) (m : Nat) : Nat → Nat → List S61
  | _, 0 => []
  | a, d + 1 => rowFrom r a (a + 1) (m - (a + 1)) ++ pairsFrom r m (a + 1) d
def pairsOf (m : Nat) (r : Rel) : List S61 := pairsFrom r m 0 m
theorem rowFrom_congr (r s : Rel) (a : Nat) : ∀ (d b : Nat), (∀ y, b ≤ y → y < b + d → r a y = s a y) → rowFrom r a b d = rowFrom s a b d
  | 0, _, _ => rfl
  | d + 1, b, h => by
    rw [rowFrom, rowFrom, h b (Nat.le_refl _) (by omega), rowFrom_congr r s a d (b + 1) (fun y h1 h2 => h y (by omega) (by omega))]
theorem pairsFrom_congr (r s : Rel) (m : Nat) (h : ∀ x y, x < y → y < m → r x y = s x y) : ∀ (d a : Nat), a + d ≤ m → pairsFrom r m a d = pairsFrom s m a d
  | 0, _, _ => rfl
  | d + 1, a, hd => by
    rw [pairsFrom, pairsFrom, rowFrom_congr r s a _ _ (fun y h1 h2 => h a y (by omega) (by omega)), pairsFrom_congr r s m h d (a + 1) (by omega)]
theorem pairsOf_congr (m : Nat) (r s : Rel) (h : ∀ x y, x < y → y < m → r x y = s x y) : pairsOf m r = pairsOf m s := pairsFrom_congr r s m h m 0 (by omega)
theorem and16 (x y : Nat) (hx : x < 65536) (hy : y < 65536) : Go.bits .and .u16 (x : Int) (y : Int) = ((x &&& y : Nat) : Int) := (bits_nat .u16 16 (by decide) wraps_u16 x y hx hy).1
theorem has_f (m : Nat) (hm : m ≤ 12) (r : Rel) (a b : Nat) (ha : a < m) (hb : b < m) : impl_table_has.f (tab m r) (a : Int) (b : Int) = some (r a b) := by
  unfold impl_table_has.f
  rw [if_pos (by omega), if_pos (by rw [tab_len]; omega), if_pos (by omega), tab_at m r a ha]
  have hX := bitsOf_u16 m hm (r a)
  have hs : shr .u16 ((bitsOf m (r a) : Nat) : Int) (b : Int) = ((bitsOf m (r a) / 2 ^ b : Nat) : Int) := by
    unfold shr
    rw [Int.toNat_natCast, Nat.min_eq_left (show b ≤ IntKind.u16.bits from by show b ≤ 16; omega)]
    simp
  have hd : bitsOf m (r a) / 2 ^ b < 65536 := Nat.lt_of_le_of_lt (Nat.div_le_self _ _) hX
  have ht := testBit_bitsOf m (r a) b
  rw [Nat.testBit_eq_decide_div_mod_eq] at ht
  have e1 : Go.bits .and .u16 ((bitsOf m (r a) / 2 ^ b : Nat) : Int) 1 = ((bitsOf m (r a) / 2 ^ b % 2 : Nat) : Int) := by
    have := and16 (bitsOf m (r a) / 2 ^ b) 1 hd (by decide)
    rw [Nat.and_one_is_mod] at this
    exact this
  rw [hs, e1]
  simp only [hb, decide_true, Bool.true_and] at ht
  rw [← ht]
  congr 1
  by_cases h : bitsOf m (r a) / 2 ^ b % 2 = 1
  · simp [h]
  · have h0 : bitsOf m (r a) / 2 ^ b % 2 = 0 := by omega
    simp [h0]
theorem party_l1 (m : Nat) (hm : m ≤ 12) (r : Rel) (a : Nat) (ha : a < m) (n : Int) (R : Int × List S61) : ∀ (d b : Nat) (acc : List S61), b + d = m → acc.length ≤ 12 * a + b → Ev (fun k => impl_table_party.l0 k (tab m r) (m : Int) ((a + 1 : Nat) : Int) n (acc ++ rowFrom r a b d)) R → Ev (fun k => impl_table_party.l1 k (tab m r) (a : Int) (b : Int) (m : Int) (a : Int) n acc) R
  | 0, b, acc, hd, hacc, h => by
    refine Ev.step (fun k => ?_) h
    rw [impl_table_party.l1, tab_len, if_neg (by omega), w1 (by omega), rowFrom, List.append_nil]
  | d + 1, b, acc, hd, hacc, h => by
    have hb : b < m := by omega
    rw [rowFrom, ← List.append_assoc] at h
    cases hr : r a b with
    | true =>
      rw [hr, if_pos rfl] at h
      have ih := party_l1 m hm r a ha n R d (b + 1) (acc ++ [⟨(a : Int), (b : Int)⟩]) (by omega) (by simp; omega) h
      refine Ev.step (fun k => ?_) ih
      rw [impl_table_party.l1, tab_len, if_pos (by omega), has_f m hm r a b ha hb, hr]
      simp only [Option.bind_some, if_true]
      rw [if_pos (by omega), w1 (by omega)]
    | false =>
      rw [hr, if_neg (by decide), List.append_nil] at h
      have ih := party_l1 m hm r a ha n R d (b + 1) acc (by omega) (by omega) h
      refine Ev.step (fun k => ?_) ih
      rw [impl_table_party.l1, tab_len, if_pos (by omega), has_f m hm r a b ha hb, hr, w1 (by omega)]
      rfl
theorem rowFrom_len (r : Rel) (a : Nat) : ∀ (d b : Nat), (rowFrom r a b d).length ≤ d
  | 0, _ => Nat.le_refl _
  | d + 1, b => by
    have := rowFrom_len r a d (b + 1)
    rw [rowFrom, List.length_append]
    split <;> simp <;> omega
theorem party_l0 (m : Nat) (hm : m ≤ 12) (r : Rel) (n : Int) : ∀ (d a : Nat) (acc : List S61), a + d = m → acc.length ≤ 12 * a → Ev (fun k => impl_table_party.l0 k (tab m r) (m : Int) (a : Int) n acc) (n, acc ++ pairsFrom r m a d)
  | 0, a, acc, hd, hacc => by
    refine Ev.one (fun k => ?_)
    rw [impl_table_party.l0, if_neg (by omega), pairsFrom, List.append_nil]
  | d + 1, a, acc, hd, hacc => by
    have hl := rowFrom_len r a (m - (a + 1)) (a + 1)
    have ih := party_l0 m hm r n d (a + 1) (acc ++ rowFrom r a (a + 1) (m - (a + 1))) (by omega) (by rw [List.length_append]; omega)
    rw [List.append_assoc, ← pairsFrom] at ih
    have h := party_l1 m hm r a (by omega) n _ (m - (a + 1)) (a + 1) acc (by omega) (by omega) ih
    refine Ev.step (fun k => ?_) h
    rw [impl_table_party.l0, if_pos (by omega), w1 (by omega)]
theorem party_ev (m : Nat) (hm : m ≤ 12) (r : Rel) : Ev (fun k => impl_table_party.f k (tab m r)) ((m : Int), pairsOf m r) := by
  unfold impl_table_party.f
  rw [tab_len]
  exact party_l0 m hm r m m 0 [] (by omega) (by simp)

theorem iparts_l1 (P : List Int) (m : Nat) (hP : P.length = m) (hm : m ≤ 12) : ∀ (d a : Nat), a + d = m → Ev (fun k => impl_partsParty.l1 k P (tab m (impR P a 0)) (m : Int) (a : Int)) ((m : Int), pairsOf m (difR P))
  | 0, a, hd => by
    obtain rfl : a = m := by omega
    have e : pairsOf a (impR P a 0) = pairsOf a (difR P) := pairsOf_congr a _ _ fun x y hxy hy => by unfold impR; rw [if_pos (by omega)]
    rw [← e]
    refine Ev.step (f := fun k => (impl_table_party.f k (tab a (impR P a 0))).bind fun bt => some (bt.1, bt.2)) (fun k => ?_) (Ev.bind (party_ev a hm _) (Ev.now _))
    rw [impl_partsParty.l1, if_neg (by omega)]
  | d + 1, a, hd => by
    refine Ev.step (fun k => ?_) (iparts_l2 P m hP hm a (by omega) _ (iparts_l1 P m hP hm d (a + 1) (by omega)) a 0 (by omega))
    rw [impl_partsParty.l1, if_pos (by omega)]
    rfl
/-! ### matrices -/
def mat (m : Nat) (r : Rel) : List (List Bool) := (List.range m).map fun a => (List.range m).map fun b => r a b
theorem mat_congr (m : Nat) (r s : Rel) (h : ∀ a b, a < m → b < m → r a b = s a b) : mat m r = mat m s := map_range_congr m _ _ fun a ha => map_range_congr m _ _ fun b hb => h a b ha hb
def natPairs (m : Nat) (l : List S61) : Prop := ∀ x ∈ l, ∃ a b : Nat, x = ⟨(a : Int), (b : Int)⟩ ∧ a < b ∧ b < m
theorem hasP_nil : hasP [] = fun _ _ => false := by funext x y; rfl
theorem map_range_const {α : Type} (c : α) : ∀ m : Nat, (List.range m).map (fun _ => c) = List.replicate m c
  | 0 => rfl
  | m + 1 => by rw [List.range_succ, List.map_append, map_range_const c m, List.replicate_succ']; rfl
theorem mat_false (m : Nat) : mat m (fun _ _ => false) = List.replicate m (List.replicate m false) := by
  unfold mat; rw [map_range_const, map_range_const]
theorem mat_len (m : Nat) (r : Rel) : (mat m r).length = m := by simp [mat]
theorem mat_row (m : Nat) (r : Rel) (a : Nat) (h : a < m) : rd_L4 (mat m r) (a : Int) = (List.range m).map fun b => r a b := map_range_getD m _ _ a h
theorem mat_set (m : Nat) (r : Rel) (a b : Nat) (v : Bool) (ha : a < m) : (mat m r).set a ((rd_L4 (mat m r) (a : Int)).set b v) = mat m (upd r a b v) := by
  rw [mat_row m r a ha, map_range_set]
  show ((List.range m).map fun a => (List.range m).map fun b => r a b).set a _ = _
  rw [map_range_set]
  refine map_range_congr m _ _ fun i hi => ?_
  by_cases e : i = a
  · subst e
    rw [if_pos rfl]
    refine map_range_congr m _ _ fun j hj => ?_
    simp [upd]
  · rw [if_neg e]
    refine map_range_congr m _ _ fun j hj => ?_
    simp [upd, e]
theorem rdT_mid (pre rest : List S61) (x : S61) : rd_T61 (pre ++ x :: rest) (pre.length : Int) = x := by
  unfold rd_T61
  simp [List.getD_eq_getElem?_getD]
theorem hasP_snoc (pre : List S61) (a b x y : Nat) : hasP (pre ++ [⟨(a : Int), (b : Int)⟩]) x y = (hasP pre x y || ((decide (a = x) && decide (b = y)) || (decide (a = y) && decide (b = x)))) := by
  unfold hasP
  rw [List.any_append]
  congr 1
  simp only [List.any_cons, List.any_nil, Bool.or_false]
  have e : ∀ u v : Nat, ((u : Int) == (v : Int)) = decide (u = v) := fun u v => by
    by_cases h : u = v
    · simp [h]
    · have : ¬ (u : Int) = (v : Int) := by omega
      simp [h, this]
  rw [e, e, e, e]
theorem upd2_hasP (pre : List S61) (a b : Nat) : upd (upd (hasP pre) a b true) b a true = hasP (pre ++ [⟨(a : Int), (b : Int)⟩]) := by
  funext x y
  rw [hasP_snoc]
  unfold upd
  by_cases h1 : x = b ∧ y = a
  · simp [h1]
  · by_cases h2 : x = a ∧ y = b
    · simp [h2]
    · have e1 : (decide (a = x) && decide (b = y)) = false := by simp; intro h3 h4; exact h2 ⟨h3.symm, h4.symm⟩
      have e2 : (decide (a = y) && decide (b = x)) = false := by simp; intro h3 h4; exact h1 ⟨h4.symm, h3.symm⟩
      simp [h1, h2, e1, e2]
theorem paTable_l1 (m : Nat) (l : List S61) (hl : l.length < 4611686018427387904) (hn : natPairs m l) : ∀ (rest pre : List S61), l = pre ++ rest → Ev (fun k => spec_paTable.l1 k (mat m (hasP pre)) l (l.length : Int) (pre.length : Int)) (mat m (hasP l))
  | [], pre, h => by
    refine Ev.one (fun k => ?_)
    have e : l = pre := by rw [h]; simp
    rw [spec_paTable.l1, if_neg (by rw [e]; omega), e]
  | x :: rest, pre, h => by
    have hlen : pre.length < l.length := by rw [h]; simp
    obtain ⟨a, b, rfl, hab, hb⟩ := hn x (by rw [h]; simp)
    have hx : rd_T61 l (pre.length : Int) = ⟨(a : Int), (b : Int)⟩ := by rw [h]; exact rdT_mid pre rest _
    have ih := paTable_l1 m l hl hn rest (pre ++ [⟨(a : Int), (b : Int)⟩]) (by rw [h]; simp)
    rw [List.length_append, List.length_singleton, ← upd2_hasP] at ih
    refine Ev.step (fun k => ?_) ih
    have hrow : (rd_L4 (mat m (hasP pre)) (a : Int)).length = m := by rw [mat_row _ _ _ (by omega)]; simp
    have hrow2 : (rd_L4 (mat m (upd (hasP pre) a b true)) (b : Int)).length = m := by rw [mat_row _ _ _ (by omega)]; simp
    rw [spec_paTable.l1, if_pos (by omega), if_pos (by omega), if_pos (by omega), hx]
    dsimp only
    rw [mat_len, hrow, if_pos (by omega), if_pos (by omega), if_pos (by omega), if_pos (by omega), Int.toNat_natCast, Int.toNat_natCast, mat_set _ _ _ _ _ (by omega)]
    simp only [Option.bind_some]
    rw [if_pos (by omega), hrow2, if_pos (by omega), mat_set _ _ _ _ _ (by omega), w1 (by omega)]
theorem paTable_l0 (m : Nat) (hm : m ≤ 12) (l : List S61) (hl : l.length < 4611686018427387904) (hn : natPairs m l) : ∀ (d i : Nat), i + d = m → Ev (fun k => spec_paTable.l0 k (List.replicate i (List.replicate m false)) (i : Int) (m : Int) l) (mat m (hasP l))
  | 0, i, hd => by
    refine Ev.step (fun k => ?_) (paTable_l1 m l hl hn l [] rfl)
    obtain rfl : i = m := by omega
    rw [spec_paTable.l0, if_neg (by omega), hasP_nil, mat_false]
    rfl
  | d + 1, i, hd => by
    refine Ev.step (fun k => ?_) (paTable_l0 m hm l hl hn d (i + 1) (by omega))
    rw [spec_paTable.l0, if_pos (by omega), if_pos (by omega), if_pos (by omega), if_pos (by simp; omega), w1 (by omega), Int.toNat_natCast, List.replicate_succ']
theorem paTable_ev (m : Nat) (hm : m ≤ 12) (l : List S61) (hl : l.length < 4611686018427387904) (hn : natPairs m l) : Ev (fun k => spec_paTable.f k (m : Int) l) (mat m (hasP l)) := by
  unfold spec_paTable.f
  exact paTable_l0 m hm l hl hn m 0 (by omega)
theorem partL_len : ∀ (l : List Nat) (i : Nat), (partL i l).length = sumN l
  | [], _ => rfl
  | s :: ss, i => by rw [partL, List.length_append, List.length_replicate, partL_len ss, sumN]
theorem w64 {i : Int} (h0 : -9223372036854775808 ≤ i) (h : i ≤ 9223372036854775807) : wrap64 i = i := by unfold wrap64; omega
theorem parts_l1 (L : List Int) (i : Nat) (hi : i < 1000) (R : Int × List S61) : ∀ (s : Nat) (P : List Int), P.length + s ≤ 1000000 → Ev (fun k => spec_grParts.l0 k (P ++ List.replicate s (i : Int)) L (L.length : Int) ((i + 1 : Nat) : Int)) R → Ev (fun k => spec_grParts.l1 k P (i : Int) (s : Int) L (L.length : Int) (i : Int)) R
  | 0, P, hp, h => by
    rw [List.replicate_zero, List.append_nil] at h
    refine Ev.step (fun k => ?_) h
    rw [spec_grParts.l1, if_neg (by omega), w1 (by omega)]
  | s + 1, P, hp, h => by
    refine Ev.step (fun k => ?_) (parts_l1 L i hi R s (P ++ [(i : Int)]) (by rw [List.length_append]; simp; omega) (by rw [List.append_assoc]; exact h))
    rw [spec_grParts.l1, if_pos (by omega), if_pos (by omega), show wrap64 (((s + 1 : Nat) : Int) - 1) = (s : Int) from by rw [w64 (by omega) (by omega)]; omega]
theorem parts_l0 (L : List Int) (hL : L.length ≤ 12) (R : Int × List S61) : ∀ (rest : List Nat) (pre P : List Int), L = pre ++ castL rest → P.length + sumN rest ≤ 1000 → Ev (fun k => (spec_paTable.f k ((P ++ partL pre.length rest).length : Int) []).bind fun t => spec_grParts.l2 k (P ++ partL pre.length rest) t ((P ++ partL pre.length rest).length : Int) 0) R → Ev (fun k => spec_grParts.l0 k P L (L.length : Int) (pre.length : Int)) R
  | [], pre, P, e, hp, h => by
    rw [partL, List.append_nil] at h
    refine Ev.step (fun k => ?_) h
    have : L.length = pre.length := by rw [e]; simp [castL, castL_len]
    rw [spec_grParts.l0, if_neg (by omega)]
  | s :: ss, pre, P, e, hp, h => by
    have hl : L.length = pre.length + (ss.length + 1) := by rw [e]; simp [castL, castL_len]
    have hs : rd L (pre.length : Int) = (s : Int) := by rw [e]; exact rd_mid_ pre _ _
    simp only [sumN] at hp
    have hq : P ++ List.replicate s (pre.length : Int) ++ partL (pre ++ [(s : Int)]).length ss = P ++ partL pre.length (s :: ss) := by rw [List.length_append, List.length_singleton, List.append_assoc]; rfl
    have ih := parts_l0 L hL R ss (pre ++ [(s : Int)]) (P ++ List.replicate s (pre.length : Int)) (by rw [e, List.append_assoc]; rfl) (by rw [List.length_append, List.length_replicate]; omega) (by rw [hq]; exact h)
    rw [List.length_append, List.length_singleton] at ih
    refine Ev.step (fun k => ?_) (parts_l1 L pre.length (by omega) R s P (by omega) ih)
    rw [spec_grParts.l0, if_pos (by omega), if_pos (by omega), if_pos (by omega), hs]
theorem mat_at (m : Nat) (r : Rel) (a b : Nat) (h : a < m) (h2 : b < m) : rdOf false (rd_L4 (mat m r) (a : Int)) (b : Int) = r a b := by
  rw [mat_row m r a h]; exact map_range_getD m _ _ b h2
theorem paOf_l1 (m : Nat) (hm : m ≤ 12) (r : Rel) (a : Nat) (ha : a < m) (n : Int) (R : Int × List S61) : ∀ (d b : Nat) (acc : List S61), b + d = m → acc.length ≤ 12 * a + b → Ev (fun k => spec_paOf.l0 k (mat m r) (m : Int) ((a + 1 : Nat) : Int) n (acc ++ rowFrom r a b d)) R → Ev (fun k => spec_paOf.l1 k (mat m r) (a : Int) (b : Int) (m : Int) (a : Int) n acc) R
  | 0, b, acc, hd, hacc, h => by
    refine Ev.step (fun k => ?_) h
    rw [spec_paOf.l1, mat_len, if_neg (by omega), w1 (by omega), rowFrom, List.append_nil]
  | d + 1, b, acc, hd, hacc, h => by
    have hb : b < m := by omega
    rw [rowFrom, ← List.append_assoc] at h
    have hrow : (rd_L4 (mat m r) (a : Int)).length = m := by rw [mat_row m r a ha]; simp
    cases hr : r a b with
    | true =>
      rw [hr, if_pos rfl] at h
      have ih := paOf_l1 m hm r a ha n R d (b + 1) (acc ++ [⟨(a : Int), (b : Int)⟩]) (by omega) (by simp; omega) h
      refine Ev.step (fun k => ?_) ih
      rw [spec_paOf.l1, mat_len, if_pos (by omega), if_pos (by omega), if_pos (by omega), if_pos (by omega), hrow, if_pos (by omega), mat_at m r a b ha hb, hr, if_pos rfl, if_pos (by omega), w1 (by omega)]
    | false =>
      rw [hr, if_neg (by decide), List.append_nil] at h
      have ih := paOf_l1 m hm r a ha n R d (b + 1) acc (by omega) (by omega) h
      refine Ev.step (fun k => ?_) ih
      rw [spec_paOf.l1, mat_len, if_pos (by omega), if_pos (by omega), if_pos (by omega), if_pos (by omega), hrow, if_pos (by omega), mat_at m r a b ha hb, hr, if_neg (by decide), w1 (by omega)]
theorem paOf_l0 (m : Nat) (hm : m ≤ 12) (r : Rel) (n : Int) : ∀ (d a : Nat) (acc : List S61), a + d = m → acc.length ≤ 12 * a → Ev (fun k => spec_paOf.l0 k (mat m r) (m : Int) (a : Int) n acc) (n, acc ++ pairsFrom r m a d)
  | 0, a, acc, hd, hacc => by
    refine Ev.one (fun k => ?_)
    rw [spec_paOf.l0, if_neg (by omega), pairsFrom, List.append_nil]
  | d + 1, a, acc, hd, hacc => by
    have hl := rowFrom_len r a (m - (a + 1)) (a + 1)
    have ih := paOf_l0 m hm r n d (a + 1) (acc ++ rowFrom r a (a + 1) (m - (a + 1))) (by omega) (by rw [List.length_append]; omega)
    rw [List.append_assoc, ← pairsFrom] at ih
    have h := paOf_l1 m hm r a (by omega) n _ (m - (a + 1)) (a + 1) acc (by omega) (by omega) ih
    refine Ev.step (fun k => ?_) h
    rw [spec_paOf.l0, if_pos (by omega), w1 (by omega)]
theorem paOf_ev (m : Nat) (hm : m ≤ 12) (r : Rel) : Ev (fun k => spec_paOf.f k (mat m r)) ((m : Int), pairsOf m r) := by
  unfold spec_paOf.f
  rw [mat_len]
  exact paOf_l0 m hm r m m 0 [] (by omega) (by simp)
theorem cut_row (m : Nat) (P : List Int) (a : Nat) : mat m (cutR P a m) = mat m (cutR P (a + 1) 0) := by
  refine mat_congr m _ _ fun x y hx hy => ?_
  unfold cutR
  have : (x < a ∨ x = a ∧ y < m) ↔ (x < a + 1 ∨ x = a + 1 ∧ y < 0) := by omega
  simp [this]
theorem cut_upd (m : Nat) (P : List Int) (a b : Nat) : mat m (upd (cutR P a b) a b (rd P (a : Int) != rd P (b : Int))) = mat m (cutR P a (b + 1)) := by
  refine mat_congr m _ _ fun x y hx hy => ?_
  unfold upd cutR
  by_cases h : x = a ∧ y = b
  · obtain ⟨rfl, rfl⟩ := h; simp [difR]
  · rw [if_neg h]
    have : (x < a ∨ x = a ∧ y < b) ↔ (x < a ∨ x = a ∧ y < b + 1) := by omega
    simp [this]
theorem parts_l3 (P : List Int) (m : Nat) (hP : P.length = m) (hm : m ≤ 12) (a : Nat) (ha : a < m) (R : Int × List S61) (h : Ev (fun k => spec_grParts.l2 k P (mat m (cutR P (a + 1) 0)) (m : Int) ((a + 1 : Nat) : Int)) R) : ∀ (d b : Nat), b + d = m → Ev (fun k => spec_grParts.l3 k P (mat m (cutR P a b)) (a : Int) (m : Int) (a : Int) (m : Int) (b : Int)) R
  | 0, b, hd => by
    obtain rfl : b = m := by omega
    refine Ev.step (fun k => ?_) h
    rw [spec_grParts.l3, if_neg (by omega), w1 (by omega), cut_row]
  | d + 1, b, hd => by
    have hb : b < m := by omega
    have hrow : (rd_L4 (mat m (cutR P a b)) (a : Int)).length = m := by rw [mat_row _ _ _ ha]; simp
    refine Ev.step (fun k => ?_) (parts_l3 P m hP hm a ha R h d (b + 1) (by omega))
    rw [spec_grParts.l3, mat_len, hrow, hP, if_pos (by omega), if_pos (by omega), if_pos (by omega), if_pos (by omega), if_pos (by omega), if_pos (by omega), if_pos (by omega), Int.toNat_natCast, Int.toNat_natCast, mat_set _ _ _ _ _ ha, w1 (by omega), cut_upd]
theorem parts_l2 (P : List Int) (m : Nat) (hP : P.length = m) (hm : m ≤ 12) : ∀ (d a : Nat), a + d = m → Ev (fun k => spec_grParts.l2 k P (mat m (cutR P a 0)) (m : Int) (a : Int)) ((m : Int), pairsOf m (difR P))
  | 0, a, hd => by
    obtain rfl : a = m := by omega
    have e : pairsOf a (cutR P a 0) = pairsOf a (difR P) := pairsOf_congr a _ _ fun x y hxy hy => by unfold cutR; rw [if_pos (by omega)]
    rw [← e]
    refine Ev.step (f := fun k => (spec_paOf.f k (mat a (cutR P a 0))).bind fun bt => some (bt.1, bt.2)) (fun k => ?_) (Ev.bind (paOf_ev a hm _) (Ev.now _))
    rw [spec_grParts.l2, if_neg (by omega)]
  | d + 1, a, hd => by
    refine Ev.step (fun k => ?_) (parts_l3 P m hP hm a (by omega) _ (parts_l2 P m hP hm d (a + 1) (by omega)) m 0 (by omega))
    rw [spec_grParts.l2, if_pos (by omega), hP]
    rfl
theorem tab_false (m : Nat) : tab m (fun _ _ => false) = List.replicate m 0 := by
  unfold tab
  rw [← map_range_const (0 : Int) m]
  refine map_range_congr m _ _ fun i hi => ?_
  have : bitsOf m (fun _ => false) = 0 := by
    apply Nat.eq_of_testBit_eq
    intro i
    rw [testBit_bitsOf]; simp
  rw [this]; rfl
theorem bothParts_ev (l : List Nat) (hl : l.length ≤ 12) (hs : sumN l ≤ 12) : Ev (fun k => spec_grParts.f k (castL l)) ((sumN l : Int), pairsOf (sumN l) (difR (partL 0 l))) ∧ Ev (fun k => impl_partsParty.f k (castL l)) ((sumN l : Int), pairsOf (sumN l) (difR (partL 0 l))) := by
  have hlen : (partL 0 l).length = sumN l := partL_len l 0
  have hc : (castL l).length ≤ 12 := by rw [castL_len]; exact hl
  refine ⟨?_, ?_⟩
  · unfold spec_grParts.f
    refine parts_l0 (castL l) hc _ l [] [] rfl (by simp; omega) ?_
    show Ev (fun k => (spec_paTable.f k ((partL 0 l).length : Int) []).bind fun t => spec_grParts.l2 k (partL 0 l) t ((partL 0 l).length : Int) 0) _
    rw [hlen]
    refine Ev.bind (paTable_ev (sumN l) hs [] (by simp) (fun x hx => by simp at hx)) ?_
    have e : mat (sumN l) (hasP []) = mat (sumN l) (cutR (partL 0 l) 0 0) := mat_congr _ _ _ fun x y hx hy => by simp [hasP, cutR]
    rw [e]
    exact parts_l2 (partL 0 l) (sumN l) hlen hs (sumN l) 0 (by omega)
  · unfold impl_partsParty.f
    refine iparts_l0 (castL l) hc _ l [] [] rfl (by simp; omega) ?_
    show Ev (fun k => impl_partsParty.l1 k (partL 0 l) (List.replicate (partL 0 l).length 0) ((partL 0 l).length : Int) 0) _
    rw [hlen]
    have e : List.replicate (sumN l) (0 : Int) = tab (sumN l) (impR (partL 0 l) 0 0) := by
      rw [← tab_false]
      exact tab_congr _ _ _ fun x y hx hy => by simp [impR]
    rw [e]
    exact iparts_l1 (partL 0 l) (sumN l) hlen hs (sumN l) 0 (by omega)
theorem castL_of : ∀ (L : List Int), inAll L 1 12 = true → ∃ l : List Nat, L = castL l ∧ ∀ n ∈ l, 1 ≤ n ∧ n ≤ 12
  | [], _ => ⟨[], rfl, by simp⟩
  | x :: xs, h => by
    simp only [inAll, List.all_cons, Bool.and_eq_true, decide_eq_true_eq] at h
    obtain ⟨⟨h1, h2⟩, h3⟩ := h
    obtain ⟨l, rfl, hl⟩ := castL_of xs h3
    obtain ⟨n, rfl⟩ := Int.eq_ofNat_of_zero_le (show 0 ≤ x by omega)
    refine ⟨n :: l, rfl, fun m hm => ?_⟩
    rcases List.mem_cons.mp hm with rfl | hm
    · omega
    · exact hl m hm
theorem getD_get (l : List Int) (i : Nat) (h : i < l.length) : l.getD i 0 = l[i] := by simp [List.getD_eq_getElem?_getD, h]
theorem l1In_f (a lo hi : Int) : spec_l1In.f a lo hi = some (decide (lo ≤ a) && decide (a ≤ hi)) := by
  unfold spec_l1In.f
  by_cases h : lo ≤ a
  · rw [if_pos h]; simp [h]
  · rw [if_neg h]; simp [h]
theorem l1All_l0 (l : List Int) (lo hi : Int) (hl : l.length < 4611686018427387904) : ∀ (d i : Nat), i + d = l.length → Ev (fun k => spec_l1All.l0 k lo hi l (l.length : Int) i) (inAll (l.drop i) lo hi)
  | 0, i, hd => by
    refine Ev.one (fun k => ?_)
    rw [spec_l1All.l0, if_neg (by omega), List.drop_of_length_le (by omega)]; rfl
  | d + 1, i, hd => by
    have hi' : i < l.length := by omega
    have e : rd l (i : Int) = l[i] := getD_get l i hi'
    have eD : inAll (l.drop i) lo hi = ((decide (lo ≤ l[i]) && decide (l[i] ≤ hi)) && inAll (l.drop (i + 1)) lo hi) := by
      rw [List.drop_eq_getElem_cons hi']; rfl
    rw [eD]
    cases hb : (decide (lo ≤ l[i]) && decide (l[i] ≤ hi)) with
    | false =>
      refine Ev.one (fun k => ?_)
      rw [spec_l1All.l0, if_pos (by omega), if_pos (by omega), if_pos (by omega), l1In_f, e, hb]; rfl
    | true =>
      refine Ev.step (fun k => ?_) (l1All_l0 l lo hi hl d (i + 1) (by omega))
      rw [spec_l1All.l0, if_pos (by omega), if_pos (by omega), if_pos (by omega), l1In_f, e, hb, w1 (by omega)]; rfl
theorem l1All_ev (l : List Int) (lo hi : Int) (hl : l.length < 4611686018427387904) : Ev (fun k => spec_l1All.f k l lo hi) (inAll l lo hi) := by
  unfold spec_l1All.f
  simpa using l1All_l0 l lo hi hl l.length 0 (by omega)
theorem pairsFrom_len (r : Rel) (m : Nat) (hm : m ≤ 12) : ∀ (d a : Nat), (pairsFrom r m a d).length ≤ 12 * d
  | 0, _ => Nat.le_refl _
  | d + 1, a => by
    have := pairsFrom_len r m hm d (a + 1)
    have := rowFrom_len r a (m - (a + 1)) (a + 1)
    rw [pairsFrom, List.length_append]; omega
theorem pairsOf_len (m : Nat) (hm : m ≤ 12) (r : Rel) : (pairsOf m r).length ≤ 144 := by
  have := pairsFrom_len r m hm m 0
  unfold pairsOf; omega
def partsR (L : List Int) (l : List Nat) : Int × List S61 × Bool := if sumN l > 12 then (0, [], false) else ((sumN l : Int), pairsOf (sumN l) (difR (partL 0 l)), true)
theorem ssum_l0 (l : List Nat) (L : List Int) (eL : L = castL l) (hL : l.length ≤ 12) (hpos : sumN l ≤ 1000) : ∀ (rest : List Nat) (pre : List Int) (x : Nat), L = pre ++ castL rest → x + sumN rest = sumN l → Ev (fun k => spec_PartsParty.l0 k L (x : Int) L (L.length : Int) (pre.length : Int)) (partsR L l)
  | [], pre, x, e, hx => by
    have h1 : L.length = pre.length := by rw [e]; simp [castL]
    simp only [sumN, Nat.add_zero] at hx
    subst hx
    unfold partsR
    by_cases hc : sumN l > 12
    · rw [if_pos hc]
      refine Ev.one (fun k => ?_)
      rw [spec_PartsParty.l0, if_neg (by omega), if_pos (by omega)]
    · rw [if_neg hc]
      refine Ev.step (f := fun k => (spec_grParts.f k L).bind fun bt => some (bt.1, bt.2, true)) (fun k => ?_) (Ev.bind (eL ▸ (bothParts_ev l hL (by omega)).1) (Ev.now _))
      rw [spec_PartsParty.l0, if_neg (by omega), if_neg (by omega)]
  | s :: ss, pre, x, e, hx => by
    have hl : L.length = pre.length + (ss.length + 1) := by rw [e]; simp [castL, castL_len]
    have hl2 : L.length = l.length := by rw [eL, castL_len]
    have hs : rd L (pre.length : Int) = (s : Int) := by rw [e]; exact rd_mid_ pre _ _
    simp only [sumN] at hx
    have ih := ssum_l0 l L eL hL hpos ss (pre ++ [(s : Int)]) (x + s) (by rw [e, List.append_assoc]; rfl) (by omega)
    rw [List.length_append, List.length_singleton] at ih
    refine Ev.step (fun k => ?_) ih
    rw [spec_PartsParty.l0, if_pos (by omega), if_pos (by omega), if_pos (by omega), hs, w1 (by omega), w64 (by omega) (by omega), ← Int.natCast_add x s]
theorem sumN_le : ∀ (l : List Nat), (∀ n ∈ l, 1 ≤ n ∧ n ≤ 12) → sumN l ≤ 12 * l.length
  | [], _ => by simp [sumN]
  | s :: ss, h => by
    have := sumN_le ss fun n hn => h n (List.mem_cons_of_mem _ hn)
    have := h s (by simp)
    simp only [sumN, List.length_cons]
    omega
theorem sum_l0 (L : List Int) (hL : L.length ≤ 12) : ∀ (rest : List Nat) (pre : List Int) (x : Nat), L = pre ++ castL rest → x + sumN rest ≤ 1000 → Ev (fun k => impl_sum.l0 k (x : Int) L (L.length : Int) (pre.length : Int)) ((x + sumN rest : Nat) : Int)
  | [], pre, x, e, hx => by
    have : L.length = pre.length := by rw [e]; simp [castL]
    refine Ev.one (fun k => ?_)
    rw [impl_sum.l0, if_neg (by omega)]
    rfl
  | s :: ss, pre, x, e, hx => by
    have hl : L.length = pre.length + (ss.length + 1) := by rw [e]; simp [castL, castL_len]
    have hs : rd L (pre.length : Int) = (s : Int) := by rw [e]; exact rd_mid_ pre _ _
    simp only [sumN] at hx ⊢
    have ih := sum_l0 L hL ss (pre ++ [(s : Int)]) (x + s) (by rw [e, List.append_assoc]; rfl) (by omega)
    rw [List.length_append, List.length_singleton, Nat.add_assoc] at ih
    refine Ev.step (fun k => ?_) ih
    rw [impl_sum.l0, if_pos (by omega), if_pos (by omega), if_pos (by omega), hs, w1 (by omega), w64 (by omega) (by omega), ← Int.natCast_add x s]
theorem within_f (a lo hi : Int) : impl_within.f a lo hi = some (decide (lo ≤ a) && decide (a ≤ hi)) := by
  unfold impl_within.f
  by_cases h : lo ≤ a
  · rw [if_pos h]; simp [h]
  · rw [if_neg h]; simp [h]
theorem PartsParty_common (L : List Int) (hl : L.length ≤ 1048576) : ∃ R : Int × List S61 × Bool, Ev (fun k => spec_PartsParty.f k L) R ∧ Ev (fun k => impl_PartsParty.f k L) R ∧ R.2.1.length ≤ 1048576 := by
  by_cases h : (1 ≤ (L.length : Int) ∧ (L.length : Int) ≤ 12)
  · have e1 : (decide (1 ≤ (L.length : Int)) && decide ((L.length : Int) ≤ 12)) = true := by simp; omega
    cases hw : inAll L 1 12 with
    | true =>
      obtain ⟨l, eL, hb⟩ := castL_of L hw
      have hlen : L.length = l.length := by rw [eL, castL_len]
      have hs1 : sumN l ≤ 144 := by have := sumN_le l hb; omega
      refine ⟨partsR L l, ?_, ?_, ?_⟩
      · unfold spec_PartsParty.f
        simp only [l1In_f, Option.bind_some, e1, if_true]
        refine Ev.bind (l1All_ev L 1 12 (by omega)) ?_
        rw [hw]
        refine Ev.step (fun k => ?_) (ssum_l0 l L eL (by omega) (by omega) l [] 0 (by rw [eL]; rfl) (by omega))
        simp only [Bool.not_true]
        rw [spec_PartsParty.j0, if_neg (by decide)]
        rfl
      · unfold impl_PartsParty.f
        simp only [within_f, areWithin_f, Option.bind_some, e1, hw, if_true]
        unfold impl_sum.f
        refine Ev.bind (sum_l0 L (by omega) l [] 0 (by rw [eL]; rfl) (by omega)) ?_
        unfold partsR
        by_cases hc : sumN l > 12
        · rw [if_pos hc]
          simp only [if_pos (show ((0 + sumN l : Nat) : Int) > 12 by omega)]
          exact Ev.now _
        · rw [if_neg hc]
          simp only [if_neg (show ¬ ((0 + sumN l : Nat) : Int) > 12 by omega)]
          exact Ev.bind (eL ▸ (bothParts_ev l (by omega) (by omega)).2) (Ev.now _)
      · unfold partsR
        by_cases hc : sumN l > 12
        · rw [if_pos hc]; simp
        · rw [if_neg hc]
          have := pairsOf_len (sumN l) (by omega) (difR (partL 0 l))
          show (pairsOf (sumN l) (difR (partL 0 l))).length ≤ _
          omega
    | false =>
      refine ⟨(0, [], false), ?_, ?_, by simp⟩
      · unfold spec_PartsParty.f
        simp only [l1In_f, Option.bind_some, e1, if_true]
        refine Ev.bind (l1All_ev L 1 12 (by omega)) ?_
        rw [hw]
        refine Ev.one (fun k => ?_)
        simp only [Bool.not_false]
        rw [spec_PartsParty.j0, if_pos rfl]
      · unfold impl_PartsParty.f
        simp only [within_f, areWithin_f, Option.bind_some, e1, hw, if_true, Bool.false_eq_true, if_false]
        exact Ev.now _
  · have e1 : (decide (1 ≤ (L.length : Int)) && decide ((L.length : Int) ≤ 12)) = false := by simp; omega
    refine ⟨(0, [], false), ?_, ?_, by simp⟩
    · unfold spec_PartsParty.f
      simp only [l1In_f, Option.bind_some, e1, Bool.false_eq_true, if_false]
      refine Ev.one (fun k => ?_)
      rw [spec_PartsParty.j0, if_pos rfl]
    · unfold impl_PartsParty.f
      simp only [within_f, Option.bind_some, e1, Bool.false_eq_true, if_false]
      exact Ev.now _

theorem ext_getD {a b : List Int} (h : a.length = b.length) (hj : ∀ j, j < a.length → a.getD j 0 = b.getD j 0) : a = b := by
  apply List.ext_getElem h
  intro i h1 h2
  have := hj i h1
  simpa [List.getD_eq_getElem?_getD, h1, h2] using this
theorem eqIntS_l0 (a b : List Int) (h : a.length = b.length) (hl : a.length < 4611686018427387904) : ∀ (d i : Nat), i + d = a.length → (∀ j, j < i → a.getD j 0 = b.getD j 0) → Ev (fun k => laws_eqIntS.l0 k a b i) (decide (a = b))
  | 0, i, hd, hj => by
    refine Ev.one (fun k => ?_)
    have : a = b := ext_getD h (fun j hj' => hj j (by omega))
    rw [laws_eqIntS.l0, if_neg (by omega)]; simp [this]
  | d + 1, i, hd, hj => by
    by_cases e : a.getD i 0 = b.getD i 0
    · refine Ev.step (f := fun k => laws_eqIntS.l0 k a b ((i + 1 : Nat) : Int)) (fun k => ?_) (eqIntS_l0 a b h hl d (i + 1) (by omega) ?_)
      · rw [laws_eqIntS.l0, if_pos (by omega), if_pos (by omega), if_pos (by omega), if_pos (by exact e), w1 (by omega)]
      · intro j hj'
        by_cases e2 : j = i
        · rw [e2]; exact e
        · exact hj j (by omega)
    · refine Ev.one (fun k => ?_)
      have : a ≠ b := fun h => e (by rw [h])
      rw [laws_eqIntS.l0, if_pos (by omega), if_pos (by omega), if_pos (by omega), if_neg (by exact e)]; simp [this]
theorem eqIntS_ev (a b : List Int) (hl : a.length < 4611686018427387904) : Ev (fun k => laws_eqIntS.f k a b) (decide (a = b)) := by
  unfold laws_eqIntS.f
  by_cases h : a.length = b.length
  · simp only [if_pos (show (a.length : Int) = (b.length : Int) by omega)]
    exact eqIntS_l0 a b h hl a.length 0 (by omega) (fun j hj => absurd hj (Nat.not_lt_zero _))
  · simp only [if_neg (show ¬ (a.length : Int) = (b.length : Int) by omega)]
    have : a ≠ b := fun e => h (by rw [e])
    exact Ev.one (fun k => by simp [this])
theorem eqIntS_self (a : List Int) (hl : a.length < 4611686018427387904) : Ev (fun k => laws_eqIntS.f k a a) true := by
  have h := eqIntS_ev a a hl
  rwa [decide_eq_true rfl] at h
theorem eqPairS_l0 (l : List S61) (hl : l.length < 4611686018427387904) : ∀ (d i : Nat), i + d = l.length → Ev (fun k => laws_eqPairS.l0 k l l i) true
  | 0, i, hd => by
    refine Ev.one (fun k => ?_)
    rw [laws_eqPairS.l0, if_neg (by omega)]
  | d + 1, i, hd => by
    refine Ev.step (fun k => ?_) (eqPairS_l0 l hl d (i + 1) (by omega))
    rw [laws_eqPairS.l0, if_pos (by omega), if_pos (by omega), if_pos (by omega), laws_eqPair.f, if_pos rfl, if_pos rfl, w1 (by omega)]
    rfl
theorem eqParty_self (a : Int) (l : List S61) (hl : l.length < 4611686018427387904) : Ev (fun k => laws_eqParty.f k a l a l) true := by
  unfold laws_eqParty.f laws_eqPairS.f
  simp only [if_true]
  have h : Ev (fun k => laws_eqPairS.l0 k l l 0) true := by simpa using eqPairS_l0 l hl l.length 0 (by omega)
  refine Ev.bind h ?_
  simp only [if_true]
  exact Ev.now _

/-- The pairs bear the marks m, m+1, .. -/
def MarkedP (m : Int) (z : List S61) : Prop := ∀ j, j < z.length → z[j]? = some ⟨m + 2 * j, m + 2 * j + 1⟩
theorem getD_of_get {α : Type} (l : List α) (i : Nat) (d x : α) (h : l[i]? = some x) : l.getD i d = x := by rw [List.getD_eq_getElem?_getD, h]; rfl
theorem heldPairS_l0 (m : Int) (z : List S61) (h0 : 0 ≤ m) (hm : m + 2 * z.length < 4611686018427387904) (hz : MarkedP m z) : ∀ (d i : Nat), i + d = z.length → Ev (fun k => laws_heldPairS.l0 k z (m + 2 * i) i) (m + 2 * z.length)
  | 0, i, hd => by
    refine Ev.one (fun k => ?_)
    rw [laws_heldPairS.l0, if_neg (by omega), show i = z.length by omega]
  | d + 1, i, hd => by
    have hx : rd_T61 z (i : Int) = ⟨m + 2 * i, m + 2 * i + 1⟩ := getD_of_get z i _ _ (hz i (by omega))
    refine Ev.step (fun k => ?_) (heldPairS_l0 m z h0 hm hz d (i + 1) (by omega))
    rw [laws_heldPairS.l0, if_pos (by omega), if_pos (by omega), hx, if_pos rfl, w64 (i := m + 2 * (i : Int) + 1) (by omega) (by omega), if_pos rfl, w1 (by omega), w64 (by omega) (by omega), show m + 2 * (i : Int) + 1 + 1 = m + 2 * ((i + 1 : Nat) : Int) by omega]
theorem heldParty_ev (a : Int) (z : List S61) (m : Int) (h0 : 0 ≤ m) (hm : m + 2 * z.length < 4611686018427387904) (hz : MarkedP m z) : Ev (fun k => laws_heldParty.f k a z m) (m + 2 * z.length) := by
  unfold laws_heldParty.f laws_heldPairS.f
  have hE : Ev (fun k => laws_heldPairS.l0 k z m 0) (m + 2 * z.length) := by simpa using heldPairS_l0 m z h0 hm hz z.length 0 (by omega)
  refine Ev.bind hE ?_
  simp only [if_neg (show ¬ (m + 2 * (z.length : Int) < 0) by omega)]
  exact Ev.now _

/-- The list bears the marks m, m+1, .. -/
def Marked (m : Int) (z : List Int) : Prop := ∀ j, j < z.length → z.getD j 0 = m + j
theorem getD_set (l : List Int) (i j : Nat) (v : Int) (hi : i < l.length) : (l.set i v).getD j 0 = if i = j then v else l.getD j 0 := by
  rw [List.getD_eq_getElem?_getD, List.getElem?_set]
  by_cases h : i = j
  · subst h; simp [hi]
  · simp [h]
theorem markIntS_l0 (m : Int) (n : Nat) (h0 : 0 ≤ m) (hm : m + n < 4611686018427387904) : ∀ (d i : Nat) (y : List Int), i + d = n → y.length = n → (∀ j, j < i → y.getD j 0 = m + j) → ∃ z : List Int, z.length = n ∧ Marked m z ∧ Ev (fun k => laws_markIntS.l0 k y (m + i) i) (m + n, z)
  | 0, i, y, hd, hy, h => by
    refine ⟨y, hy, fun j hj => h j (by omega), Ev.one (fun k => ?_)⟩
    rw [laws_markIntS.l0, if_neg (by omega), show i = n by omega]
  | d + 1, i, y, hd, hy, h => by
    obtain ⟨z, hz, hj, hE⟩ := markIntS_l0 m n h0 hm d (i + 1) (y.set i (m + i)) (by omega) (by simpa using hy) (fun j hj => by
      rw [getD_set _ _ _ _ (by omega)]
      by_cases e : i = j
      · simp [e]
      · rw [if_neg e]; exact h j (by omega))
    refine ⟨z, hz, hj, Ev.step (fun k => ?_) hE⟩
    rw [laws_markIntS.l0, if_pos (by omega), if_pos (by omega), w1 (by omega), w64 (by omega) (by omega), show m + (i : Int) + 1 = m + ((i + 1 : Nat) : Int) by omega]
    rfl
theorem markIntS_ev (y : List Int) (m : Int) (h0 : 0 ≤ m) (hm : m + y.length < 4611686018427387904) : ∃ z : List Int, z.length = y.length ∧ Marked m z ∧ Ev (fun k => laws_markIntS.f k y m) (m + y.length, z) := by
  obtain ⟨z, hz, hj, hE⟩ := markIntS_l0 m y.length h0 hm y.length 0 y (by omega) rfl (fun j hj => absurd hj (Nat.not_lt_zero _))
  refine ⟨z, hz, hj, ?_⟩
  unfold laws_markIntS.f
  simpa using hE
theorem rdT_set (y : List S61) (i : Nat) (v : S61) (h : i < y.length) : rd_T61 (y.set i v) (i : Int) = v := getD_of_get _ i _ _ (by rw [List.getElem?_set]; simp [h])
theorem markPairS_l0 (m : Int) (n : Nat) (h0 : 0 ≤ m) (hm : m + 2 * n < 4611686018427387904) : ∀ (d i : Nat) (y : List S61), i + d = n → y.length = n → (∀ j, j < i → y[j]? = some ⟨m + 2 * j, m + 2 * j + 1⟩) → ∃ z : List S61, z.length = n ∧ MarkedP m z ∧ Ev (fun k => laws_markPairS.l0 k y (m + 2 * i) i) (m + 2 * n, z)
  | 0, i, y, hd, hy, h => by
    refine ⟨y, hy, fun j hj => h j (by omega), Ev.one (fun k => ?_)⟩
    rw [laws_markPairS.l0, if_neg (by omega), show i = n by omega]
  | d + 1, i, y, hd, hy, h => by
    have hi : i < y.length := by omega
    obtain ⟨z, hz, hj, hE⟩ := markPairS_l0 m n h0 hm d (i + 1) (y.set i ⟨m + 2 * i, m + 2 * i + 1⟩) (by omega) (by simpa using hy) (fun j hj => by
      rw [List.getElem?_set]
      by_cases e : i = j
      · subst e; simp [hi]
      · rw [if_neg e]; exact h j (by omega))
    refine ⟨z, hz, hj, Ev.step (fun k => ?_) hE⟩
    rw [laws_markPairS.l0, if_pos (by omega), if_pos (by omega)]
    simp only [Option.bind_some, Int.toNat_natCast]
    rw [rdT_set _ _ _ (by omega), List.set_set, w1 (by omega), w64 (i := m + 2 * (i : Int) + 1) (by omega) (by omega), w64 (by omega) (by omega), show m + 2 * (i : Int) + 1 + 1 = m + 2 * ((i + 1 : Nat) : Int) by omega]
theorem markParty_ev (a : Int) (y : List S61) (m : Int) (h0 : 0 ≤ m) (hm : m + 2 * y.length < 4611686018427387904) : ∃ z : List S61, z.length = y.length ∧ MarkedP m z ∧ Ev (fun k => laws_markParty.f k a y m) (m + 2 * y.length, z) := by
  obtain ⟨z, hz, hj, hE⟩ := markPairS_l0 m y.length h0 hm y.length 0 y (by omega) rfl (fun j hj => absurd hj (Nat.not_lt_zero _))
  refine ⟨z, hz, hj, ?_⟩
  unfold laws_markParty.f laws_markPairS.f
  have hE' : Ev (fun k => laws_markPairS.l0 k y m 0) (m + 2 * y.length, z) := by simpa using hE
  exact Ev.bind hE' (Ev.now _)
theorem toIntS_l0 (l : List Int) (hl : l.length < 4611686018427387904) : ∀ (d i : Nat) (y : List Int), i + d = l.length → y.length = l.length → (∀ j, j < i → y.getD j 0 = l.getD j 0) → Ev (fun k => laws_toIntS.l0 k l y i) l
  | 0, i, y, hd, hy, h => by
    refine Ev.one (fun k => ?_)
    rw [laws_toIntS.l0, if_neg (by omega), ext_getD hy (fun j hj => h j (by omega))]
  | d + 1, i, y, hd, hy, h => by
    refine Ev.step (f := fun k => laws_toIntS.l0 k l (y.set i (l.getD i 0)) ((i + 1 : Nat) : Int)) (fun k => ?_) (toIntS_l0 l hl d (i + 1) _ (by omega) (by simpa using hy) ?_)
    · rw [laws_toIntS.l0, if_pos (by omega), if_pos (by omega), if_pos (by omega), w1 (by omega)]; rfl
    · intro j hj
      rw [getD_set _ _ _ _ (by omega)]
      by_cases e : i = j
      · simp [e]
      · rw [if_neg e]; exact h j (by omega)
theorem toIntS_ev (l : List Int) (hl : l.length ≤ 35184372088832) : Ev (fun k => laws_toIntS.f k l) l := by
  unfold laws_toIntS.f
  simp only [if_pos (show (0 : Int) ≤ (l.length : Int) by omega), if_pos (show ((l.length : Int) : Int).toNat ≤ 35184372088832 by simpa using hl)]
  exact toIntS_l0 l (by omega) l.length 0 _ (by omega) (by simp) (fun j hj => absurd hj (Nat.not_lt_zero _))
theorem FnExactPartsParty : laws_FnExactPartsParty.Pure := by
  intro l0 hm0 hb0 hw0
  refine Ev.rounds ?_
  unfold laws_FnExactPartsParty.f
  by_cases hg0 : (l0.length : Int) > 1048576
  · simp only [if_pos hg0]; exact Ev.now _
  simp only [if_neg hg0]
  have hlen0 : l0.length ≤ 1048576 := by omega
  obtain ⟨R, hs, hi, hr0⟩ := PartsParty_common l0 (by omega)
  refine Ev.bind (toIntS_ev l0 (by omega)) ?_
  refine Ev.bind hs ?_
  try simp only [if_true, if_false, bne_self_eq_false, Bool.false_eq_true, ↓reduceIte, decide_true]
  refine Ev.bind (toIntS_ev l0 (by omega)) ?_
  refine Ev.bind hi ?_
  try simp only [if_true, if_false, bne_self_eq_false, Bool.false_eq_true, ↓reduceIte, decide_true]
  refine Ev.bind (eqParty_self R.1 R.2.1 (by omega)) ?_
  try simp only [if_true, if_false, bne_self_eq_false, Bool.false_eq_true, ↓reduceIte, decide_true]
  try simp only [if_true, if_false, bne_self_eq_false, Bool.false_eq_true, ↓reduceIte, decide_true]
  refine Ev.step (fun k => rfl) ?_
  simp only [laws_FnExactPartsParty.j0]
  try simp only [if_true, if_false, bne_self_eq_false, Bool.false_eq_true, ↓reduceIte, decide_true]
  refine Ev.bind (toIntS_ev l0 (by omega)) ?_
  refine Ev.bind (eqIntS_self l0 (by omega)) ?_
  try simp only [if_true, if_false, bne_self_eq_false, Bool.false_eq_true, ↓reduceIte, decide_true]
  obtain ⟨zk1, hzk1, _, hEk1⟩ := markIntS_ev l0 (1 : Int) (by omega) (by omega)
  refine Ev.bind hEk1 ?_
  try simp only [if_true, if_false, bne_self_eq_false, Bool.false_eq_true, ↓reduceIte, decide_true]
  simp only [if_neg (show ¬ (((1 : Int) + (l0.length : Int)) < 0) by omega)]
  refine Ev.bind (eqParty_self R.1 R.2.1 (by omega)) ?_
  try simp only [if_true, if_false, bne_self_eq_false, Bool.false_eq_true, ↓reduceIte, decide_true]
  try simp only [if_true, if_false, bne_self_eq_false, Bool.false_eq_true, ↓reduceIte, decide_true]
  refine Ev.step (fun k => rfl) ?_
  simp only [laws_FnExactPartsParty.j1]
  try simp only [if_true, if_false, bne_self_eq_false, Bool.false_eq_true, ↓reduceIte, decide_true]
  obtain ⟨zm, hzm, hmm, hEm⟩ := markParty_ev R.1 R.2.1 1 (by omega) (by omega)
  refine Ev.bind hEm ?_
  try simp only [if_true, if_false, bne_self_eq_false, Bool.false_eq_true, ↓reduceIte, decide_true]
  refine Ev.bind (heldParty_ev R.1 zm 1 (by omega) (by omega) hmm) ?_
  simp only [hzm, if_neg (show ¬ ((1 + 2 * (R.2.1.length : Int)) < 0) by omega), if_true]
  refine Ev.bind (toIntS_ev l0 (by omega)) ?_
  refine Ev.bind hi ?_
  try simp only [if_true, if_false, bne_self_eq_false, Bool.false_eq_true, ↓reduceIte, decide_true]
  refine Ev.bind (eqParty_self R.1 R.2.1 (by omega)) ?_
  try simp only [if_true, if_false, bne_self_eq_false, Bool.false_eq_true, ↓reduceIte, decide_true]
  try simp only [if_true, if_false, bne_self_eq_false, Bool.false_eq_true, ↓reduceIte, decide_true]
  refine Ev.step (fun k => rfl) ?_
  simp only [laws_FnExactPartsParty.j2]
  try simp only [if_true, if_false, bne_self_eq_false, Bool.false_eq_true, ↓reduceIte, decide_true]
  refine Ev.bind (heldParty_ev R.1 zm 1 (by omega) (by omega) hmm) ?_
  simp only [hzm, if_neg (show ¬ ((1 + 2 * (R.2.1.length : Int)) < 0) by omega), if_true]
  exact Ev.now _
end Go.Proofs.Ytiopgbpjkjnphaa.Pure
