/- The program's ThreesAt returns what the reference's returns, for all arguments (the plain statement behind the printed walk); no condition. -/
import Derived.Lib.TrailingZeros
import Derived.Test.YtialimbdkokdcaaDoorPx0
import Derived.Test.YtialimbdkokdcaaDoorPx1
import Derived.Test.YtialimbdkokdcaaDoorPx2
import Derived.Test.YtialimbdkokdcaaDoorPx3
import Derived.Test.YtialimbdkokdcaaDoorPx4
import Derived.Test.YtialimbdkokdcaaDoorPx5
namespace Go.Proofs.YtialimbdkokdcaaDoor.Pure
open Go.RowKit Go.Proofs.YtialimbdkokdcaaDoor.P Go.Proofs.YtialimbdkokdcaaDoorW.PrintWords Go.Proofs.YtialimbdkokdcaaDoorW.PrintLast
set_option linter.unusedSimpArgs false
set_option linter.unusedVariables false
theorem Ev.cast {α : Type} {g : Nat → Option α} {a b : α} (h : Ev g a) (e : a = b) : Ev g b := e ▸ h
theorem Ev.one {α : Type} {g : Nat → Option α} {r : α} (h : ∀ k, g (k + 1) = some r) : Ev g r := Ev.step h (Ev.now r)
def inAll (l : List Int) (lo hi : Int) : Bool := l.all fun n => decide (lo ≤ n) && decide (n ≤ hi)
theorem areWithin_f (l : List Int) (lo hi : Int) : impl_areWithin.f l lo hi = some (inAll l lo hi) := rfl

def crowd (n : Int) : Bool := decide (0 ≤ n ∧ n ≤ 12)
def lt2 (p q : S68) : Bool := decide (p.f0 < q.f0) || (decide (p.f0 = q.f0) && decide (p.f1 < q.f1))
def okPrev : Option S68 → S68 → Bool
  | none, _ => true
  | some p, x => lt2 p x
def okFrom (n : Int) : Option S68 → List S68 → Bool
  | _, [] => true
  | prev, x :: xs => (decide (0 ≤ x.f0) && (decide (x.f0 < x.f1) && (decide (x.f1 < n) && okPrev prev x))) && okFrom n (some x) xs
def good (n : Int) (l : List S68) : Bool := crowd n && okFrom n none l
def natPairs (m : Nat) (l : List S68) : Prop := ∀ x ∈ l, ∃ a b : Nat, x = ⟨(a : Int), (b : Int)⟩ ∧ a < b ∧ b < m
theorem okFrom_nat (m : Nat) : ∀ (l : List S68) (p : Option S68), okFrom (m : Int) p l = true → natPairs m l
  | [], _, _ => fun x hx => by simp at hx
  | x :: xs, p, h => by
    simp only [okFrom, Bool.and_eq_true, decide_eq_true_eq] at h
    obtain ⟨⟨h0, h1, h2, _⟩, h3⟩ := h
    intro y hy
    rcases List.mem_cons.1 hy with rfl | hy
    · refine ⟨y.f0.toNat, y.f1.toNat, ?_, by omega, by omega⟩
      rw [Int.toNat_of_nonneg h0, Int.toNat_of_nonneg (by omega)]
    · exact okFrom_nat m xs _ h3 y hy
theorem good_nat {n : Int} {l : List S68} (h : good n l = true) : ∃ m : Nat, n = (m : Int) ∧ m ≤ 12 ∧ natPairs m l ∧ okFrom (m : Int) none l = true := by
  unfold good crowd at h
  simp only [Bool.and_eq_true, decide_eq_true_eq] at h
  obtain ⟨⟨h0, h1⟩, h2⟩ := h
  obtain ⟨m, rfl⟩ := Int.eq_ofNat_of_zero_le h0
  exact ⟨m, rfl, by omega, okFrom_nat m l none h2, h2⟩
theorem within_f (a lo hi : Int) : impl_within.f a lo hi = some (decide (lo ≤ a) && decide (a ≤ hi)) := by
  unfold impl_within.f
  by_cases h : lo ≤ a
  · rw [if_pos h]; simp [h]
  · rw [if_neg h]; simp [h]
theorem areCrowd_f (a : Int) : impl_areCrowd.f a = some (decide (0 ≤ a ∧ a ≤ 12)) := by
  unfold impl_areCrowd.f
  rw [within_f]; simp [Bool.decide_and]
def cmp3 (a b : Int) : Int := if a < b then -1 else if a > b then 1 else 0
def cmpP (p q : S68) : Int := if cmp3 p.f0 q.f0 = 0 then cmp3 p.f1 q.f1 else cmp3 p.f0 q.f0
theorem cmpP_neg (p q : S68) : decide (cmpP p q ≥ 0) = !lt2 p q := by
  unfold cmpP cmp3 lt2
  by_cases h1 : p.f0 < q.f0
  · simp [h1]
  · by_cases h2 : p.f0 > q.f0
    · have h3 : ¬ p.f0 = q.f0 := by omega
      simp [h1, h2, h3]
    · have h3 : p.f0 = q.f0 := by omega
      by_cases h4 : p.f1 < q.f1
      · simp [h3, h4]
      · by_cases h5 : p.f1 > q.f1
        · simp [h3, h4, h5]
        · simp [h3, h4, h5]
theorem cmpOr_ev (a b : Int) : Ev (fun k => cmp_Or_int.f k [a, b]) (if a = 0 then b else a) := by
  refine ⟨3, fun k hk => ?_⟩
  obtain ⟨k, rfl⟩ : ∃ m, k = m + 3 := ⟨k - 3, by omega⟩
  have e1 : wrap64 (0 + 1) = 1 := by unfold wrap64; omega
  have e2 : wrap64 (1 + 1) = 2 := by unfold wrap64; omega
  have r0 : rd [a, b] 0 = a := rfl
  have r1 : rd [a, b] 1 = b := rfl
  simp only [cmp_Or_int.f, cmp_Or_int.l0, List.length_cons, List.length_nil, r0, r1, e1, e2]
  by_cases h : a = 0
  · by_cases h2 : b = 0
    · simp [h, h2]
    · simp [h, h2]
  · simp [h]
theorem compare_f (a b : Int) : cmp_Compare_int.f a b = some (cmp3 a b) := by
  unfold cmp_Compare_int.f cmp_isNaN_int.f cmp3
  simp
  by_cases h : a < b
  · simp [h]
  · by_cases h2 : a > b
    · simp [h, h2]
    · simp [h, h2]
theorem comparePairs_ev (p q : S68) : Ev (fun k => impl_comparePairs.f k p.f0 p.f1 q.f0 q.f1) (cmpP p q) := by
  unfold impl_comparePairs.f
  simp only [compare_f, Option.bind_some]
  exact Ev.bind (cmpOr_ev _ _) (Ev.now _)
theorem rdT_mid (pre rest : List S68) (x : S68) : rd_T68 (pre ++ x :: rest) (pre.length : Int) = x := by
  unfold rd_T68
  simp [List.getD_eq_getElem?_getD]
theorem w1 {n : Nat} (h : n < 4611686018427387904) : wrap64 ((n : Int) + 1) = ((n + 1 : Nat) : Int) := by unfold wrap64; omega
theorem w64 {i : Int} (h0 : -9223372036854775808 ≤ i) (h : i ≤ 9223372036854775807) : wrap64 i = i := by unfold wrap64; omega
theorem implIsParty_l0 (n : Int) (l : List S68) (hl : l.length < 4611686018427387904) : ∀ (rest pre : List S68), l = pre ++ rest → Ev (fun k => impl_IsParty.l0 k l (l.length : Int) (pre.length : Int) n l) (okFrom n pre.getLast? rest && crowd n)
  | [], pre, h => by
    refine Ev.one (fun k => ?_)
    have e : l.length = pre.length := by rw [h]; simp
    rw [impl_IsParty.l0, if_neg (by omega), areCrowd_f]
    simp [okFrom, crowd]
  | x :: rest, pre, h => by
    have hlen : pre.length < l.length := by rw [h]; simp
    have hx : rd_T68 l (pre.length : Int) = x := by rw [h]; exact rdT_mid pre rest x
    have ih := implIsParty_l0 n l hl rest (pre ++ [x]) (by rw [h]; simp)
    rw [List.getLast?_concat, List.length_append, List.length_singleton] at ih
    by_cases c1 : x.f0 < 0
    · refine Ev.one (fun k => ?_)
      rw [impl_IsParty.l0, if_pos (by omega), if_pos (by omega), if_pos (by omega), hx, if_pos c1]
      have : decide (0 ≤ x.f0) = false := by simp; omega
      simp [okFrom, this]
    by_cases c2 : x.f0 ≥ x.f1
    · refine Ev.one (fun k => ?_)
      rw [impl_IsParty.l0, if_pos (by omega), if_pos (by omega), if_pos (by omega), hx, if_neg c1, if_pos c2]
      have : decide (x.f0 < x.f1) = false := by simp; omega
      simp [okFrom, this]
    by_cases c3 : x.f1 ≥ n
    · refine Ev.one (fun k => ?_)
      rw [impl_IsParty.l0, if_pos (by omega), if_pos (by omega), if_pos (by omega), hx, if_neg c1, if_neg c2, if_pos c3]
      have : decide (x.f1 < n) = false := by simp; omega
      simp [okFrom, this]
    have d1 : decide (0 ≤ x.f0) = true := by simp; omega
    have d2 : decide (x.f0 < x.f1) = true := by simp; omega
    have d3 : decide (x.f1 < n) = true := by simp; omega
    rcases List.eq_nil_or_concat pre with rfl | ⟨q, p, rfl⟩
    · refine Ev.cast (Ev.step (fun k => ?_) ih) ?_
      · rw [impl_IsParty.l0, if_pos (by omega), if_pos (by omega), if_pos (by omega), hx, if_neg c1, if_neg c2, if_neg c3, if_neg (by simp), w1 (by simp)]
      · simp [okFrom, d1, d2, d3, okPrev]
    · rw [List.concat_eq_append] at hlen hx ih h ⊢
      have hp : rd_T68 l (q.length : Int) = p := by rw [h, List.append_assoc]; exact rdT_mid q (x :: rest) p
      have hq : (q ++ [p]).length = q.length + 1 := by simp
      rw [hq] at hlen hx ih ⊢
      refine Ev.step (f := fun k => (impl_comparePairs.f k p.f0 p.f1 x.f0 x.f1).bind fun t => if t ≥ 0 then some false else impl_IsParty.l0 k l (l.length : Int) ((q.length + 1 + 1 : Nat) : Int) n l) (fun k => ?_) (Ev.bind (comparePairs_ev p x) ?_)
      · rw [impl_IsParty.l0, if_pos (by omega), if_pos (by omega), if_pos (by omega), hx, if_neg c1, if_neg c2, if_neg c3, if_pos (by omega), w64 (i := ((q.length + 1 : Nat) : Int) - 1) (by omega) (by omega), show ((q.length + 1 : Nat) : Int) - 1 = (q.length : Int) by omega, if_pos (by omega), if_pos (by omega), hp, w1 (by omega)]
      · have hc := cmpP_neg p x
        rw [List.getLast?_concat]
        by_cases hlt : lt2 p x = true
        · have c4 : ¬ cmpP p x ≥ 0 := by rw [hlt] at hc; simpa using hc
          simp only [if_neg c4]
          refine Ev.cast ih ?_
          simp [okFrom, d1, d2, d3, okPrev, hlt]
        · have hlt' : lt2 p x = false := by simpa using hlt
          have c4 : cmpP p x ≥ 0 := by rw [hlt'] at hc; simpa using hc
          simp only [if_pos c4]
          refine Ev.cast (Ev.now _) ?_
          simp [okFrom, okPrev, hlt']
theorem implIsParty_ev (n : Int) (l : List S68) (hl : l.length < 4611686018427387904) : Ev (fun k => impl_IsParty.f k n l) (good n l) := by
  unfold impl_IsParty.f
  have := implIsParty_l0 n l hl l [] rfl
  rw [Bool.and_comm] at this
  exact this
theorem arePeople_ev (n : Int) (l : List S68) (hl : l.length ≤ 1048576) (q : List Int) : Ev (fun k => impl_arePeople.f k n l q) (good n l && inAll q 0 (n - 1)) := by
  unfold impl_arePeople.f
  refine Ev.bind (implIsParty_ev _ _ (by omega)) ?_
  cases h : good n l with
  | true =>
    obtain ⟨m, rfl, hm, hn, _⟩ := good_nat h
    simp only [if_true, Bool.true_and, areWithin_f, Option.bind_some, w64 (i := (m : Int) - 1) (by omega) (by omega)]
    exact Ev.now _
  | false => simp only [Bool.false_eq_true, if_false, Bool.false_and]; exact Ev.now _
def isPerson (n a : Int) : Bool := decide (0 ≤ a) && decide (a ≤ n - 1)
def person1 (n : Int) (l : List S68) (a : Int) : Bool := good n l && isPerson n a
theorem arePeople1_ev (n : Int) (l : List S68) (hl : l.length ≤ 1048576) (a : Int) : Ev (fun k => impl_arePeople.f k n l [a]) (person1 n l a) := by
  have e : inAll [a] 0 (n - 1) = isPerson n a := by simp [inAll, isPerson]
  have := arePeople_ev n l hl [a]
  rw [e] at this
  exact this
/-! ### tables of bits -/
def bitsOf : Nat → (Nat → Bool) → Nat
  | 0, _ => 0
  | m + 1, f => bitsOf m f + (f m).toNat * 2 ^ m
theorem bitsOf_lt : ∀ (m : Nat) (f : Nat → Bool), bitsOf m f < 2 ^ m
  | 0, _ => by simp [bitsOf]
  | m + 1, f => by
    have := bitsOf_lt m f
    have h2 : (f m).toNat * 2 ^ m ≤ 2 ^ m := by cases f m <;> simp
    rw [bitsOf, Nat.pow_succ]; omega
theorem bitsOf_u16 (m : Nat) (hm : m ≤ 12) (f : Nat → Bool) : bitsOf m f < 65536 :=
  Nat.lt_of_lt_of_le (bitsOf_lt m f) (Nat.le_trans (Nat.pow_le_pow_right (by decide) hm) (by decide))
def cnt : Nat → (Nat → Bool) → Nat
  | 0, _ => 0
  | m + 1, f => cnt m f + (f m).toNat
def sm : Nat → (Nat → Nat) → Nat
  | 0, _ => 0
  | m + 1, f => sm m f + f m
theorem cnt_sm (m : Nat) (f : Nat → Bool) : cnt m f = sm m (fun i => (f i).toNat) := by
  induction m with
  | zero => rfl
  | succ m ih => rw [cnt, sm, ih]
theorem filter_sum (m : Nat) (f : Nat → Bool) (g : Nat → Nat) : (((List.range m).filter f).map g).sum = sm m fun i => if f i then g i else 0 := by
  induction m with
  | zero => rfl
  | succ m ih =>
    rw [List.range_succ, List.filter_append, List.map_append, List.sum_append, ih, sm]
    cases h : f m <;> simp [h]
theorem friends_len (m : Nat) (hm : m ≤ 12) (f : Nat → Bool) : ((List.range m).filter f).length ≤ 12 := by
  have := List.length_filter_le f (List.range m)
  rw [List.length_range] at this; omega
abbrev Rel := Nat → Nat → Bool
def gr (r : Rel) : Nat → Nat → List Nat → Nat → List (List Nat)
  | _, 0, cs, _ => [cs]
  | 0, _ + 1, _, _ => []
  | e + 1, d + 1, cs, a => (if cs.all (fun b => r a b) then gr r e d (cs ++ [a]) (a + 1) else []) ++ gr r e (d + 1) cs (a + 1)
theorem gr_none (r : Rel) (d : Nat) (cs : List Nat) (a : Nat) : gr r 0 (d + 1) cs a = [] := rfl
theorem gr_succ (r : Rel) (e d : Nat) (cs : List Nat) (a : Nat) : gr r (e + 1) (d + 1) cs a = (if cs.all (fun b => r a b) then gr r e d (cs ++ [a]) (a + 1) else []) ++ gr r e (d + 1) cs (a + 1) := rfl
theorem gr_zero (r : Rel) (e : Nat) (cs : List Nat) (a : Nat) : gr r e 0 cs a = [cs] := by cases e <;> rfl
theorem gr_len (r : Rel) : ∀ (e d : Nat) (cs : List Nat) (a : Nat), (gr r e d cs a).length ≤ 2 ^ e
  | e, 0, cs, a => by rw [gr_zero]; exact Nat.one_le_two_pow
  | 0, d + 1, cs, a => by rw [gr_none]; simp
  | e + 1, d + 1, cs, a => by
    have h1 := gr_len r e d (cs ++ [a]) (a + 1)
    have h2 := gr_len r e (d + 1) cs (a + 1)
    rw [gr_succ, List.length_append, Nat.pow_succ]
    split
    · omega
    · simp only [List.length_nil]; omega
theorem gr_len12 (m : Nat) (hm : m ≤ 12) (r : Rel) (d : Nat) (cs : List Nat) (a : Nat) : (gr r m d cs a).length ≤ 4096 :=
  Nat.le_trans (gr_len r m d cs a) (Nat.pow_le_pow_right (by decide) hm)
theorem gr_mem_len (r : Rel) : ∀ (e d : Nat) (cs : List Nat) (a : Nat), ∀ x ∈ gr r e d cs a, x.length = cs.length + d
  | e, 0, cs, a => by rw [gr_zero]; intro x hx; rw [List.mem_singleton.1 hx]; rfl
  | 0, d + 1, cs, a => by rw [gr_none]; intro x hx; cases hx
  | e + 1, d + 1, cs, a => by
    have h1 := gr_mem_len r e d (cs ++ [a]) (a + 1)
    have h2 := gr_mem_len r e (d + 1) cs (a + 1)
    rw [gr_succ]
    intro x hx
    rcases List.mem_append.1 hx with hx | hx
    · split at hx
      · have := h1 x hx
        rw [List.length_append, List.length_singleton] at this; omega
      · cases hx
    · exact h2 x hx
def hasP (l : List S68) : Rel := fun a b => l.any fun x => (x.f0 == (a : Int) && x.f1 == (b : Int)) || (x.f0 == (b : Int) && x.f1 == (a : Int))
theorem hasP_irrefl (m : Nat) (l : List S68) (h : natPairs m l) (x : Nat) : hasP l x x = false := by
  unfold hasP
  rw [List.any_eq_false]
  intro z hz
  obtain ⟨a, b, rfl, hab, _⟩ := h z hz
  simp; omega
theorem hasP_symm (l : List S68) (x y : Nat) : hasP l x y = hasP l y x := by
  unfold hasP; congr 1; funext z; rw [Bool.or_comm]
def ints (l : List Nat) : List Int := l.map Int.ofNat
theorem ints_len (l : List Nat) : (ints l).length = l.length := by simp [ints]
theorem isPerson_nat {m : Nat} {a : Int} (h : isPerson (m : Int) a = true) : ∃ x : Nat, a = (x : Int) ∧ x < m := by
  unfold isPerson at h
  simp at h
  exact ⟨a.toNat, by omega, by omega⟩
theorem wraps_u16 (n : Int) (h0 : 0 ≤ n) (h1 : n < 2 ^ 16) : IntKind.u16.wrap n = n := by
  simp [IntKind.wrap, IntKind.bits, IntKind.signed]; omega
theorem and16 (x y : Nat) (hx : x < 65536) (hy : y < 65536) : Go.bits .and .u16 (x : Int) (y : Int) = ((x &&& y : Nat) : Int) := (bits_nat .u16 16 (by decide) wraps_u16 x y hx hy).1
def lst (s : Nat) : List Nat := (List.range 16).filter s.testBit
theorem low_bits (c m i : Nat) : ((2 ^ c * (2 * m + 1)).testBit i = if i < c then false else (2 * m + 1).testBit (i - c)) := by
  have := Nat.testBit_two_pow_mul_add (2 * m + 1) (b := 0) (i := c) (by exact Nat.two_pow_pos c) i
  simpa using this
theorem pred_bits (c m i : Nat) : ((2 ^ c * (2 * m + 1) - 1).testBit i = if i < c then true else (2 * m).testBit (i - c)) := by
  have e : 2 ^ c * (2 * m + 1) - 1 = 2 ^ c * (2 * m) + (2 ^ c - 1) := by
    have := Nat.two_pow_pos c
    rw [Nat.mul_add, Nat.mul_one]; omega
  rw [e, Nat.testBit_two_pow_mul_add (2 * m) (b := 2 ^ c - 1) (i := c) (by have := Nat.two_pow_pos c; omega) i]
  split
  · rename_i h; rw [Nat.testBit_two_pow_sub_one]; simpa using h
  · rfl
theorem clear_bit (c m i : Nat) : ((2 ^ c * (2 * m + 1)) &&& (2 ^ c * (2 * m + 1) - 1)).testBit i = ((2 ^ c * (2 * m + 1)).testBit i && i != c) := by
  rw [Nat.testBit_and, low_bits, pred_bits]
  by_cases h : i < c
  · simp [h]
  · rw [if_neg h, if_neg h]
    by_cases he : i = c
    · subst he; simp
    · have h2 : i - c = (i - c - 1) + 1 := by omega
      have h3 : (i != c) = true := by simpa using he
      rw [h2, Nat.testBit_succ, Nat.testBit_succ, h3]
      have a1 : (2 * m + 1) / 2 = m := by omega
      have a2 : (2 * m) / 2 = m := by omega
      rw [a1, a2]; simp
theorem filter_first (p : Nat → Bool) (c : Nat) (hc : p c = true) : ∀ (len lo : Nat), lo ≤ c → c < lo + len → (∀ i, lo ≤ i → i < c → p i = false) →
    (List.range' lo len).filter p = c :: (List.range' lo len).filter (fun i => p i && i != c)
  | 0, lo, h1, h2, _ => by omega
  | len + 1, lo, h1, h2, h3 => by
    rw [List.range'_succ]
    by_cases he : lo = c
    · subst he
      rw [List.filter_cons_of_pos hc, List.filter_cons_of_neg (by simp)]
      congr 1
      refine List.filter_congr fun x hx => ?_
      have := List.mem_range'_1.1 hx
      have : (x != lo) = true := by simp; omega
      rw [this, Bool.and_true]
    · rw [List.filter_cons_of_neg (by rw [h3 lo (Nat.le_refl _) (by omega)]; simp), List.filter_cons_of_neg (by rw [h3 lo (Nat.le_refl _) (by omega)]; simp)]
      exact filter_first p c hc len (lo + 1) (by omega) (by omega) (fun i hi hic => h3 i (by omega) hic)
theorem lst_step (s : Nat) (h0 : 0 < s) (h : s < 65536) : lst s = Lib.ctz 16 s :: lst (s &&& (s - 1)) := by
  obtain ⟨m, e, hc⟩ := Lib.ctzFrom_spec 16 s h0 h
  have ec : Lib.ctz 16 s = Lib.ctzFrom 16 s := by unfold Lib.ctz; rw [if_neg (by omega)]
  rw [ec]
  generalize Lib.ctzFrom 16 s = c at e hc
  subst e
  unfold lst
  rw [List.range_eq_range', filter_first _ c (by rw [low_bits]; simp) 16 0 (by omega) (by omega) (fun i _ hi => by rw [low_bits, if_pos hi])]
  congr 1
  exact List.filter_congr fun x _ => (clear_bit c m x).symm
theorem listed_l0 : ∀ (s : Nat) (acc : List Int), s < 65536 → acc.length + s < 4611686018427 → Ev (fun k => impl_listed.l0 k (s : Int) acc) (acc ++ ints (lst s)) := by
  intro s
  induction s using Nat.strongRecOn with
  | _ s ih =>
    intro acc hs hacc
    by_cases h0 : s = 0
    · subst h0
      refine Ev.one (fun k => ?_)
      rw [impl_listed.l0, if_neg (by omega)]
      have : ints (lst 0) = [] := by decide
      rw [this, List.append_nil]
    · have hlt : s &&& (s - 1) < s := by
        have : s &&& (s - 1) ≤ s - 1 := Nat.and_le_right
        omega
      have h1 := ih (s &&& (s - 1)) hlt (acc ++ [(Lib.ctz 16 s : Int)]) (by omega) (by rw [List.length_append, List.length_singleton]; omega)
      rw [List.append_assoc] at h1
      have e : [(Lib.ctz 16 s : Int)] ++ ints (lst (s &&& (s - 1))) = ints (lst s) := by rw [lst_step s (by omega) hs]; rfl
      rw [e] at h1
      refine Ev.step (fun k => ?_) h1
      have hw : IntKind.u16.wrap ((s : Int) - 1) = ((s - 1 : Nat) : Int) := by rw [wraps_u16 _ (by omega) (by omega)]; omega
      rw [impl_listed.l0, if_pos (by omega), hw, and16 s (s - 1) hs (by omega)]
      unfold bits_TrailingZeros16.f
      rw [if_pos (by omega), Int.toNat_natCast]
      simp only [Option.bind_some]
      rw [if_pos (by omega)]
theorem listed_ev (s : Nat) (hs : s < 65536) : Ev (fun k => impl_listed.f k (s : Int)) (ints (lst s)) := by
  unfold impl_listed.f
  exact listed_l0 s [] hs (by simp; omega)
theorem filter_range_lt (p : Nat → Bool) (m : Nat) : ∀ d : Nat, (List.range (m + d)).filter (fun i => decide (i < m) && p i) = (List.range m).filter p
  | 0 => List.filter_congr fun x hx => by
    have : x < m := by simpa using hx
    simp [this]
  | d + 1 => by
    rw [← Nat.add_assoc, List.range_succ, List.filter_append, filter_range_lt p m d]
    have : ¬ (m + d < m) := by omega
    simp [this]
theorem testBit_bitsOf : ∀ (m : Nat) (f : Nat → Bool) (i : Nat), (bitsOf m f).testBit i = (decide (i < m) && f i)
  | 0, f, i => by simp [bitsOf]
  | m + 1, f, i => by
    have ih := testBit_bitsOf m f
    by_cases hi : i < m
    · have h1 : i < m + 1 := by omega
      cases hf : f m with
      | false => simp [bitsOf, hf, ih i, hi, h1]
      | true => rw [bitsOf, hf, Bool.toNat_true, Nat.one_mul, Nat.add_comm, Nat.testBit_two_pow_add_gt hi, ih i]; simp [hi, h1]
    · by_cases e : i = m
      · subst e
        cases hf : f i with
        | false => simp [bitsOf, hf, ih i]
        | true => rw [bitsOf, hf, Bool.toNat_true, Nat.one_mul, Nat.add_comm, Nat.testBit_two_pow_add_eq, ih i]; simp
      · have h1 : ¬ i < m + 1 := by omega
        rw [Nat.testBit_lt_two_pow (Nat.lt_of_lt_of_le (bitsOf_lt (m + 1) f) (Nat.pow_le_pow_right (by decide) (by omega)))]
        simp [h1]
theorem lst_bitsOf (m : Nat) (hm : m ≤ 12) (f : Nat → Bool) : lst (bitsOf m f) = (List.range m).filter f := by
  unfold lst
  have := filter_range_lt f m (16 - m)
  rw [show m + (16 - m) = 16 by omega] at this
  rw [← this]
  exact List.filter_congr fun x _ => testBit_bitsOf m f x
/-! the number of pairs -/
def below (m : Nat) : Nat → Nat
  | 0 => 0
  | a + 1 => below m a + (m - 1 - a)
theorem below_all (m : Nat) (h : m ≤ 12) : Int.tdiv ((m : Int) * ((m : Int) - 1)) 2 = (below m m : Int) := by
  have : m = 0 ∨ m = 1 ∨ m = 2 ∨ m = 3 ∨ m = 4 ∨ m = 5 ∨ m = 6 ∨ m = 7 ∨ m = 8 ∨ m = 9 ∨ m = 10 ∨ m = 11 ∨ m = 12 := by omega
  rcases this with rfl | rfl | rfl | rfl | rfl | rfl | rfl | rfl | rfl | rfl | rfl | rfl | rfl <;> rfl
/-- where a pair stands among all pairs of m people -/
def rank (m : Nat) (x : S68) : Nat := below m x.f0.toNat + (x.f1.toNat - x.f0.toNat - 1)
theorem below_mono (m a : Nat) : ∀ d, below m a ≤ below m (a + d)
  | 0 => Nat.le_refl _
  | d + 1 => Nat.le_trans (below_mono m a d) (by show below m (a + d) ≤ below m (a + d) + _; omega)
theorem rank_lt (m : Nat) (p x : S68) (h : lt2 p x = true) (p0 : 0 ≤ p.f0) (p1 : p.f0 < p.f1) (p2 : p.f1 < m) (x0 : 0 ≤ x.f0) (x1 : x.f0 < x.f1) : rank m p < rank m x := by
  unfold lt2 at h
  unfold rank
  simp at h
  rcases h with h | ⟨h, h2⟩
  · have h1 := below_mono m (p.f0.toNat + 1) (x.f0.toNat - (p.f0.toNat + 1))
    rw [show p.f0.toNat + 1 + (x.f0.toNat - (p.f0.toNat + 1)) = x.f0.toNat by omega] at h1
    have h3 : below m (p.f0.toNat + 1) = below m p.f0.toNat + (m - 1 - p.f0.toNat) := rfl
    omega
  · rw [h]; omega
theorem rank_top (m : Nat) (x : S68) (x0 : 0 ≤ x.f0) (x1 : x.f0 < x.f1) (x2 : x.f1 < m) : rank m x < below m m := by
  unfold rank
  have h1 := below_mono m (x.f0.toNat + 1) (m - (x.f0.toNat + 1))
  rw [show x.f0.toNat + 1 + (m - (x.f0.toNat + 1)) = m by omega] at h1
  have h3 : below m (x.f0.toNat + 1) = below m x.f0.toNat + (m - 1 - x.f0.toNat) := rfl
  omega
theorem okFrom_len (m : Nat) : ∀ (l : List S68) (p : S68), 0 ≤ p.f0 → p.f0 < p.f1 → p.f1 < m → okFrom m (some p) l = true → rank m p + l.length < below m m
  | [], p, p0, p1, p2, _ => rank_top m p p0 p1 p2
  | x :: xs, p, p0, p1, p2, h => by
    simp [okFrom, okPrev] at h
    obtain ⟨⟨x0, x1, x2, hlt⟩, h⟩ := h
    have ih := okFrom_len m xs x x0 x1 x2 h
    have := rank_lt m p x hlt p0 p1 p2 x0 x1
    simp only [List.length_cons]
    omega
theorem good_len (m : Nat) (l : List S68) (h : okFrom m none l = true) : l.length ≤ below m m := by
  cases l with
  | nil => simp
  | cons x xs =>
    simp [okFrom, okPrev] at h
    obtain ⟨⟨x0, x1, x2⟩, h⟩ := h
    have := okFrom_len m xs x x0 x1 x2 h
    simp only [List.length_cons]
    omega
theorem l1In_f (a lo hi : Int) : spec_l1In.f a lo hi = some (decide (lo ≤ a) && decide (a ≤ hi)) := by
  unfold spec_l1In.f
  by_cases h : lo ≤ a
  · rw [if_pos h]; simp [h]
  · rw [if_neg h]; simp [h]
theorem paLess_f (p x : S68) : spec_paLess.f p.f0 p.f1 x.f0 x.f1 = some (lt2 p x) := by
  unfold spec_paLess.f lt2
  by_cases h : p.f0 < x.f0
  · simp [h]
  · by_cases h2 : p.f0 = x.f0
    · simp [h2]
    · simp [h, h2]
theorem paGood_l0 (m : Nat) (hm : m ≤ 12) (l : List S68) (hl : l.length < 4611686018427387904) : ∀ (rest pre : List S68), l = pre ++ rest → Ev (fun k => spec_paGood.l0 k l (l.length : Int) (pre.length : Int) (m : Int) l) (okFrom m pre.getLast? rest)
  | [], pre, h => by
    refine Ev.one (fun k => ?_)
    have e : l.length = pre.length := by rw [h]; simp
    rw [spec_paGood.l0, if_neg (by omega)]
    simp [okFrom]
  | x :: rest, pre, h => by
    have hlen : pre.length < l.length := by rw [h]; simp
    have hx : rd_T68 l (pre.length : Int) = x := by rw [h]; exact rdT_mid pre rest x
    have ih := paGood_l0 m hm l hl rest (pre ++ [x]) (by rw [h]; simp)
    rw [List.getLast?_concat, List.length_append, List.length_singleton] at ih
    have em : wrap64 ((m : Int) - 1) = (m : Int) - 1 := w64 (by omega) (by omega)
    by_cases c1 : 0 ≤ x.f0 ∧ x.f0 ≤ (m : Int) - 1
    · have e1 : wrap64 (x.f0 + 1) = x.f0 + 1 := w64 (by omega) (by omega)
      have b1 : (decide (0 ≤ x.f0) && decide (x.f0 ≤ (m : Int) - 1)) = true := by simp; exact c1
      by_cases c2 : x.f0 + 1 ≤ x.f1 ∧ x.f1 ≤ (m : Int) - 1
      · have b2 : (decide (x.f0 + 1 ≤ x.f1) && decide (x.f1 ≤ (m : Int) - 1)) = true := by simp; exact c2
        have d1 : decide (0 ≤ x.f0) = true := by simp; omega
        have d2 : decide (x.f0 < x.f1) = true := by simp; omega
        have d3 : decide (x.f1 < (m : Int)) = true := by simp; omega
        rcases List.eq_nil_or_concat pre with rfl | ⟨q, p, rfl⟩
        · refine Ev.cast (Ev.step (fun k => ?_) ih) ?_
          · rw [spec_paGood.l0, if_pos (by omega), if_pos (by omega), if_pos (by omega), hx, em, e1, l1In_f, l1In_f, b1, b2]
            simp only [Option.bind_some, if_true]
            rw [if_neg (by simp), w1 (by simp)]
          · simp [okFrom, d1, d2, d3, okPrev]
        · rw [List.concat_eq_append] at hlen hx ih h ⊢
          have hp : rd_T68 l (q.length : Int) = p := by rw [h, List.append_assoc]; exact rdT_mid q (x :: rest) p
          have hq : (q ++ [p]).length = q.length + 1 := by simp
          rw [hq] at hlen hx ih ⊢
          rw [List.getLast?_concat]
          cases hlt : lt2 p x with
          | true =>
            refine Ev.cast (Ev.step (fun k => ?_) ih) ?_
            · rw [spec_paGood.l0, if_pos (by omega), if_pos (by omega), if_pos (by omega), hx, em, e1, l1In_f, l1In_f, b1, b2]
              simp only [Option.bind_some, if_true]
              rw [if_pos (by omega), w64 (i := ((q.length + 1 : Nat) : Int) - 1) (by omega) (by omega), show ((q.length + 1 : Nat) : Int) - 1 = (q.length : Int) by omega, if_pos (by omega), if_pos (by omega), hp, paLess_f, hlt, w1 (by omega)]
              rfl
            · simp [okFrom, d1, d2, d3, okPrev, hlt]
          | false =>
            refine Ev.one (fun k => ?_)
            rw [spec_paGood.l0, if_pos (by omega), if_pos (by omega), if_pos (by omega), hx, em, e1, l1In_f, l1In_f, b1, b2]
            simp only [Option.bind_some, if_true]
            rw [if_pos (by omega), w64 (i := ((q.length + 1 : Nat) : Int) - 1) (by omega) (by omega), show ((q.length + 1 : Nat) : Int) - 1 = (q.length : Int) by omega, if_pos (by omega), if_pos (by omega), hp, paLess_f, hlt]
            simp [okFrom, okPrev, hlt]
      · refine Ev.one (fun k => ?_)
        have b2 : (decide (x.f0 + 1 ≤ x.f1) && decide (x.f1 ≤ (m : Int) - 1)) = false := by simp; omega
        rw [spec_paGood.l0, if_pos (by omega), if_pos (by omega), if_pos (by omega), hx, em, e1, l1In_f, l1In_f, b1, b2]
        have : (decide (x.f0 < x.f1) && decide (x.f1 < (m : Int))) = false := by simp; omega
        simp only [okFrom, ← Bool.and_assoc (decide (x.f0 < x.f1)), this]
        simp
    · refine Ev.one (fun k => ?_)
      have b1 : (decide (0 ≤ x.f0) && decide (x.f0 ≤ (m : Int) - 1)) = false := by simp; omega
      rw [spec_paGood.l0, if_pos (by omega), if_pos (by omega), if_pos (by omega), hx, em, l1In_f, b1]
      have : (decide (0 ≤ x.f0) && (decide (x.f0 < x.f1) && (decide (x.f1 < (m : Int)) && okPrev pre.getLast? x))) = false := by
        by_cases z0 : 0 ≤ x.f0
        · by_cases z1 : x.f0 < x.f1
          · have : ¬ x.f1 < (m : Int) := by omega
            simp [this]
          · simp [z1]
        · simp [z0]
      simp [okFrom, this]
theorem paPeople_f (a : Int) : spec_paPeople.f a = some (decide (0 ≤ a ∧ a ≤ 12)) := by
  unfold spec_paPeople.f
  rw [l1In_f]; simp [Bool.decide_and]
theorem paGood_ev (n : Int) (l : List S68) (hl : l.length < 4611686018427387904) : Ev (fun k => spec_paGood.f k n l) (good n l) := by
  unfold spec_paGood.f
  rw [paPeople_f]
  by_cases h : 0 ≤ n ∧ n ≤ 12
  · obtain ⟨m, rfl⟩ := Int.eq_ofNat_of_zero_le h.1
    have hm : m ≤ 12 := by omega
    have hc : crowd (m : Int) = true := by unfold crowd; simp; omega
    have hmul : (m : Int) * ((m : Int) - 1) ≤ 144 := by
      have : m = 0 ∨ m = 1 ∨ m = 2 ∨ m = 3 ∨ m = 4 ∨ m = 5 ∨ m = 6 ∨ m = 7 ∨ m = 8 ∨ m = 9 ∨ m = 10 ∨ m = 11 ∨ m = 12 := by omega
      rcases this with rfl | rfl | rfl | rfl | rfl | rfl | rfl | rfl | rfl | rfl | rfl | rfl | rfl <;> decide
    have hmul0 : 0 ≤ (m : Int) * ((m : Int) - 1) := by
      have : m = 0 ∨ m = 1 ∨ m = 2 ∨ m = 3 ∨ m = 4 ∨ m = 5 ∨ m = 6 ∨ m = 7 ∨ m = 8 ∨ m = 9 ∨ m = 10 ∨ m = 11 ∨ m = 12 := by omega
      rcases this with rfl | rfl | rfl | rfl | rfl | rfl | rfl | rfl | rfl | rfl | rfl | rfl | rfl <;> decide
    have hb : (below m m : Int) ≤ 144 := by
      have : m = 0 ∨ m = 1 ∨ m = 2 ∨ m = 3 ∨ m = 4 ∨ m = 5 ∨ m = 6 ∨ m = 7 ∨ m = 8 ∨ m = 9 ∨ m = 10 ∨ m = 11 ∨ m = 12 := by omega
      rcases this with rfl | rfl | rfl | rfl | rfl | rfl | rfl | rfl | rfl | rfl | rfl | rfl | rfl <;> decide
    have e : wrap64 (Int.tdiv (wrap64 ((m : Int) * (wrap64 ((m : Int) - 1)))) 2) = (below m m : Int) := by
      rw [w64 (i := (m : Int) - 1) (by omega) (by omega), w64 (i := (m : Int) * ((m : Int) - 1)) (by omega) (by omega), below_all m hm, w64 (by omega) (by omega)]
    simp only [h, decide_true, Option.bind_some, if_true, e, and_self]
    unfold good
    rw [hc, Bool.true_and]
    by_cases hlen : l.length ≤ below m m
    · refine Ev.step (fun k => ?_) (paGood_l0 m hm l hl l [] rfl)
      have : decide ((l.length : Int) > (below m m : Int)) = false := by simp; omega
      rw [this, spec_paGood.j0, if_neg (by decide)]
      rfl
    · refine Ev.one (fun k => ?_)
      have : decide ((l.length : Int) > (below m m : Int)) = true := by simp; omega
      rw [this, spec_paGood.j0, if_pos rfl]
      have hn : okFrom (m : Int) none l = false := by
        cases hok : okFrom (m : Int) none l with
        | false => rfl
        | true => exact absurd (good_len m l hok) hlen
      rw [hn]
  · have hc : crowd n = false := by unfold crowd; simp; omega
    simp only [h, decide_false, Option.bind_some]
    unfold good
    rw [hc]
    refine Ev.one (fun k => ?_)
    rw [if_neg (by decide), spec_paGood.j0]; simp

theorem paHas_f (m : Nat) (hm : m ≤ 12) (l : List S68) (a : Int) : spec_paHas.f (m : Int) l a = some (isPerson (m : Int) a) := by
  unfold spec_paHas.f isPerson
  rw [w64 (i := (m : Int) - 1) (by omega) (by omega), l1In_f]; rfl
/-! ### matrices -/
def mat (m : Nat) (r : Rel) : List (List Bool) := (List.range m).map fun a => (List.range m).map fun b => r a b
theorem hasP_nil : hasP [] = fun _ _ => false := by funext x y; rfl
theorem map_range_const {α : Type} (c : α) : ∀ m : Nat, (List.range m).map (fun _ => c) = List.replicate m c
  | 0 => rfl
  | m + 1 => by rw [List.range_succ, List.map_append, map_range_const c m, List.replicate_succ']; rfl
theorem mat_false (m : Nat) : mat m (fun _ _ => false) = List.replicate m (List.replicate m false) := by
  unfold mat; rw [map_range_const, map_range_const]
theorem mat_len (m : Nat) (r : Rel) : (mat m r).length = m := by simp [mat]
theorem map_range_getD {α : Type} (m : Nat) (f : Nat → α) (d : α) (a : Nat) (h : a < m) : ((List.range m).map f).getD a d = f a := by simp [List.getD_eq_getElem?_getD, h]
theorem mat_row (m : Nat) (r : Rel) (a : Nat) (h : a < m) : rd_L4 (mat m r) (a : Int) = (List.range m).map fun b => r a b := map_range_getD m _ _ a h
theorem map_range_congr {α : Type} (m : Nat) (f g : Nat → α) (h : ∀ a, a < m → f a = g a) : (List.range m).map f = (List.range m).map g := List.map_congr_left fun a ha => h a (List.mem_range.1 ha)
theorem map_range_set {α : Type} (m : Nat) (f : Nat → α) (a : Nat) (v : α) : ((List.range m).map f).set a v = (List.range m).map fun i => if i = a then v else f i := by
  apply List.ext_getElem?
  intro j
  rw [List.getElem?_set]
  by_cases hj : j < m
  · by_cases e : a = j
    · subst e; simp [hj]
    · have e' : ¬ j = a := fun h => e h.symm
      simp [hj, e, e']
  · by_cases e : a = j
    · subst e; simp [hj]
    · simp [hj, e]
def upd (r : Rel) (a b : Nat) (v : Bool) : Rel := fun x y => if x = a ∧ y = b then v else r x y
theorem mat_set (m : Nat) (r : Rel) (a b : Nat) (v : Bool) (ha : a < m) : (mat m r).set a ((rd_L4 (mat m r) (a : Int)).set b v) = mat m (upd r a b v) := by
  rw [mat_row m r a ha, map_range_set]
  show ((List.range m).map fun a => (List.range m).map fun b => r a b).set a _ = _
  rw [map_range_set]
  refine map_range_congr m _ _ fun i hi => ?_
  by_cases e : i = a
  · subst e
    rw [if_pos rfl]
    refine map_range_congr m _ _ fun j hj => ?_
    simp [upd]
  · rw [if_neg e]
    refine map_range_congr m _ _ fun j hj => ?_
    simp [upd, e]
theorem hasP_snoc (pre : List S68) (a b x y : Nat) : hasP (pre ++ [⟨(a : Int), (b : Int)⟩]) x y = (hasP pre x y || ((decide (a = x) && decide (b = y)) || (decide (a = y) && decide (b = x)))) := by
  unfold hasP
  rw [List.any_append]
  congr 1
  simp only [List.any_cons, List.any_nil, Bool.or_false]
  have e : ∀ u v : Nat, ((u : Int) == (v : Int)) = decide (u = v) := fun u v => by
    by_cases h : u = v
    · simp [h]
    · have : ¬ (u : Int) = (v : Int) := by omega
      simp [h, this]
  rw [e, e, e, e]
theorem upd2_hasP (pre : List S68) (a b : Nat) : upd (upd (hasP pre) a b true) b a true = hasP (pre ++ [⟨(a : Int), (b : Int)⟩]) := by
  funext x y
  rw [hasP_snoc]
  unfold upd
  by_cases h1 : x = b ∧ y = a
  · simp [h1]
  · by_cases h2 : x = a ∧ y = b
    · simp [h2]
    · have e1 : (decide (a = x) && decide (b = y)) = false := by simp; intro h3 h4; exact h2 ⟨h3.symm, h4.symm⟩
      have e2 : (decide (a = y) && decide (b = x)) = false := by simp; intro h3 h4; exact h1 ⟨h4.symm, h3.symm⟩
      simp [h1, h2, e1, e2]
theorem paTable_l1 (m : Nat) (l : List S68) (hl : l.length < 4611686018427387904) (hn : natPairs m l) : ∀ (rest pre : List S68), l = pre ++ rest → Ev (fun k => spec_paTable.l1 k (mat m (hasP pre)) l (l.length : Int) (pre.length : Int)) (mat m (hasP l))
  | [], pre, h => by
    refine Ev.one (fun k => ?_)
    have e : l = pre := by rw [h]; simp
    rw [spec_paTable.l1, if_neg (by rw [e]; omega), e]
  | x :: rest, pre, h => by
    have hlen : pre.length < l.length := by rw [h]; simp
    obtain ⟨a, b, rfl, hab, hb⟩ := hn x (by rw [h]; simp)
    have hx : rd_T68 l (pre.length : Int) = ⟨(a : Int), (b : Int)⟩ := by rw [h]; exact rdT_mid pre rest _
    have ih := paTable_l1 m l hl hn rest (pre ++ [⟨(a : Int), (b : Int)⟩]) (by rw [h]; simp)
    rw [List.length_append, List.length_singleton, ← upd2_hasP] at ih
    refine Ev.step (fun k => ?_) ih
    have hrow : (rd_L4 (mat m (hasP pre)) (a : Int)).length = m := by rw [mat_row _ _ _ (by omega)]; simp
    have hrow2 : (rd_L4 (mat m (upd (hasP pre) a b true)) (b : Int)).length = m := by rw [mat_row _ _ _ (by omega)]; simp
    rw [spec_paTable.l1, if_pos (by omega), if_pos (by omega), if_pos (by omega), hx]
    dsimp only
    rw [mat_len, hrow, if_pos (by omega), if_pos (by omega), if_pos (by omega), if_pos (by omega), Int.toNat_natCast, Int.toNat_natCast, mat_set _ _ _ _ _ (by omega)]
    simp only [Option.bind_some]
    rw [if_pos (by omega), hrow2, if_pos (by omega), mat_set _ _ _ _ _ (by omega), w1 (by omega)]
theorem paTable_l0 (m : Nat) (hm : m ≤ 12) (l : List S68) (hl : l.length < 4611686018427387904) (hn : natPairs m l) : ∀ (d i : Nat), i + d = m → Ev (fun k => spec_paTable.l0 k (List.replicate i (List.replicate m false)) (i : Int) (m : Int) l) (mat m (hasP l))
  | 0, i, hd => by
    refine Ev.step (fun k => ?_) (paTable_l1 m l hl hn l [] rfl)
    obtain rfl : i = m := by omega
    rw [spec_paTable.l0, if_neg (by omega), hasP_nil, mat_false]
    rfl
  | d + 1, i, hd => by
    refine Ev.step (fun k => ?_) (paTable_l0 m hm l hl hn d (i + 1) (by omega))
    rw [spec_paTable.l0, if_pos (by omega), if_pos (by omega), if_pos (by omega), if_pos (by simp; omega), w1 (by omega), Int.toNat_natCast, List.replicate_succ']
theorem paTable_ev (m : Nat) (hm : m ≤ 12) (l : List S68) (hl : l.length < 4611686018427387904) (hn : natPairs m l) : Ev (fun k => spec_paTable.f k (m : Int) l) (mat m (hasP l)) := by
  unfold spec_paTable.f
  exact paTable_l0 m hm l hl hn m 0 (by omega)
def qq (r : Rel) (x u v : Nat) : Bool := r x u && r x v && r u v
theorem sm_congr (m : Nat) (f g : Nat → Nat) (h : ∀ i, i < m → f i = g i) : sm m f = sm m g := by
  induction m with
  | zero => rfl
  | succ m ih => rw [sm, sm, ih fun i hi => h i (by omega), h m (by omega)]
theorem sm_zero (m : Nat) : sm m (fun _ => 0) = 0 := by
  induction m with
  | zero => rfl
  | succ m ih => rw [sm, ih]
theorem sm_if (m : Nat) (p : Prop) [Decidable p] (g : Nat → Nat) : sm m (fun i => if p then g i else 0) = if p then sm m g else 0 := by
  by_cases h : p
  · simp only [if_pos h]
  · simp only [if_neg h]; exact sm_zero m
theorem rd_mid (pre rest : List Int) (x : Int) : rd (pre ++ x :: rest) (pre.length : Int) = x := by
  unfold rd
  simp [List.getD_eq_getElem?_getD]
/-! whether a number is there -/
theorem l1Has_l0 (l : List Int) (a : Int) (hl : l.length < 4611686018427387904) : ∀ (rest pre : List Int), l = pre ++ rest → Ev (fun k => spec_l1Has.l0 k a l (l.length : Int) (pre.length : Int)) (rest.contains a)
  | [], pre, e => by
    have el : l.length = pre.length := by rw [e]; simp
    refine Ev.one (fun k => ?_)
    rw [spec_l1Has.l0, if_neg (by omega)]; rfl
  | x :: rest, pre, e => by
    have el : pre.length < l.length := by rw [e]; simp
    have hx : rd l (pre.length : Int) = x := by rw [e]; exact rd_mid pre _ x
    by_cases c : x = a
    · refine Ev.one (fun k => ?_)
      rw [spec_l1Has.l0, if_pos (by omega), if_pos (by omega), if_pos (by omega), hx, if_pos c]
      simp [c]
    · have ih := l1Has_l0 l a hl rest (pre ++ [x]) (by rw [e]; simp)
      rw [List.length_append, List.length_singleton] at ih
      refine Ev.cast (Ev.step (fun k => ?_) ih) ?_
      · rw [spec_l1Has.l0, if_pos (by omega), if_pos (by omega), if_pos (by omega), hx, if_neg c, w1 (by omega)]
      · have : ¬ a = x := fun h => c h.symm
        simp [this]
theorem l1Has_ev (l : List Int) (a : Int) (hl : l.length < 4611686018427387904) : Ev (fun k => spec_l1Has.f k l a) (l.contains a) := l1Has_l0 l a hl l [] rfl
theorem specThreesAt_l0 (x : Nat) (G : List (List Nat)) (hG : G.length ≤ 5000) (hg : ∀ cs ∈ G, cs.length ≤ 12) : ∀ (rest pre : List (List Nat)) (s : Nat), G = pre ++ rest → s ≤ pre.length →
    Ev (fun k => spec_ThreesAt.l0 k (x : Int) (s : Int) (G.map ints) (G.length : Int) (pre.length : Int)) (((s + rest.countP (fun cs => cs.contains x) : Nat) : Int), true)
  | [], pre, s, e, hs => by
    have el : G.length = pre.length := by rw [e]; simp
    refine Ev.one (fun k => ?_)
    rw [spec_ThreesAt.l0, if_neg (by omega)]; simp
  | c :: rest, pre, s, e, hs => by
    have el : pre.length < G.length := by rw [e]; simp
    have hc := hg c (by rw [e]; simp)
    have hrd : rd_L5 (G.map ints) (pre.length : Int) = ints c := by
      show (G.map ints).getD _ [] = _
      rw [e, Int.toNat_natCast]
      simp [List.getD_eq_getElem?_getD]
    have hcon : (ints c).contains (x : Int) = c.contains x := by
      have : ∀ l : List Nat, (ints l).contains (x : Int) = l.contains x := by
        intro l
        induction l with
        | nil => rfl
        | cons y l ih =>
          have h1 : ints (y :: l) = (y : Int) :: ints l := rfl
          rw [h1, List.contains_cons, List.contains_cons, ih]
          congr 1
          rw [Bool.eq_iff_iff, beq_iff_eq, beq_iff_eq]; omega
      exact this c
    have hev := l1Has_ev (ints c) (x : Int) (by rw [ints_len]; omega)
    rw [hcon] at hev
    refine Ev.step (f := fun k => (spec_l1Has.f k (ints c) (x : Int)).bind fun t173 => (if t173 = true then (spec_ThreesAt.l0 k (x : Int) ((s + 1 : Nat) : Int) (G.map ints) (G.length : Int) ((pre.length + 1 : Nat) : Int)) else (spec_ThreesAt.l0 k (x : Int) (s : Int) (G.map ints) (G.length : Int) ((pre.length + 1 : Nat) : Int)))) (fun k => ?_) ?_
    · rw [spec_ThreesAt.l0, if_pos (by omega), if_pos (by omega), if_pos (by rw [List.length_map]; omega), hrd, w1 (by omega), w1 (by omega)]
    refine Ev.bind hev ?_
    cases h : c.contains x with
    | true =>
      have ih := specThreesAt_l0 x G hG hg rest (pre ++ [c]) (s + 1) (by rw [e]; simp) (by rw [List.length_append, List.length_singleton]; omega)
      rw [List.length_append, List.length_singleton] at ih
      simp only [if_true]
      refine Ev.cast ih ?_
      rw [List.countP_cons, if_pos h]; congr 2; omega
    | false =>
      have ih := specThreesAt_l0 x G hG hg rest (pre ++ [c]) s (by rw [e]; simp) (by rw [List.length_append, List.length_singleton]; omega)
      rw [List.length_append, List.length_singleton] at ih
      simp only [Bool.false_eq_true, if_false]
      refine Ev.cast ih ?_
      rw [List.countP_cons, if_neg (by rw [h]; decide)]; rfl
def tab (m : Nat) (r : Rel) : List Int := (List.range m).map fun a => ((bitsOf m (r a) : Nat) : Int)
theorem tab_at (m : Nat) (r : Rel) (a : Nat) (h : a < m) : rd (tab m r) (a : Int) = ((bitsOf m (r a) : Nat) : Int) := map_range_getD m _ _ a h
theorem tab_len (m : Nat) (r : Rel) : (tab m r).length = m := by simp [tab]
theorem tab_false (m : Nat) : tab m (fun _ _ => false) = List.replicate m 0 := by
  unfold tab
  rw [← map_range_const (0 : Int) m]
  refine map_range_congr m _ _ fun i hi => ?_
  have : bitsOf m (fun _ => false) = 0 := by
    apply Nat.eq_of_testBit_eq
    intro i
    rw [testBit_bitsOf]; simp
  rw [this]; rfl
theorem bitsOf_or (m : Nat) (f : Nat → Bool) (b : Nat) (hb : b < m) : bitsOf m f ||| 2 ^ b = bitsOf m fun j => if j = b then true else f j := by
  apply Nat.eq_of_testBit_eq
  intro i
  rw [Nat.testBit_or, testBit_bitsOf, testBit_bitsOf, Nat.testBit_two_pow]
  by_cases e : i = b
  · subst e; simp [hb]
  · have e' : ¬ b = i := fun h => e h.symm
    simp [e, e']
theorem or16 (x y : Nat) (hx : x < 65536) (hy : y < 65536) : Go.bits .or .u16 (x : Int) (y : Int) = ((x ||| y : Nat) : Int) := (bits_nat .u16 16 (by decide) wraps_u16 x y hx hy).2
theorem pow_u16 (b : Nat) (h : b ≤ 12) : 2 ^ b < 65536 := Nat.lt_of_le_of_lt (Nat.pow_le_pow_right (by decide) h) (by decide)
theorem shl1 (b : Nat) (h : b ≤ 12) : shl .u16 1 (b : Int) = ((2 ^ b : Nat) : Int) := by
  have : b = 0 ∨ b = 1 ∨ b = 2 ∨ b = 3 ∨ b = 4 ∨ b = 5 ∨ b = 6 ∨ b = 7 ∨ b = 8 ∨ b = 9 ∨ b = 10 ∨ b = 11 ∨ b = 12 := by omega
  rcases this with rfl | rfl | rfl | rfl | rfl | rfl | rfl | rfl | rfl | rfl | rfl | rfl | rfl <;> decide
theorem bitsOf_congr (m : Nat) (f g : Nat → Bool) (h : ∀ i, i < m → f i = g i) : bitsOf m f = bitsOf m g := by
  apply Nat.eq_of_testBit_eq
  intro i
  rw [testBit_bitsOf, testBit_bitsOf]
  by_cases hi : i < m
  · simp [hi, h i hi]
  · simp [hi]
theorem tab_congr (m : Nat) (r s : Rel) (h : ∀ a b, a < m → b < m → r a b = s a b) : tab m r = tab m s := map_range_congr m _ _ fun a ha => by rw [bitsOf_congr m _ _ fun b hb => h a b ha hb]
theorem tab_set (m : Nat) (r : Rel) (a : Nat) (f : Nat → Bool) : (tab m r).set a ((bitsOf m f : Nat) : Int) = tab m (fun x => if x = a then f else r x) := by
  unfold tab
  rw [map_range_set]
  refine map_range_congr m _ _ fun i hi => ?_
  by_cases e : i = a <;> simp [e]
theorem tab_or (m : Nat) (hm : m ≤ 12) (r : Rel) (a b : Nat) (ha : a < m) (hb : b < m) : (tab m r).set a (Go.bits .or .u16 (rd (tab m r) (a : Int)) (shl .u16 1 (b : Int))) = tab m (upd r a b true) := by
  rw [tab_at m r a ha, shl1 b (by omega), or16 _ _ (bitsOf_u16 m hm _) (pow_u16 b (by omega)), bitsOf_or m _ b hb, tab_set]
  refine tab_congr m _ _ fun x y hx hy => ?_
  by_cases e : x = a
  · subst e; simp [upd]
  · simp [upd, e]
theorem table_l0 (m : Nat) (hm : m ≤ 12) (l : List S68) (hl : l.length < 4611686018427387904) (hn : natPairs m l) : ∀ (rest pre : List S68), l = pre ++ rest → Ev (fun k => impl_Party_table.l0 k (tab m (hasP pre)) l (l.length : Int) (pre.length : Int)) (tab m (hasP l))
  | [], pre, h => by
    refine Ev.one (fun k => ?_)
    have e : l = pre := by rw [h]; simp
    rw [impl_Party_table.l0, if_neg (by rw [e]; omega), e]
  | x :: rest, pre, h => by
    have hlen : pre.length < l.length := by rw [h]; simp
    obtain ⟨a, b, rfl, hab, hb⟩ := hn x (by rw [h]; simp)
    have hx : rd_T68 l (pre.length : Int) = ⟨(a : Int), (b : Int)⟩ := by rw [h]; exact rdT_mid pre rest _
    have ih := table_l0 m hm l hl hn rest (pre ++ [⟨(a : Int), (b : Int)⟩]) (by rw [h]; simp)
    rw [List.length_append, List.length_singleton, ← upd2_hasP] at ih
    refine Ev.step (fun k => ?_) ih
    rw [impl_Party_table.l0, if_pos (by omega), if_pos (by omega), if_pos (by omega), hx]
    dsimp only
    rw [tab_len, if_pos (by omega), if_pos (by omega), if_pos (by omega), Int.toNat_natCast, Int.toNat_natCast, tab_or m hm _ a b (by omega) (by omega)]
    simp only [Option.bind_some]
    rw [if_pos (by omega), tab_or m hm _ b a (by omega) (by omega), w1 (by omega)]
theorem table_ev (m : Nat) (hm : m ≤ 12) (l : List S68) (hl : l.length < 4611686018427387904) (hn : natPairs m l) : Ev (fun k => impl_Party_table.f k (m : Int) l) (tab m (hasP l)) := by
  unfold impl_Party_table.f
  simp only [if_pos (show (0 : Int) ≤ (m : Int) by omega), Int.toNat_natCast, if_pos (show m ≤ 140737488355328 by omega)]
  have := table_l0 m hm l hl hn l [] rfl
  rw [hasP_nil, tab_false] at this
  exact this

theorem bitsOf_and (m : Nat) (f g : Nat → Bool) : bitsOf m f &&& bitsOf m g = bitsOf m (fun i => f i && g i) := by
  apply Nat.eq_of_testBit_eq
  intro i
  rw [Nat.testBit_and, testBit_bitsOf, testBit_bitsOf, testBit_bitsOf]
  by_cases h : i < m <;> simp [h]
theorem ints_rd (L pre rest : List Nat) (b : Nat) (h : L = pre ++ b :: rest) : rd (ints L) (pre.length : Int) = (b : Int) := by
  subst h
  show (List.map Int.ofNat (pre ++ b :: rest)).getD _ 0 = _
  rw [Int.toNat_natCast]
  simp [List.getD_eq_getElem?_getD]
theorem cnt_add (a : Nat) (f : Nat → Bool) : ∀ b, cnt (a + b) f = cnt a f + cnt b (fun i => f (a + i))
  | 0 => rfl
  | b + 1 => by
    show cnt (a + b) f + (f (a + b)).toNat = _
    rw [cnt_add a f b, cnt]; omega
theorem cnt_congr (m : Nat) (f g : Nat → Bool) (h : ∀ i, i < m → f i = g i) : cnt m f = cnt m g := by
  induction m with
  | zero => rfl
  | succ m ih => rw [cnt, cnt, ih (fun i hi => h i (by omega)), h m (by omega)]
theorem cnt_false : ∀ k, cnt k (fun _ => false) = 0
  | 0 => rfl
  | k + 1 => by rw [cnt, cnt_false k]; rfl
theorem cnt_le : ∀ (m : Nat) (f : Nat → Bool), cnt m f ≤ m
  | 0, _ => Nat.le_refl _
  | m + 1, f => by
    have := cnt_le m f
    have h2 : (f m).toNat ≤ 1 := by cases f m <;> simp
    rw [cnt]; omega
theorem cnt_pad (m : Nat) (f : Nat → Bool) : ∀ d, cnt (m + d) (fun i => decide (i < m) && f i) = cnt m f
  | 0 => cnt_congr m _ _ fun i hi => by simp [hi]
  | d + 1 => by
    show cnt (m + d) _ + _ = _
    rw [cnt_pad m f d]
    have : ¬ m + d < m := by omega
    simp [this]
def hiOk : Bool := (List.range 16).all fun h => decide (bits_OnesCount16.f ((h * 256 : Nat) : Int) = some ((cnt 8 (Nat.testBit h) : Nat) : Int))
theorem hiOk_true : hiOk = true := by kernel_rfl
def loOk : Bool := (List.range 256).all fun l => decide (bits_OnesCount16.f (l : Int) = some ((cnt 8 (Nat.testBit l) : Nat) : Int))
theorem loOk_true : loOk = true := by kernel_rfl
def onesG (T : ByteArray) (a0 : Int) : Option Int := if 0 ≤ (a0 / 256) then (if (a0 / 256) < 256 then (if 0 ≤ (Go.bits .and .u16 a0 255) then (if (Go.bits .and .u16 a0 255) < 256 then (some (((bt T (a0 / 256)) + (bt T (Go.bits .and .u16 a0 255))) % 256)) else (none)) else (none)) else (none)) else (none)
theorem onesG_at (T : ByteArray) (h l : Nat) (hh : h < 256) (hl : l < 256) : onesG T ((h * 256 + l : Nat) : Int) = some ((bt T (h : Int) + bt T (l : Int)) % 256) := by
  have e1 : ((h * 256 + l : Nat) : Int) / 256 = (h : Int) := by omega
  have e2 : Go.bits .and .u16 ((h * 256 + l : Nat) : Int) 255 = (l : Int) := by
    have := bits_mask .u16 16 (by decide) wraps_u16 8 (by decide) ((h * 256 + l : Nat) : Int) (by omega) (by omega)
    rw [show ((2 : Int) ^ 8 - 1) = 255 by decide] at this
    rw [this]; omega
  unfold onesG
  rw [e1, e2, if_pos (by omega), if_pos (by omega), if_pos (by omega), if_pos (by omega)]
theorem onesG_of : ∃ T : ByteArray, ∀ a, bits_OnesCount16.f a = onesG T a := ⟨_, fun a => rfl⟩
theorem onesCount_f (m : Nat) (hm : m ≤ 12) (f : Nat → Bool) : bits_OnesCount16.f ((bitsOf m f : Nat) : Int) = some ((cnt m f : Nat) : Int) := by
  have hx : bitsOf m f < 4096 := Nat.lt_of_lt_of_le (bitsOf_lt m f) (Nat.le_trans (Nat.pow_le_pow_right (by decide) hm) (by decide))
  obtain ⟨h, l, hh, hl, hhl⟩ : ∃ h l, h < 16 ∧ l < 256 ∧ bitsOf m f = h * 256 + l := ⟨bitsOf m f / 256, bitsOf m f % 256, by omega, by omega, by omega⟩
  have q1 := loOk_true
  have q2 := hiOk_true
  unfold loOk at q1
  unfold hiOk at q2
  rw [List.all_eq_true] at q1 q2
  have f0 := of_decide_eq_true (q1 0 (List.mem_range.2 (by decide)))
  have f1 := of_decide_eq_true (q1 l (List.mem_range.2 hl))
  have f2 := of_decide_eq_true (q2 h (List.mem_range.2 hh))
  obtain ⟨T, hT⟩ := onesG_of
  rw [hT] at f0 f1 f2 ⊢
  have g0 := onesG_at T 0 0 (by omega) (by omega)
  have g1 := onesG_at T 0 l (by omega) hl
  have g2 := onesG_at T h 0 (by omega) (by omega)
  have g3 := onesG_at T h l (by omega) hl
  rw [show 0 * 256 + 0 = 0 by rfl] at g0
  rw [show 0 * 256 + l = l by omega] at g1
  rw [show h * 256 + 0 = h * 256 by omega] at g2
  rw [g0] at f0
  rw [g1] at f1
  rw [g2] at f2
  rw [hhl, g3]
  have b0 : cnt 8 (Nat.testBit 0) = 0 := by rfl
  have b1 := cnt_le 8 (Nat.testBit l)
  have b2 := cnt_le 8 (Nat.testBit h)
  simp only [Option.some.injEq] at f0 f1 f2 ⊢
  have hc : cnt m f = cnt 8 (Nat.testBit h) + cnt 8 (Nat.testBit l) := by
    obtain ⟨d, hd⟩ : ∃ d, 12 = m + d := ⟨12 - m, by omega⟩
    have e1 : cnt m f = cnt 12 (Nat.testBit (bitsOf m f)) := by
      rw [cnt_congr 12 (Nat.testBit (bitsOf m f)) (fun i => decide (i < m) && f i) (fun i _ => testBit_bitsOf m f i), hd, cnt_pad]
    have e2 : ∀ j, Nat.testBit (h * 256 + l) j = if j < 8 then l.testBit j else h.testBit (j - 8) := fun j => by
      have := Nat.testBit_two_pow_mul_add h (b := l) (i := 8) hl j
      rw [Nat.mul_comm h 256]; exact this
    have e3 : cnt 8 (Nat.testBit (h * 256 + l)) = cnt 8 (Nat.testBit l) := cnt_congr 8 _ _ fun i hi => by rw [e2, if_pos hi]
    have e4 : cnt 4 (fun i => Nat.testBit (h * 256 + l) (8 + i)) = cnt 4 (Nat.testBit h) := cnt_congr 4 _ _ fun i hi => by rw [e2, if_neg (by omega), show 8 + i - 8 = i by omega]
    have e5 : cnt 4 (fun i => Nat.testBit h (4 + i)) = 0 := by
      rw [cnt_congr 4 _ (fun _ => false) fun i hi => Nat.testBit_lt_two_pow (Nat.lt_of_lt_of_le hh (Nat.le_trans (show 16 ≤ 2 ^ 4 by decide) (Nat.pow_le_pow_right (by decide) (by omega))))]
      exact cnt_false 4
    have e6 : cnt 12 (Nat.testBit (h * 256 + l)) = _ := cnt_add 8 (Nat.testBit (h * 256 + l)) 4
    have e7 : cnt 8 (Nat.testBit h) = _ := cnt_add 4 (Nat.testBit h) 4
    rw [e1, hhl]
    omega
  rw [hc]
  omega
theorem sm_le (m : Nat) (f : Nat → Nat) (c : Nat) (h : ∀ i, i < m → f i ≤ c) : sm m f ≤ m * c := by
  induction m with
  | zero => simp [sm]
  | succ m ih =>
    have := ih fun i hi => h i (by omega)
    have := h m (by omega)
    rw [sm, Nat.add_mul, Nat.one_mul]; omega
theorem threesAt_l0 (m : Nat) (hm : m ≤ 12) (r : Rel) (x : Nat) (hx : x < m) (L : List Nat) (hL : ∀ b ∈ L, b < m) (hl : L.length ≤ 12) : ∀ (rest pre : List Nat) (s : Nat), L = pre ++ rest → s ≤ 12 * pre.length →
    Ev (fun k => impl_ThreesAt.l0 k (x : Int) (tab m r) (s : Int) (ints L) (L.length : Int) (pre.length : Int)) (((s + (rest.map fun b => cnt m (fun i => r x i && r b i)).sum) / 2 : Nat), true)
  | [], pre, s, e, hs => by
    have el : L.length = pre.length := by rw [e]; simp
    refine Ev.one (fun k => ?_)
    have e1 : wrap64 (Int.tdiv (s : Int) 2) = ((s / 2 : Nat) : Int) := by
      have : Int.tdiv (s : Int) 2 = ((s / 2 : Nat) : Int) := by rw [Int.tdiv_eq_ediv_of_nonneg (by omega)]; omega
      rw [this, w64 (by omega) (by omega)]
    rw [impl_ThreesAt.l0, if_neg (by omega), e1]; simp
  | b :: rest, pre, s, e, hs => by
    have el : pre.length < L.length := by rw [e]; simp
    have hb : b < m := hL b (by rw [e]; simp)
    have hrd := ints_rd L pre rest b e
    have hc : cnt m (fun i => r x i && r b i) ≤ 12 := by
      rw [cnt_sm]
      have := sm_le m (fun i => (r x i && r b i).toNat) 1 (fun i _ => by cases r x i <;> cases r b i <;> decide)
      omega
    have ih := threesAt_l0 m hm r x hx L hL hl rest (pre ++ [b]) (s + cnt m (fun i => r x i && r b i)) (by rw [e]; simp) (by rw [List.length_append, List.length_singleton]; omega)
    rw [List.length_append, List.length_singleton] at ih
    refine Ev.cast (Ev.step (fun k => ?_) ih) ?_
    · rw [impl_ThreesAt.l0, if_pos (by omega), if_pos (by omega), if_pos (by rw [ints_len]; omega), if_pos (by omega), tab_len, if_pos (by omega), hrd, if_pos (by omega), if_pos (by omega), tab_at m r x hx, tab_at m r b hb, and16 _ _ (bitsOf_u16 m hm _) (bitsOf_u16 m hm _), bitsOf_and, onesCount_f m hm]
      simp only [Option.bind_some]
      rw [w1 (by omega), w64 (i := (s : Int) + ((cnt m fun i => r x i && r b i : Nat) : Int)) (by omega) (by omega), ← Int.natCast_add]
    · rw [List.map_cons, List.sum_cons, Nat.add_assoc]
def b2n (p : Prop) [Decidable p] : Nat := if p then 1 else 0
theorem sm_add (m : Nat) (f g : Nat → Nat) : sm m (fun i => f i + g i) = sm m f + sm m g := by
  induction m with
  | zero => rfl
  | succ m ih => simp only [sm, ih]; omega
theorem sm_single (m x : Nat) (hx : x < m) (g : Nat → Nat) : sm m (fun i => if i = x then g i else 0) = g x := by
  induction m with
  | zero => omega
  | succ m ih =>
    by_cases h : x = m
    · subst h
      rw [sm, if_pos rfl, sm_congr x _ (fun _ => 0) (fun i hi => if_neg (by omega)), sm_zero, Nat.zero_add]
    · rw [sm, if_neg (fun e => h e.symm), ih (by omega), Nat.add_zero]
theorem sm_swap (m n : Nat) (f : Nat → Nat → Nat) : sm m (fun i => sm n (f i)) = sm n (fun j => sm m (fun i => f i j)) := by
  induction m with
  | zero => simp only [sm]; exact (sm_zero n).symm
  | succ m ih => simp only [sm]; rw [ih, ← sm_add]
theorem gr_count (m : Nat) (r : Rel) (p : List Nat → Bool) (d : Nat) (cs : List Nat) : ∀ (e a : Nat), a + e = m →
    (gr r e (d + 1) cs a).countP p = sm m (fun i => if a ≤ i then (if cs.all (fun b => r i b) then (gr r (m - (i + 1)) d (cs ++ [i]) (i + 1)).countP p else 0) else 0)
  | 0, a, h => by
    rw [gr_none, List.countP_nil, sm_congr m _ (fun _ => 0) (fun i hi => if_neg (by omega)), sm_zero]
  | e + 1, a, h => by
    rw [gr_succ, List.countP_append, gr_count m r p d cs e (a + 1) (by omega)]
    have h1 := sm_single m a (by omega) (fun i => if cs.all (fun b => r i b) then (gr r (m - (i + 1)) d (cs ++ [i]) (i + 1)).countP p else 0)
    have e1 : m - (a + 1) = e := by omega
    rw [e1] at h1
    have h2 : (if cs.all (fun b => r a b) then gr r e d (cs ++ [a]) (a + 1) else []).countP p = if cs.all (fun b => r a b) then (gr r e d (cs ++ [a]) (a + 1)).countP p else 0 := by
      split <;> simp
    rw [h2, ← h1, ← sm_add]
    refine sm_congr m _ _ fun i hi => ?_
    by_cases hi1 : i = a
    · subst hi1
      rw [if_pos rfl, if_neg (show ¬ i + 1 ≤ i by omega), if_pos (Nat.le_refl i), Nat.add_zero]
    · rw [if_neg hi1, Nat.zero_add]
      by_cases h3 : a + 1 ≤ i
      · rw [if_pos h3, if_pos (show a ≤ i by omega)]
      · rw [if_neg h3, if_neg (show ¬ a ≤ i by omega)]
theorem threes_count (m : Nat) (r : Rel) (x : Nat) : (gr r m 3 [] 0).countP (fun cs => cs.contains x) = sm m fun a => sm m fun b => sm m fun c => if a < b ∧ b < c ∧ (r b a && (r c a && r c b)) = true then b2n (a = x ∨ b = x ∨ c = x) else 0 := by
  rw [gr_count m r _ 2 [] m 0 (by omega)]
  refine sm_congr m _ _ fun a ha => ?_
  rw [if_pos (Nat.zero_le a), if_pos (by rfl)]
  show (gr r (m - (a + 1)) (1 + 1) [a] (a + 1)).countP _ = _
  rw [gr_count m r _ 1 [a] _ (a + 1) (by omega)]
  refine sm_congr m _ _ fun b hb => ?_
  by_cases h1 : a + 1 ≤ b
  · cases h2 : r b a with
    | true =>
      rw [if_pos h1, if_pos (by simp [h2])]
      show (gr r (m - (b + 1)) (0 + 1) [a, b] (b + 1)).countP _ = _
      rw [gr_count m r _ 0 [a, b] _ (b + 1) (by omega)]
      refine sm_congr m _ _ fun c hc => ?_
      by_cases h3 : b + 1 ≤ c
      · rw [if_pos h3, gr_zero]
        cases h4 : (r c a && r c b) with
        | true =>
          have h5 : r c a = true ∧ r c b = true := by simpa using h4
          rw [if_pos (by simp [h5.1, h5.2]), if_pos ⟨by omega, by omega, by simp⟩]
          unfold b2n
          by_cases hx : a = x ∨ b = x ∨ c = x
          · rw [if_pos hx, List.countP_singleton, if_pos (by simp; omega)]
          · rw [if_neg hx, List.countP_singleton, if_neg (by simp; omega)]
        | false =>
          rw [if_neg (by simpa using h4), if_neg (by simp)]
      · rw [if_neg h3, if_neg (by omega)]
    | false =>
      rw [if_pos h1, if_neg (by simp [h2])]
      rw [sm_congr m _ (fun _ => 0) (fun c hc => if_neg (by simp)), sm_zero]
  · rw [if_neg h1, sm_congr m _ (fun _ => 0) (fun c hc => if_neg (by omega)), sm_zero]
theorem threes_half (m : Nat) (r : Rel) (hs : ∀ a b, r a b = r b a) (hi : ∀ a, r a a = false) (x : Nat) (hx : x < m) :
    (sm m fun u => sm m fun v => (qq r x u v).toNat) = 2 * (gr r m 3 [] 0).countP (fun cs => cs.contains x) := by
  have hT : (gr r m 3 [] 0).countP (fun cs => cs.contains x) = sm m fun u => sm m fun v => if u < v then (qq r x u v).toNat else 0 := by
    rw [threes_count]
    have e1 : ∀ a b c, (if a < b ∧ b < c ∧ (r b a && (r c a && r c b)) = true then b2n (a = x ∨ b = x ∨ c = x) else 0) =
        ((if a = x then (if x < b ∧ b < c then (qq r x b c).toNat else 0) else 0) + (if b = x then (if a < x ∧ x < c then (qq r x a c).toNat else 0) else 0)) + (if c = x then (if a < b ∧ b < x then (qq r x a b).toNat else 0) else 0) := by
      intro a b c
      unfold qq b2n
      by_cases hab : a < b
      · by_cases hbc : b < c
        · by_cases h1 : a = x
          · subst h1
            rw [if_pos rfl, if_neg (show ¬ b = a by omega), if_neg (show ¬ c = a by omega), hs b a, hs c a, hs c b]
            cases r a b <;> cases r a c <;> cases r b c <;> simp [hab, hbc]
          · by_cases h2 : b = x
            · subst h2
              rw [if_neg h1, if_pos rfl, if_neg (show ¬ c = b by omega), hs c a, hs c b]
              cases r b a <;> cases r b c <;> cases r a c <;> simp [hab, hbc]
            · by_cases h3 : c = x
              · subst h3
                rw [if_neg h1, if_neg h2, if_pos rfl, hs b a]
                cases r c a <;> cases r c b <;> cases r a b <;> simp [hab, hbc]
              · rw [if_neg h1, if_neg h2, if_neg h3]
                simp [h1, h2, h3]
        · rw [if_neg (by omega)]
          have z1 : ¬ (x < b ∧ b < c) := by omega
          rw [if_neg z1]
          by_cases h2 : b = x
          · subst h2
            rw [if_pos rfl, if_neg (show ¬ (a < b ∧ b < c) by omega)]
            by_cases h3 : c = b
            · rw [if_pos h3, if_neg (show ¬ (a < b ∧ b < b) by omega)]; simp
            · rw [if_neg h3]; simp
          · rw [if_neg h2]
            by_cases h3 : c = x
            · rw [if_pos h3, if_neg (show ¬ (a < b ∧ b < x) by omega)]; simp
            · rw [if_neg h3]; simp
      · rw [if_neg (by omega), if_neg (show ¬ (a < b ∧ b < x) by omega)]
        by_cases h1 : a = x
        · rw [if_pos h1, if_neg (show ¬ (x < b ∧ b < c) by omega)]
          by_cases h2 : b = x
          · rw [if_pos h2, if_neg (show ¬ (a < x ∧ x < c) by omega)]; simp
          · rw [if_neg h2]; simp
        · rw [if_neg h1]
          by_cases h2 : b = x
          · rw [if_pos h2, if_neg (show ¬ (a < x ∧ x < c) by omega)]; simp
          · rw [if_neg h2]; simp
    simp only [e1, sm_add]
    have a1 : (sm m fun a => sm m fun b => sm m fun c => if a = x then (if x < b ∧ b < c then (qq r x b c).toNat else 0) else 0) = sm m fun u => sm m fun v => if x < u ∧ u < v then (qq r x u v).toNat else 0 := by
      simp only [sm_if]; exact sm_single m x hx (fun _ => _)
    have a2 : (sm m fun a => sm m fun b => sm m fun c => if b = x then (if a < x ∧ x < c then (qq r x a c).toNat else 0) else 0) = sm m fun u => sm m fun v => if u < x ∧ x < v then (qq r x u v).toNat else 0 := by
      refine sm_congr m _ _ fun a ha => ?_
      simp only [sm_if]; exact sm_single m x hx (fun _ => _)
    have a3 : (sm m fun a => sm m fun b => sm m fun c => if c = x then (if a < b ∧ b < x then (qq r x a b).toNat else 0) else 0) = sm m fun u => sm m fun v => if u < v ∧ v < x then (qq r x u v).toNat else 0 := by
      refine sm_congr m _ _ fun a ha => sm_congr m _ _ fun b hb => ?_
      exact sm_single m x hx (fun _ => _)
    rw [a1, a2, a3, ← sm_add, ← sm_add]
    refine sm_congr m _ _ fun u hu => ?_
    rw [← sm_add, ← sm_add]
    refine sm_congr m _ _ fun v hv => ?_
    by_cases huv : u < v
    · rw [if_pos huv]
      by_cases h1 : u = x
      · subst h1; simp [qq, hi]
      · by_cases h2 : v = x
        · subst h2; simp [qq, hi]
        · by_cases h3 : x < u
          · rw [if_pos ⟨h3, huv⟩, if_neg (by omega), if_neg (by omega)]; omega
          · by_cases h4 : x < v
            · rw [if_neg (by omega), if_pos ⟨by omega, h4⟩, if_neg (by omega)]; omega
            · rw [if_neg (by omega), if_neg (by omega), if_pos ⟨huv, by omega⟩]; omega
    · rw [if_neg huv, if_neg (by omega), if_neg (by omega), if_neg (by omega)]
  rw [hT]
  have e2 : ∀ u v, (qq r x u v).toNat = (if u < v then (qq r x u v).toNat else 0) + (if v < u then (qq r x v u).toNat else 0) := by
    intro u v
    by_cases h1 : u < v
    · rw [if_pos h1, if_neg (by omega), Nat.add_zero]
    · rw [if_neg h1]
      by_cases h2 : v < u
      · rw [if_pos h2, Nat.zero_add]; unfold qq; rw [hs v u]; cases r x u <;> cases r x v <;> rfl
      · obtain rfl : u = v := by omega
        rw [if_neg h2]; simp [qq, hi]
  have e3 : (sm m fun u => sm m fun v => (qq r x u v).toNat) = sm m fun u => sm m fun v => (if u < v then (qq r x u v).toNat else 0) + (if v < u then (qq r x v u).toNat else 0) := sm_congr m _ _ fun u _ => sm_congr m _ _ fun v _ => e2 u v
  rw [e3]
  simp only [sm_add]
  rw [sm_swap m m (fun u v => if v < u then (qq r x v u).toNat else 0)]
  omega
theorem l1Own_f (l : List Int) (h : l.length < 17592186044416) : spec_l1Own.f l = some l := by
  unfold spec_l1Own.f
  simp only [Option.bind_some, List.length_nil, Nat.zero_add, if_pos h, List.nil_append]
theorem mat_at (m : Nat) (r : Rel) (a b : Nat) (h : a < m) (h2 : b < m) : rdOf false (rd_L4 (mat m r) (a : Int)) (b : Int) = r a b := by
  rw [mat_row m r a h]; exact map_range_getD m _ _ b h2
theorem trKnows_l0 (m : Nat) (hm : m ≤ 12) (r : Rel) (a : Nat) (ha : a < m) (L : List Nat) (hL : ∀ x ∈ L, x < m) (hl : L.length ≤ 100) : ∀ (rest pre : List Nat), L = pre ++ rest → Ev (fun k => spec_trKnows.l0 k (mat m r) (a : Int) (ints L) (L.length : Int) (pre.length : Int)) (rest.all fun b => r a b)
  | [], pre, e => by
    have el : L.length = pre.length := by rw [e]; simp
    refine Ev.one (fun k => ?_)
    rw [spec_trKnows.l0, if_neg (by omega)]; rfl
  | b :: rest, pre, e => by
    have el : pre.length < L.length := by rw [e]; simp
    have hb : b < m := hL b (by rw [e]; simp)
    have hrd := ints_rd L pre rest b e
    have hrow : (rd_L4 (mat m r) (a : Int)).length = m := by rw [mat_row _ _ _ ha]; simp
    have ih := trKnows_l0 m hm r a ha L hL hl rest (pre ++ [b]) (by rw [e]; simp)
    rw [List.length_append, List.length_singleton] at ih
    cases hr : r a b with
    | true =>
      refine Ev.cast (Ev.step (fun k => ?_) ih) ?_
      · rw [spec_trKnows.l0, if_pos (by omega), if_pos (by omega), if_pos (by rw [ints_len]; omega), if_pos (by omega), mat_len, if_pos (by omega), hrd, if_pos (by omega), hrow, if_pos (by omega), mat_at m r a b ha hb, hr, if_pos rfl, w1 (by omega)]
      · rw [List.all_cons, hr, Bool.true_and]
    | false =>
      refine Ev.cast (a := false) (Ev.one (fun k => ?_)) ?_
      · rw [spec_trKnows.l0, if_pos (by omega), if_pos (by omega), if_pos (by rw [ints_len]; omega), if_pos (by omega), mat_len, if_pos (by omega), hrd, if_pos (by omega), hrow, if_pos (by omega), mat_at m r a b ha hb, hr, if_neg (by decide)]
      · rw [List.all_cons, hr, Bool.false_and]
theorem trKnows_ev (m : Nat) (hm : m ≤ 12) (r : Rel) (a : Nat) (ha : a < m) (L : List Nat) (hL : ∀ x ∈ L, x < m) (hl : L.length ≤ 100) : Ev (fun k => spec_trKnows.f k (mat m r) (ints L) (a : Int)) (L.all fun b => r a b) := by
  unfold spec_trKnows.f
  rw [ints_len]
  exact trKnows_l0 m hm r a ha L hL hl L [] rfl
theorem trG_l0 (m : Nat) (hm : m ≤ 12) (r : Rel) : ∀ (e d a : Nat) (cs : List Nat) (acc : List (List Int)), a + e = m → (∀ x ∈ cs, x < m) → cs.length + e + d ≤ 60 → acc.length + 2 ^ e ≤ 5000000 →
    Ev (fun k => spec_trGroups.l0 k (mat m r) (ints cs) ((cs.length + (d + 1) : Nat) : Int) acc (a : Int)) (acc ++ (gr r e (d + 1) cs a).map ints)
  | 0, d, a, cs, acc, ha, hcs, hd, hacc => by
    refine Ev.one (fun k => ?_)
    rw [spec_trGroups.l0, mat_len, if_neg (by omega), gr_none, List.map_nil, List.append_nil]
  | e + 1, d, a, cs, acc, ha, hcs, hd, hacc => by
    have hk := trKnows_ev m hm r a (by omega) cs hcs (by omega)
    have h2 : 2 ^ (e + 1) = 2 ^ e + 2 ^ e := by rw [Nat.pow_succ]; omega
    rw [gr_succ]
    refine Ev.step (f := fun k => (spec_trKnows.f k (mat m r) (ints cs) (a : Int)).bind fun t132 => (if t132 = true then ((spec_l1Own.f (ints cs)).bind fun t133 => (if t133.length < 17592186044416 then ((spec_trGroups.f k (mat m r) (t133 ++ [(a : Int)]) ((cs.length + (d + 1) : Nat) : Int)).bind fun t139 => (if acc.length + t139.length < 5864062014805 then (spec_trGroups.l0 k (mat m r) (ints cs) ((cs.length + (d + 1) : Nat) : Int) (acc ++ t139) ((a + 1 : Nat) : Int)) else (none))) else (none))) else (spec_trGroups.l0 k (mat m r) (ints cs) ((cs.length + (d + 1) : Nat) : Int) acc ((a + 1 : Nat) : Int)))) (fun k => ?_) ?_
    · rw [spec_trGroups.l0, mat_len, if_pos (by omega), w1 (by omega)]
    refine Ev.bind hk ?_
    cases hq : cs.all (fun b => r a b) with
    | true =>
      have hcs' : ∀ x ∈ cs ++ [a], x < m := fun x hx => by
        rcases List.mem_append.1 hx with hx | hx
        · exact hcs x hx
        · rw [List.mem_singleton.1 hx]; omega
      have hF : Ev (fun k => spec_trGroups.f k (mat m r) (ints cs ++ [(a : Int)]) ((cs.length + (d + 1) : Nat) : Int)) ((gr r e d (cs ++ [a]) (a + 1)).map ints) := by
        have hi : ints cs ++ [(a : Int)] = ints (cs ++ [a]) := by simp [ints]
        have hlen : (ints (cs ++ [a])).length = cs.length + 1 := by rw [ints_len, List.length_append, List.length_singleton]
        rw [hi]
        cases d with
        | zero =>
          refine Ev.one (fun k => ?_)
          rw [spec_trGroups.f, if_pos (by rw [hlen]), l1Own_f _ (by rw [hlen]; omega), gr_zero]; rfl
        | succ d =>
          have ih := trG_l0 m hm r e d (a + 1) (cs ++ [a]) [] (by omega) hcs' (by rw [List.length_append, List.length_singleton]; omega) (by simp only [List.length_nil]; omega)
          rw [List.length_append, List.length_singleton, show cs.length + 1 + (d + 1) = cs.length + (d + 1 + 1) by omega, List.nil_append] at ih
          refine Ev.step (f := fun k => spec_trGroups.j0 k (mat m r) (ints (cs ++ [a])) ((cs.length + (d + 1 + 1) : Nat) : Int) ((a + 1 : Nat) : Int)) (fun k => ?_) (Ev.step (fun k => by rw [spec_trGroups.j0]) ih)
          have hw : wrap64 (((cs.length + 1 : Nat) : Int) - 1) = (cs.length : Int) := by rw [w64 (by omega) (by omega)]; omega
          rw [spec_trGroups.f, hlen, if_neg (by omega), if_pos (by omega), hw, if_pos (by omega), if_pos (by omega), ints_rd _ cs [] a rfl, w1 (by omega)]
      have ih := trG_l0 m hm r e d (a + 1) cs (acc ++ (gr r e d (cs ++ [a]) (a + 1)).map ints) (by omega) hcs (by omega) (by
        have := gr_len r e d (cs ++ [a]) (a + 1)
        rw [List.length_append, List.length_map]; omega)
      have hg := gr_len r e d (cs ++ [a]) (a + 1)
      simp only [if_true]
      rw [l1Own_f _ (by rw [ints_len]; omega)]
      simp only [Option.bind_some, if_pos (show (ints cs).length < 17592186044416 by rw [ints_len]; omega)]
      refine Ev.bind hF ?_
      simp only [List.length_map, if_pos (show acc.length + (gr r e d (cs ++ [a]) (a + 1)).length < 5864062014805 by omega)]
      rw [List.map_append, ← List.append_assoc]
      exact ih
    | false =>
      simp only [Bool.false_eq_true, if_false, List.nil_append]
      exact trG_l0 m hm r e d (a + 1) cs acc (by omega) hcs (by omega) (Nat.le_trans (Nat.add_le_add_left (by rw [h2]; exact Nat.le_add_left _ _) _) hacc)
theorem trGroups_ev (m : Nat) (hm : m ≤ 12) (r : Rel) (size : Nat) (hs : size ≤ 40) : Ev (fun k => spec_trGroups.f k (mat m r) [] (size : Int)) ((gr r m size [] 0).map ints) := by
  cases size with
  | zero =>
    refine Ev.one (fun k => ?_)
    rw [spec_trGroups.f, if_pos (by rfl), l1Own_f _ (by simp), gr_zero]; rfl
  | succ d =>
    have ih := trG_l0 m hm r m d 0 [] [] (by omega) (fun x hx => by cases hx) (by simp only [List.length_nil]; omega) (by
      have : 2 ^ m ≤ 2 ^ 12 := Nat.pow_le_pow_right (by decide) hm
      simp only [List.length_nil]; omega)
    simp only [List.length_nil, Nat.zero_add, List.nil_append] at ih
    refine Ev.step (f := fun k => spec_trGroups.j0 k (mat m r) (ints []) ((d + 1 : Nat) : Int) ((0 : Nat) : Int)) (fun k => ?_) (Ev.step (fun k => by rw [spec_trGroups.j0]) ih)
    rw [spec_trGroups.f, if_neg (by simp only [List.length_nil]; omega), if_neg (by simp)]
    rfl

theorem ThreesAt_common (n : Int) (l : List S68) (a : Int) (w : (Lit.int .i64 n).wf = true) (hl : l.length ≤ 1048576) (wa : (Lit.int .i64 a).wf = true) : ∃ R : Int × Bool, Ev (fun k => spec_ThreesAt.f k n l a) R ∧ Ev (fun k => impl_ThreesAt.f k n l a) R := by
  have hi := arePeople1_ev n l hl a
  have hg' := paGood_ev n l (by omega)
  cases h : person1 n l a with
  | true =>
    have h' := h
    unfold person1 at h'
    simp only [Bool.and_eq_true] at h'
    obtain ⟨hg, h1⟩ := h'
    rw [h] at hi
    rw [hg] at hg'
    obtain ⟨m, rfl, hm, hn, _⟩ := good_nat hg
    obtain ⟨x, rfl, hx⟩ := isPerson_nat h1
    refine ⟨(((gr (hasP l) m 3 [] 0).countP (fun cs => cs.contains x) : Nat), true), ?_, ?_⟩
    · unfold spec_ThreesAt.f
      refine Ev.bind hg' ?_
      simp only [if_true, paHas_f m hm, h1, Option.bind_some, Bool.not_true]
      refine Ev.step (fun k => by rw [spec_ThreesAt.j0, if_neg (by decide)]) ?_
      refine Ev.bind (paTable_ev m hm l (by omega) hn) ?_
      refine Ev.bind (trGroups_ev m hm (hasP l) 3 (by omega)) ?_
      have := specThreesAt_l0 x (gr (hasP l) m 3 [] 0) (by have := gr_len12 m hm (hasP l) 3 [] 0; omega) (fun cs hcs => by have := gr_mem_len (hasP l) m 3 [] 0 cs hcs; simp only [List.length_nil] at this; omega) _ [] 0 rfl (by simp)
      rw [List.length_map]
      refine Ev.cast this ?_
      rw [Nat.zero_add]
    · unfold impl_ThreesAt.f
      refine Ev.bind hi ?_
      simp only [if_true]
      refine Ev.bind (table_ev m hm l (by omega) hn) ?_
      simp only [if_pos (show (0 : Int) ≤ (x : Int) by omega), tab_len, if_pos (show (x : Int) < (m : Int) by omega), tab_at m (hasP l) x hx]
      refine Ev.bind (listed_ev _ (bitsOf_u16 m hm _)) ?_
      rw [lst_bitsOf m hm, ints_len]
      have := threesAt_l0 m hm (hasP l) x hx ((List.range m).filter (hasP l x)) (fun b hb => by have := List.mem_filter.1 hb; exact List.mem_range.1 this.1) (friends_len m hm _) _ [] 0 rfl (by simp)
      refine Ev.cast this ?_
      have e1 : (((List.range m).filter (hasP l x)).map fun b => cnt m (fun i => hasP l x i && hasP l b i)).sum = sm m fun u => sm m fun v => (qq (hasP l) x u v).toNat := by
        rw [filter_sum]
        refine sm_congr m _ _ fun u hu => ?_
        rw [cnt_sm, ← sm_if]
        refine sm_congr m _ _ fun v hv => ?_
        unfold qq
        cases hasP l x u <;> cases hasP l x v <;> cases hasP l u v <;> rfl
      rw [e1, threes_half m (hasP l) (hasP_symm l) (hasP_irrefl m l hn) x hx]
      congr 2; omega
  | false =>
    rw [h] at hi
    refine ⟨(0, false), ?_, ?_⟩
    · unfold spec_ThreesAt.f
      refine Ev.bind hg' ?_
      cases hg : good n l with
      | true =>
        obtain ⟨m, rfl, hm, hn, _⟩ := good_nat hg
        have h1 : isPerson (m : Int) a = false := by unfold person1 at h; rw [hg] at h; simpa using h
        simp only [if_true, paHas_f m hm, h1, Option.bind_some, Bool.not_false]
        exact Ev.one fun k => by rw [spec_ThreesAt.j0, if_pos rfl]
      | false =>
        simp only [Bool.false_eq_true, if_false]
        exact Ev.one fun k => by rw [spec_ThreesAt.j0, if_pos rfl]
    · unfold impl_ThreesAt.f
      refine Ev.bind hi ?_
      simp only [Bool.false_eq_true, if_false]
      exact Ev.now _

def conv (l : List S75) : List S68 := l.map fun x => ⟨x.f0, x.f1⟩
theorem conv_len (l : List S75) : (conv l).length = l.length := by simp [conv]
theorem eqPairS_l0 (l : List S68) (hl : l.length < 4611686018427387904) : ∀ (d i : Nat), i + d = l.length → Ev (fun k => laws_eqPairS.l0 k l l i) true
  | 0, i, hd => by
    refine Ev.one (fun k => ?_)
    rw [laws_eqPairS.l0, if_neg (by omega)]
  | d + 1, i, hd => by
    refine Ev.step (fun k => ?_) (eqPairS_l0 l hl d (i + 1) (by omega))
    rw [laws_eqPairS.l0, if_pos (by omega), if_pos (by omega), if_pos (by omega), laws_eqPair.f, if_pos rfl, if_pos rfl, w1 (by omega)]
    rfl
theorem eqParty_self (a : Int) (l : List S68) (hl : l.length < 4611686018427387904) : Ev (fun k => laws_eqParty.f k a l a l) true := by
  unfold laws_eqParty.f laws_eqPairS.f
  simp only [if_true]
  have h : Ev (fun k => laws_eqPairS.l0 k l l 0) true := by simpa using eqPairS_l0 l hl l.length 0 (by omega)
  refine Ev.bind h ?_
  simp only [if_true]
  exact Ev.now _

theorem szParty_f (a0 : Int) (l : List S75) (a1 : Int) (h0 : 0 ≤ a1) (h1 : a1 ≤ 1048576) (hl : l.length ≤ maxLen) : laws_szParty.f a0 l a1 = some (if a1 - l.length < 0 then -1 else a1 - l.length) := by
  unfold maxLen at hl
  unfold laws_szParty.f laws_szPairS.f
  rw [w64 (by omega) (by omega)]
  by_cases h : a1 - l.length < 0
  · simp [h]
  · simp [h]
theorem getD_of_get {α : Type} (l : List α) (i : Nat) (d x : α) (h : l[i]? = some x) : l.getD i d = x := by rw [List.getD_eq_getElem?_getD, h]; rfl
theorem toPairS_l0 (l : List S75) (hl : l.length < 4611686018427387904) : ∀ (d i : Nat) (y : List S68), i + d = l.length → y.length = l.length → (∀ j, j < i → y[j]? = (conv l)[j]?) → Ev (fun k => laws_toPairS.l0 k l y i) (conv l)
  | 0, i, y, hd, hy, h => by
    refine Ev.one (fun k => ?_)
    have e : y = conv l := by
      apply List.ext_getElem?
      intro j
      by_cases hj : j < i
      · exact h j hj
      · rw [List.getElem?_eq_none (by omega), List.getElem?_eq_none (by rw [conv_len]; omega)]
    rw [laws_toPairS.l0, if_neg (by omega), e]
  | d + 1, i, y, hd, hy, h => by
    have hi : i < l.length := by omega
    have hx : rd_T75 l (i : Int) = l[i] := getD_of_get l i _ _ (List.getElem?_eq_getElem hi)
    refine Ev.step (fun k => ?_) (toPairS_l0 l hl d (i + 1) (y.set i ⟨l[i].f0, l[i].f1⟩) (by omega) (by simpa using hy) ?_)
    · rw [laws_toPairS.l0, if_pos (by omega), if_pos (by omega), hx, laws_toPair.f]
      simp only [Option.bind_some]
      rw [if_pos (by omega), w1 (by omega)]
      rfl
    · intro j hj
      rw [List.getElem?_set]
      by_cases e : i = j
      · subst e
        have hiy : i < y.length := by omega
        simp [conv, hi, hiy]
      · rw [if_neg e]; exact h j (by omega)
theorem toPairS_ev (l : List S75) (hl : l.length ≤ 17592186044416) : Ev (fun k => laws_toPairS.f k l) (conv l) := by
  unfold laws_toPairS.f
  simp only [if_pos (show (0 : Int) ≤ (l.length : Int) by omega), if_pos (show ((l.length : Int) : Int).toNat ≤ 17592186044416 by simpa using hl)]
  exact toPairS_l0 l (by omega) l.length 0 _ (by omega) (by simp) (fun j hj => absurd hj (Nat.not_lt_zero _))
theorem toParty_ev (a : Int) (l : List S75) (hl : l.length ≤ 17592186044416) : Ev (fun k => laws_toParty.f k a l) (a, conv l) := by
  unfold laws_toParty.f
  exact Ev.bind (toPairS_ev l hl) (Ev.now _)
theorem FnExactThreesAt : ∀ (a0 : Int) (l0 : List S75) (a1 : Int), (Lit.int .i64 a0).wf = true → l0.length ≤ maxLen → (∀ x ∈ l0, ∃ m n : Int, x = ⟨m, n⟩ ∧ (Lit.int .i64 m).wf = true ∧ (Lit.int .i64 n).wf = true) → (Lit.int .i64 a1).wf = true → ∃ k, laws_FnExactThreesAt.f k a0 l0 a1 = some true := by
  intro a0 l0 a1 w0 hm0 hw0 w1
  refine Ev.rounds ?_
  unfold laws_FnExactThreesAt.f
  simp only [szParty_f a0 l0 1048576 (by omega) (by omega) hm0, Option.bind_some]
  by_cases hg0 : 1048576 - (l0.length : Int) < 0
  · simp only [if_pos hg0, show ((-1 : Int) < 0) from by decide, if_true]; exact Ev.now _
  simp only [if_neg hg0]
  have hlen0 : l0.length ≤ 1048576 := by omega
  have hcl0 := conv_len l0
  obtain ⟨R, hs, hi⟩ := ThreesAt_common a0 (conv l0) a1 w0 (by rw [conv_len]; omega) w1
  refine Ev.bind (toParty_ev a0 l0 (by omega)) ?_
  refine Ev.bind hs ?_
  try simp only [if_true, if_false, bne_self_eq_false, Bool.false_eq_true, ↓reduceIte, decide_true]
  refine Ev.bind (toParty_ev a0 l0 (by omega)) ?_
  refine Ev.bind hi ?_
  try simp only [if_true, if_false, bne_self_eq_false, Bool.false_eq_true, ↓reduceIte, decide_true]
  try simp only [if_true, if_false, bne_self_eq_false, Bool.false_eq_true, ↓reduceIte, decide_true]
  refine Ev.step (fun k => rfl) ?_
  simp only [laws_FnExactThreesAt.j0]
  try simp only [if_true, if_false, bne_self_eq_false, Bool.false_eq_true, ↓reduceIte, decide_true]
  refine Ev.bind (toParty_ev a0 l0 (by omega)) ?_
  refine Ev.bind (eqParty_self a0 (conv l0) (by omega)) ?_
  try simp only [if_true, if_false, bne_self_eq_false, Bool.false_eq_true, ↓reduceIte, decide_true]
  exact Ev.now _
end Go.Proofs.YtialimbdkokdcaaDoor.Pure
