/- The program's CountForks returns what the reference's returns, for all arguments (the plain statement behind the printed walk); no condition. -/
import Derived.Test.YtiopgbpjkjnphaaPx0
import Derived.Test.YtiopgbpjkjnphaaPx1
import Derived.Test.YtiopgbpjkjnphaaPx18
import Derived.Test.YtiopgbpjkjnphaaPx19
import Derived.Test.YtiopgbpjkjnphaaPx2
import Derived.Test.YtiopgbpjkjnphaaPx24
import Derived.Test.YtiopgbpjkjnphaaPx26
import Derived.Test.YtiopgbpjkjnphaaPx3
import Derived.Test.YtiopgbpjkjnphaaPx5
import Derived.Test.YtiopgbpjkjnphaaPx6
namespace Go.Proofs.Ytiopgbpjkjnphaa.Pure
open Go.RowKit Go.Proofs.Ytiopgbpjkjnphaa.P Go.Proofs.YtiopgbpjkjnphaaW.PrintWords Go.Proofs.YtiopgbpjkjnphaaW.PrintLast
set_option linter.unusedSimpArgs false
set_option linter.unusedVariables false
def crowd (n : Int) : Bool := decide (0 ≤ n ∧ n ≤ 12)
def lt2 (p q : S61) : Bool := decide (p.f0 < q.f0) || (decide (p.f0 = q.f0) && decide (p.f1 < q.f1))
def okPrev : Option S61 → S61 → Bool
  | none, _ => true
  | some p, x => lt2 p x
def okFrom (n : Int) : Option S61 → List S61 → Bool
  | _, [] => true
  | prev, x :: xs => (decide (0 ≤ x.f0) && (decide (x.f0 < x.f1) && (decide (x.f1 < n) && okPrev prev x))) && okFrom n (some x) xs
def good (n : Int) (l : List S61) : Bool := crowd n && okFrom n none l
def natPairs (m : Nat) (l : List S61) : Prop := ∀ x ∈ l, ∃ a b : Nat, x = ⟨(a : Int), (b : Int)⟩ ∧ a < b ∧ b < m
theorem okFrom_nat (m : Nat) : ∀ (l : List S61) (p : Option S61), okFrom (m : Int) p l = true → natPairs m l
  | [], _, _ => fun x hx => by simp at hx
  | x :: xs, p, h => by
    simp only [okFrom, Bool.and_eq_true, decide_eq_true_eq] at h
    obtain ⟨⟨h0, h1, h2, _⟩, h3⟩ := h
    intro y hy
    rcases List.mem_cons.1 hy with rfl | hy
    · refine ⟨y.f0.toNat, y.f1.toNat, ?_, by omega, by omega⟩
      rw [Int.toNat_of_nonneg h0, Int.toNat_of_nonneg (by omega)]
    · exact okFrom_nat m xs _ h3 y hy
theorem good_nat {n : Int} {l : List S61} (h : good n l = true) : ∃ m : Nat, n = (m : Int) ∧ m ≤ 12 ∧ natPairs m l ∧ okFrom (m : Int) none l = true := by
  unfold good crowd at h
  simp only [Bool.and_eq_true, decide_eq_true_eq] at h
  obtain ⟨⟨h0, h1⟩, h2⟩ := h
  obtain ⟨m, rfl⟩ := Int.eq_ofNat_of_zero_le h0
  exact ⟨m, rfl, by omega, okFrom_nat m l none h2, h2⟩
abbrev Rel := Nat → Nat → Bool
def hasP (l : List S61) : Rel := fun a b => l.any fun x => (x.f0 == (a : Int) && x.f1 == (b : Int)) || (x.f0 == (b : Int) && x.f1 == (a : Int))
theorem Ev.one {α : Type} {g : Nat → Option α} {r : α} (h : ∀ k, g (k + 1) = some r) : Ev g r := Ev.step h (Ev.now r)
def ch2 (m : Nat) : Int := [0, 0, 1, 3, 6, 10, 15, 21, 28, 36, 45, 55, 66].getD m 0
theorem ch2_impl8 (m : Nat) (hm : m ≤ 12) : impl_choose.f 8 (m : Int) 2 = some (ch2 m) := by
  have : m = 0 ∨ m = 1 ∨ m = 2 ∨ m = 3 ∨ m = 4 ∨ m = 5 ∨ m = 6 ∨ m = 7 ∨ m = 8 ∨ m = 9 ∨ m = 10 ∨ m = 11 ∨ m = 12 := by omega
  rcases this with rfl | rfl | rfl | rfl | rfl | rfl | rfl | rfl | rfl | rfl | rfl | rfl | rfl <;> (show _ = _; kernel_rfl)
theorem ch2_impl (m : Nat) (hm : m ≤ 12) : Ev (fun k => impl_choose.f k (m : Int) 2) (ch2 m) := Ev.of (fun k => impl_choose.mono _ _ k) (ch2_impl8 m hm)
def forkOf (s d : Int) : Int := wrap64 (s + ch2 d.toNat)
theorem rd_mid (pre rest : List Int) (x : Int) : rd (pre ++ x :: rest) (pre.length : Int) = x := by
  unfold rd
  simp [List.getD_eq_getElem?_getD]
theorem w1 {n : Nat} (h : n < 4611686018427387904) : wrap64 ((n : Int) + 1) = ((n + 1 : Nat) : Int) := by unfold wrap64; omega
theorem implFork_l0 (L : List Int) (hL : L.length ≤ 12) (ok : Bool) (hb : ∀ x ∈ L, ∃ d : Nat, x = (d : Int) ∧ d ≤ 12) : ∀ (rest pre : List Int) (s : Int), L = pre ++ rest → Ev (fun k => impl_CountForks.l0 k ok s L (L.length : Int) (pre.length : Int)) (rest.foldl forkOf s, ok)
  | [], pre, s, e => by
    have el : L.length = pre.length := by rw [e]; simp
    refine Ev.one (fun k => ?_)
    rw [impl_CountForks.l0, if_neg (by omega)]; rfl
  | x :: rest, pre, s, e => by
    have el : pre.length < L.length := by rw [e]; simp
    have hx : rd L (pre.length : Int) = x := by rw [e]; exact rd_mid pre rest x
    obtain ⟨d, rfl, hd⟩ := hb x (by rw [e]; simp)
    have ih := implFork_l0 L hL ok hb rest (pre ++ [(d : Int)]) (forkOf s (d : Int)) (by rw [e]; simp)
    rw [List.length_append, List.length_singleton] at ih
    refine Ev.step (f := fun k => (impl_choose.f k (d : Int) 2).bind fun t => impl_CountForks.l0 k ok (wrap64 (s + t)) L (L.length : Int) ((pre.length + 1 : Nat) : Int)) (fun k => ?_) (Ev.bind (ch2_impl d hd) ih)
    rw [impl_CountForks.l0, if_pos (by omega), if_pos (by omega), if_pos (by omega), hx, w1 (by omega)]
theorem Ev.cast {α : Type} {g : Nat → Option α} {a b : α} (h : Ev g a) (e : a = b) : Ev g b := e ▸ h
theorem within_f (a lo hi : Int) : impl_within.f a lo hi = some (decide (lo ≤ a) && decide (a ≤ hi)) := by
  unfold impl_within.f
  by_cases h : lo ≤ a
  · rw [if_pos h]; simp [h]
  · rw [if_neg h]; simp [h]
theorem areCrowd_f (a : Int) : impl_areCrowd.f a = some (decide (0 ≤ a ∧ a ≤ 12)) := by
  unfold impl_areCrowd.f
  rw [within_f]; simp [Bool.decide_and]
def cmp3 (a b : Int) : Int := if a < b then -1 else if a > b then 1 else 0
def cmpP (p q : S61) : Int := if cmp3 p.f0 q.f0 = 0 then cmp3 p.f1 q.f1 else cmp3 p.f0 q.f0
theorem cmpP_neg (p q : S61) : decide (cmpP p q ≥ 0) = !lt2 p q := by
  unfold cmpP cmp3 lt2
  by_cases h1 : p.f0 < q.f0
  · simp [h1]
  · by_cases h2 : p.f0 > q.f0
    · have h3 : ¬ p.f0 = q.f0 := by omega
      simp [h1, h2, h3]
    · have h3 : p.f0 = q.f0 := by omega
      by_cases h4 : p.f1 < q.f1
      · simp [h3, h4]
      · by_cases h5 : p.f1 > q.f1
        · simp [h3, h4, h5]
        · simp [h3, h4, h5]
theorem cmpOr_ev (a b : Int) : Ev (fun k => cmp_Or_int.f k [a, b]) (if a = 0 then b else a) := by
  refine ⟨3, fun k hk => ?_⟩
  obtain ⟨k, rfl⟩ : ∃ m, k = m + 3 := ⟨k - 3, by omega⟩
  have e1 : wrap64 (0 + 1) = 1 := by unfold wrap64; omega
  have e2 : wrap64 (1 + 1) = 2 := by unfold wrap64; omega
  have r0 : rd [a, b] 0 = a := rfl
  have r1 : rd [a, b] 1 = b := rfl
  simp only [cmp_Or_int.f, cmp_Or_int.l0, List.length_cons, List.length_nil, r0, r1, e1, e2]
  by_cases h : a = 0
  · by_cases h2 : b = 0
    · simp [h, h2]
    · simp [h, h2]
  · simp [h]
theorem compare_f (a b : Int) : cmp_Compare_int.f a b = some (cmp3 a b) := by
  unfold cmp_Compare_int.f cmp_isNaN_int.f cmp3
  simp
  by_cases h : a < b
  · simp [h]
  · by_cases h2 : a > b
    · simp [h, h2]
    · simp [h, h2]
theorem comparePairs_ev (p q : S61) : Ev (fun k => impl_comparePairs.f k p.f0 p.f1 q.f0 q.f1) (cmpP p q) := by
  unfold impl_comparePairs.f
  simp only [compare_f, Option.bind_some]
  exact Ev.bind (cmpOr_ev _ _) (Ev.now _)
theorem rdT_mid (pre rest : List S61) (x : S61) : rd_T61 (pre ++ x :: rest) (pre.length : Int) = x := by
  unfold rd_T61
  simp [List.getD_eq_getElem?_getD]
theorem w64 {i : Int} (h0 : -9223372036854775808 ≤ i) (h : i ≤ 9223372036854775807) : wrap64 i = i := by unfold wrap64; omega
theorem implIsParty_l0 (n : Int) (l : List S61) (hl : l.length < 4611686018427387904) : ∀ (rest pre : List S61), l = pre ++ rest → Ev (fun k => impl_IsParty.l0 k l (l.length : Int) (pre.length : Int) n l) (okFrom n pre.getLast? rest && crowd n)
  | [], pre, h => by
    refine Ev.one (fun k => ?_)
    have e : l.length = pre.length := by rw [h]; simp
    rw [impl_IsParty.l0, if_neg (by omega), areCrowd_f]
    simp [okFrom, crowd]
  | x :: rest, pre, h => by
    have hlen : pre.length < l.length := by rw [h]; simp
    have hx : rd_T61 l (pre.length : Int) = x := by rw [h]; exact rdT_mid pre rest x
    have ih := implIsParty_l0 n l hl rest (pre ++ [x]) (by rw [h]; simp)
    rw [List.getLast?_concat, List.length_append, List.length_singleton] at ih
    by_cases c1 : x.f0 < 0
    · refine Ev.one (fun k => ?_)
      rw [impl_IsParty.l0, if_pos (by omega), if_pos (by omega), if_pos (by omega), hx, if_pos c1]
      have : decide (0 ≤ x.f0) = false := by simp; omega
      simp [okFrom, this]
    by_cases c2 : x.f0 ≥ x.f1
    · refine Ev.one (fun k => ?_)
      rw [impl_IsParty.l0, if_pos (by omega), if_pos (by omega), if_pos (by omega), hx, if_neg c1, if_pos c2]
      have : decide (x.f0 < x.f1) = false := by simp; omega
      simp [okFrom, this]
    by_cases c3 : x.f1 ≥ n
    · refine Ev.one (fun k => ?_)
      rw [impl_IsParty.l0, if_pos (by omega), if_pos (by omega), if_pos (by omega), hx, if_neg c1, if_neg c2, if_pos c3]
      have : decide (x.f1 < n) = false := by simp; omega
      simp [okFrom, this]
    have d1 : decide (0 ≤ x.f0) = true := by simp; omega
    have d2 : decide (x.f0 < x.f1) = true := by simp; omega
    have d3 : decide (x.f1 < n) = true := by simp; omega
    rcases List.eq_nil_or_concat pre with rfl | ⟨q, p, rfl⟩
    · refine Ev.cast (Ev.step (fun k => ?_) ih) ?_
      · rw [impl_IsParty.l0, if_pos (by omega), if_pos (by omega), if_pos (by omega), hx, if_neg c1, if_neg c2, if_neg c3, if_neg (by simp), w1 (by simp)]
      · simp [okFrom, d1, d2, d3, okPrev]
    · rw [List.concat_eq_append] at hlen hx ih h ⊢
      have hp : rd_T61 l (q.length : Int) = p := by rw [h, List.append_assoc]; exact rdT_mid q (x :: rest) p
      have hq : (q ++ [p]).length = q.length + 1 := by simp
      rw [hq] at hlen hx ih ⊢
      refine Ev.step (f := fun k => (impl_comparePairs.f k p.f0 p.f1 x.f0 x.f1).bind fun t => if t ≥ 0 then some false else impl_IsParty.l0 k l (l.length : Int) ((q.length + 1 + 1 : Nat) : Int) n l) (fun k => ?_) (Ev.bind (comparePairs_ev p x) ?_)
      · rw [impl_IsParty.l0, if_pos (by omega), if_pos (by omega), if_pos (by omega), hx, if_neg c1, if_neg c2, if_neg c3, if_pos (by omega), w64 (i := ((q.length + 1 : Nat) : Int) - 1) (by omega) (by omega), show ((q.length + 1 : Nat) : Int) - 1 = (q.length : Int) by omega, if_pos (by omega), if_pos (by omega), hp, w1 (by omega)]
      · have hc := cmpP_neg p x
        rw [List.getLast?_concat]
        by_cases hlt : lt2 p x = true
        · have c4 : ¬ cmpP p x ≥ 0 := by rw [hlt] at hc; simpa using hc
          simp only [if_neg c4]
          refine Ev.cast ih ?_
          simp [okFrom, d1, d2, d3, okPrev, hlt]
        · have hlt' : lt2 p x = false := by simpa using hlt
          have c4 : cmpP p x ≥ 0 := by rw [hlt'] at hc; simpa using hc
          simp only [if_pos c4]
          refine Ev.cast (Ev.now _) ?_
          simp [okFrom, okPrev, hlt']
theorem implIsParty_ev (n : Int) (l : List S61) (hl : l.length < 4611686018427387904) : Ev (fun k => impl_IsParty.f k n l) (good n l) := by
  unfold impl_IsParty.f
  have := implIsParty_l0 n l hl l [] rfl
  rw [Bool.and_comm] at this
  exact this
def cnt : Nat → (Nat → Bool) → Nat
  | 0, _ => 0
  | m + 1, f => cnt m f + (f m).toNat
/-! ### tables of bits -/
def bitsOf : Nat → (Nat → Bool) → Nat
  | 0, _ => 0
  | m + 1, f => bitsOf m f + (f m).toNat * 2 ^ m
theorem bitsOf_lt : ∀ (m : Nat) (f : Nat → Bool), bitsOf m f < 2 ^ m
  | 0, _ => by simp [bitsOf]
  | m + 1, f => by
    have := bitsOf_lt m f
    have h2 : (f m).toNat * 2 ^ m ≤ 2 ^ m := by cases f m <;> simp
    rw [bitsOf, Nat.pow_succ]; omega
theorem cnt_add (a : Nat) (f : Nat → Bool) : ∀ b, cnt (a + b) f = cnt a f + cnt b (fun i => f (a + i))
  | 0 => rfl
  | b + 1 => by
    show cnt (a + b) f + (f (a + b)).toNat = _
    rw [cnt_add a f b, cnt]; omega
theorem cnt_congr (m : Nat) (f g : Nat → Bool) (h : ∀ i, i < m → f i = g i) : cnt m f = cnt m g := by
  induction m with
  | zero => rfl
  | succ m ih => rw [cnt, cnt, ih (fun i hi => h i (by omega)), h m (by omega)]
theorem cnt_false : ∀ k, cnt k (fun _ => false) = 0
  | 0 => rfl
  | k + 1 => by rw [cnt, cnt_false k]; rfl
theorem cnt_le : ∀ (m : Nat) (f : Nat → Bool), cnt m f ≤ m
  | 0, _ => Nat.le_refl _
  | m + 1, f => by
    have := cnt_le m f
    have h2 : (f m).toNat ≤ 1 := by cases f m <;> simp
    rw [cnt]; omega
theorem cnt_pad (m : Nat) (f : Nat → Bool) : ∀ d, cnt (m + d) (fun i => decide (i < m) && f i) = cnt m f
  | 0 => cnt_congr m _ _ fun i hi => by simp [hi]
  | d + 1 => by
    show cnt (m + d) _ + _ = _
    rw [cnt_pad m f d]
    have : ¬ m + d < m := by omega
    simp [this]
def hiOk : Bool := (List.range 16).all fun h => decide (bits_OnesCount16.f ((h * 256 : Nat) : Int) = some ((cnt 8 (Nat.testBit h) : Nat) : Int))
theorem hiOk_true : hiOk = true := by kernel_rfl
def loOk : Bool := (List.range 256).all fun l => decide (bits_OnesCount16.f (l : Int) = some ((cnt 8 (Nat.testBit l) : Nat) : Int))
theorem loOk_true : loOk = true := by kernel_rfl
def onesG (T : ByteArray) (a0 : Int) : Option Int := if 0 ≤ (a0 / 256) then (if (a0 / 256) < 256 then (if 0 ≤ (Go.bits .and .u16 a0 255) then (if (Go.bits .and .u16 a0 255) < 256 then (some (((bt T (a0 / 256)) + (bt T (Go.bits .and .u16 a0 255))) % 256)) else (none)) else (none)) else (none)) else (none)
theorem wraps_u16 (n : Int) (h0 : 0 ≤ n) (h1 : n < 2 ^ 16) : IntKind.u16.wrap n = n := by
  simp [IntKind.wrap, IntKind.bits, IntKind.signed]; omega
theorem onesG_at (T : ByteArray) (h l : Nat) (hh : h < 256) (hl : l < 256) : onesG T ((h * 256 + l : Nat) : Int) = some ((bt T (h : Int) + bt T (l : Int)) % 256) := by
  have e1 : ((h * 256 + l : Nat) : Int) / 256 = (h : Int) := by omega
  have e2 : Go.bits .and .u16 ((h * 256 + l : Nat) : Int) 255 = (l : Int) := by
    have := bits_mask .u16 16 (by decide) wraps_u16 8 (by decide) ((h * 256 + l : Nat) : Int) (by omega) (by omega)
    rw [show ((2 : Int) ^ 8 - 1) = 255 by decide] at this
    rw [this]; omega
  unfold onesG
  rw [e1, e2, if_pos (by omega), if_pos (by omega), if_pos (by omega), if_pos (by omega)]
theorem onesG_of : ∃ T : ByteArray, ∀ a, bits_OnesCount16.f a = onesG T a := ⟨_, fun a => rfl⟩
theorem testBit_bitsOf : ∀ (m : Nat) (f : Nat → Bool) (i : Nat), (bitsOf m f).testBit i = (decide (i < m) && f i)
  | 0, f, i => by simp [bitsOf]
  | m + 1, f, i => by
    have ih := testBit_bitsOf m f
    by_cases hi : i < m
    · have h1 : i < m + 1 := by omega
      cases hf : f m with
      | false => simp [bitsOf, hf, ih i, hi, h1]
      | true => rw [bitsOf, hf, Bool.toNat_true, Nat.one_mul, Nat.add_comm, Nat.testBit_two_pow_add_gt hi, ih i]; simp [hi, h1]
    · by_cases e : i = m
      · subst e
        cases hf : f i with
        | false => simp [bitsOf, hf, ih i]
        | true => rw [bitsOf, hf, Bool.toNat_true, Nat.one_mul, Nat.add_comm, Nat.testBit_two_pow_add_eq, ih i]; simp
      · have h1 : ¬ i < m + 1 := by omega
        rw [Nat.testBit_lt_two_pow (Nat.lt_of_lt_of_le (bitsOf_lt (m + 1) f) (Nat.pow_le_pow_right (by decide) (by omega)))]
        simp [h1]
theorem onesCount_f (m : Nat) (hm : m ≤ 12) (f : Nat → Bool) : bits_OnesCount16.f ((bitsOf m f : Nat) : Int) = some ((cnt m f : Nat) : Int) := by
  have hx : bitsOf m f < 4096 := Nat.lt_of_lt_of_le (bitsOf_lt m f) (Nat.le_trans (Nat.pow_le_pow_right (by decide) hm) (by decide))
  obtain ⟨h, l, hh, hl, hhl⟩ : ∃ h l, h < 16 ∧ l < 256 ∧ bitsOf m f = h * 256 + l := ⟨bitsOf m f / 256, bitsOf m f % 256, by omega, by omega, by omega⟩
  have q1 := loOk_true
  have q2 := hiOk_true
  unfold loOk at q1
  unfold hiOk at q2
  rw [List.all_eq_true] at q1 q2
  have f0 := of_decide_eq_true (q1 0 (List.mem_range.2 (by decide)))
  have f1 := of_decide_eq_true (q1 l (List.mem_range.2 hl))
  have f2 := of_decide_eq_true (q2 h (List.mem_range.2 hh))
  obtain ⟨T, hT⟩ := onesG_of
  rw [hT] at f0 f1 f2 ⊢
  have g0 := onesG_at T 0 0 (by omega) (by omega)
  have g1 := onesG_at T 0 l (by omega) hl
  have g2 := onesG_at T h 0 (by omega) (by omega)
  have g3 := onesG_at T h l (by omega) hl
  rw [show 0 * 256 + 0 = 0 by rfl] at g0
  rw [show 0 * 256 + l = l by omega] at g1
  rw [show h * 256 + 0 = h * 256 by omega] at g2
  rw [g0] at f0
  rw [g1] at f1
  rw [g2] at f2
  rw [hhl, g3]
  have b0 : cnt 8 (Nat.testBit 0) = 0 := by rfl
  have b1 := cnt_le 8 (Nat.testBit l)
  have b2 := cnt_le 8 (Nat.testBit h)
  simp only [Option.some.injEq] at f0 f1 f2 ⊢
  have hc : cnt m f = cnt 8 (Nat.testBit h) + cnt 8 (Nat.testBit l) := by
    obtain ⟨d, hd⟩ : ∃ d, 12 = m + d := ⟨12 - m, by omega⟩
    have e1 : cnt m f = cnt 12 (Nat.testBit (bitsOf m f)) := by
      rw [cnt_congr 12 (Nat.testBit (bitsOf m f)) (fun i => decide (i < m) && f i) (fun i _ => testBit_bitsOf m f i), hd, cnt_pad]
    have e2 : ∀ j, Nat.testBit (h * 256 + l) j = if j < 8 then l.testBit j else h.testBit (j - 8) := fun j => by
      have := Nat.testBit_two_pow_mul_add h (b := l) (i := 8) hl j
      rw [Nat.mul_comm h 256]; exact this
    have e3 : cnt 8 (Nat.testBit (h * 256 + l)) = cnt 8 (Nat.testBit l) := cnt_congr 8 _ _ fun i hi => by rw [e2, if_pos hi]
    have e4 : cnt 4 (fun i => Nat.testBit (h * 256 + l) (8 + i)) = cnt 4 (Nat.testBit h) := cnt_congr 4 _ _ fun i hi => by rw [e2, if_neg (by omega), show 8 + i - 8 = i by omega]
    have e5 : cnt 4 (fun i => Nat.testBit h (4 + i)) = 0 := by
      rw [cnt_congr 4 _ (fun _ => false) fun i hi => Nat.testBit_lt_two_pow (Nat.lt_of_lt_of_le hh (Nat.le_trans (show 16 ≤ 2 ^ 4 by decide) (Nat.pow_le_pow_right (by decide) (by omega))))]
      exact cnt_false 4
    have e6 : cnt 12 (Nat.testBit (h * 256 + l)) = _ := cnt_add 8 (Nat.testBit (h * 256 + l)) 4
    have e7 : cnt 8 (Nat.testBit h) = _ := cnt_add 4 (Nat.testBit h) 4
    rw [e1, hhl]
    omega
  rw [hc]
  omega
def tab (m : Nat) (r : Rel) : List Int := (List.range m).map fun a => ((bitsOf m (r a) : Nat) : Int)
theorem map_range_getD {α : Type} (m : Nat) (f : Nat → α) (d : α) (a : Nat) (h : a < m) : ((List.range m).map f).getD a d = f a := by simp [List.getD_eq_getElem?_getD, h]
theorem tab_at (m : Nat) (r : Rel) (a : Nat) (h : a < m) : rd (tab m r) (a : Int) = ((bitsOf m (r a) : Nat) : Int) := map_range_getD m _ _ a h
theorem tab_len (m : Nat) (r : Rel) : (tab m r).length = m := by simp [tab]
theorem number_f (m : Nat) (hm : m ≤ 12) (r : Rel) (a : Nat) (ha : a < m) : impl_table_number.f (tab m r) (a : Int) = some ((cnt m (r a) : Nat) : Int) := by
  unfold impl_table_number.f
  rw [if_pos (by omega), tab_len, if_pos (by omega), tab_at m r a ha, onesCount_f m hm]
  rfl
def numsOf (m : Nat) (r : Rel) : List Int := (List.range m).map fun a => ((cnt m (r a) : Nat) : Int)
theorem numbers_l0 (m : Nat) (hm : m ≤ 12) (r : Rel) : ∀ (d a : Nat), a + d = m → Ev (fun k => impl_table_numbers.l0 k (tab m r) ((List.range a).map fun x => ((cnt m (r x) : Nat) : Int)) (m : Int) (a : Int)) (numsOf m r)
  | 0, a, hd => by
    obtain rfl : a = m := by omega
    refine Ev.one (fun k => ?_)
    rw [impl_table_numbers.l0, if_neg (by omega)]
    rfl
  | d + 1, a, hd => by
    refine Ev.step (fun k => ?_) (numbers_l0 m hm r d (a + 1) (by omega))
    rw [impl_table_numbers.l0, if_pos (by omega), number_f m hm r a (by omega)]
    simp only [Option.bind_some]
    rw [if_pos (by simp; omega), w1 (by omega), List.range_succ, List.map_append]
    rfl
theorem numbers_ev (m : Nat) (hm : m ≤ 12) (r : Rel) : Ev (fun k => impl_table_numbers.f k (tab m r)) (numsOf m r) := by
  unfold impl_table_numbers.f
  rw [tab_len]
  exact numbers_l0 m hm r m 0 (by omega)
def numsR (n : Int) (l : List S61) : List Int × Bool := if good n l = true then (numsOf n.toNat (hasP l), true) else ([], false)
theorem hasP_nil : hasP [] = fun _ _ => false := by funext x y; rfl
theorem map_range_congr {α : Type} (m : Nat) (f g : Nat → α) (h : ∀ a, a < m → f a = g a) : (List.range m).map f = (List.range m).map g := List.map_congr_left fun a ha => h a (List.mem_range.1 ha)
theorem map_range_const {α : Type} (c : α) : ∀ m : Nat, (List.range m).map (fun _ => c) = List.replicate m c
  | 0 => rfl
  | m + 1 => by rw [List.range_succ, List.map_append, map_range_const c m, List.replicate_succ']; rfl
theorem tab_false (m : Nat) : tab m (fun _ _ => false) = List.replicate m 0 := by
  unfold tab
  rw [← map_range_const (0 : Int) m]
  refine map_range_congr m _ _ fun i hi => ?_
  have : bitsOf m (fun _ => false) = 0 := by
    apply Nat.eq_of_testBit_eq
    intro i
    rw [testBit_bitsOf]; simp
  rw [this]; rfl
theorem bitsOf_or (m : Nat) (f : Nat → Bool) (b : Nat) (hb : b < m) : bitsOf m f ||| 2 ^ b = bitsOf m fun j => if j = b then true else f j := by
  apply Nat.eq_of_testBit_eq
  intro i
  rw [Nat.testBit_or, testBit_bitsOf, testBit_bitsOf, Nat.testBit_two_pow]
  by_cases e : i = b
  · subst e; simp [hb]
  · have e' : ¬ b = i := fun h => e h.symm
    simp [e, e']
theorem bitsOf_u16 (m : Nat) (hm : m ≤ 12) (f : Nat → Bool) : bitsOf m f < 65536 :=
  Nat.lt_of_lt_of_le (bitsOf_lt m f) (Nat.le_trans (Nat.pow_le_pow_right (by decide) hm) (by decide))
theorem or16 (x y : Nat) (hx : x < 65536) (hy : y < 65536) : Go.bits .or .u16 (x : Int) (y : Int) = ((x ||| y : Nat) : Int) := (bits_nat .u16 16 (by decide) wraps_u16 x y hx hy).2
theorem pow_u16 (b : Nat) (h : b ≤ 12) : 2 ^ b < 65536 := Nat.lt_of_le_of_lt (Nat.pow_le_pow_right (by decide) h) (by decide)
theorem shl1 (b : Nat) (h : b ≤ 12) : shl .u16 1 (b : Int) = ((2 ^ b : Nat) : Int) := by
  have : b = 0 ∨ b = 1 ∨ b = 2 ∨ b = 3 ∨ b = 4 ∨ b = 5 ∨ b = 6 ∨ b = 7 ∨ b = 8 ∨ b = 9 ∨ b = 10 ∨ b = 11 ∨ b = 12 := by omega
  rcases this with rfl | rfl | rfl | rfl | rfl | rfl | rfl | rfl | rfl | rfl | rfl | rfl | rfl <;> decide
theorem bitsOf_congr (m : Nat) (f g : Nat → Bool) (h : ∀ i, i < m → f i = g i) : bitsOf m f = bitsOf m g := by
  apply Nat.eq_of_testBit_eq
  intro i
  rw [testBit_bitsOf, testBit_bitsOf]
  by_cases hi : i < m
  · simp [hi, h i hi]
  · simp [hi]
theorem tab_congr (m : Nat) (r s : Rel) (h : ∀ a b, a < m → b < m → r a b = s a b) : tab m r = tab m s := map_range_congr m _ _ fun a ha => by rw [bitsOf_congr m _ _ fun b hb => h a b ha hb]
theorem map_range_set {α : Type} (m : Nat) (f : Nat → α) (a : Nat) (v : α) : ((List.range m).map f).set a v = (List.range m).map fun i => if i = a then v else f i := by
  apply List.ext_getElem?
  intro j
  rw [List.getElem?_set]
  by_cases hj : j < m
  · by_cases e : a = j
    · subst e; simp [hj]
    · have e' : ¬ j = a := fun h => e h.symm
      simp [hj, e, e']
  · by_cases e : a = j
    · subst e; simp [hj]
    · simp [hj, e]
theorem tab_set (m : Nat) (r : Rel) (a : Nat) (f : Nat → Bool) : (tab m r).set a ((bitsOf m f : Nat) : Int) = tab m (fun x => if x = a then f else r x) := by
  unfold tab
  rw [map_range_set]
  refine map_range_congr m _ _ fun i hi => ?_
  by_cases e : i = a <;> simp [e]
def upd (r : Rel) (a b : Nat) (v : Bool) : Rel := fun x y => if x = a ∧ y = b then v else r x y
theorem tab_or (m : Nat) (hm : m ≤ 12) (r : Rel) (a b : Nat) (ha : a < m) (hb : b < m) : (tab m r).set a (Go.bits .or .u16 (rd (tab m r) (a : Int)) (shl .u16 1 (b : Int))) = tab m (upd r a b true) := by
  rw [tab_at m r a ha, shl1 b (by omega), or16 _ _ (bitsOf_u16 m hm _) (pow_u16 b (by omega)), bitsOf_or m _ b hb, tab_set]
  refine tab_congr m _ _ fun x y hx hy => ?_
  by_cases e : x = a
  · subst e; simp [upd]
  · simp [upd, e]
theorem hasP_snoc (pre : List S61) (a b x y : Nat) : hasP (pre ++ [⟨(a : Int), (b : Int)⟩]) x y = (hasP pre x y || ((decide (a = x) && decide (b = y)) || (decide (a = y) && decide (b = x)))) := by
  unfold hasP
  rw [List.any_append]
  congr 1
  simp only [List.any_cons, List.any_nil, Bool.or_false]
  have e : ∀ u v : Nat, ((u : Int) == (v : Int)) = decide (u = v) := fun u v => by
    by_cases h : u = v
    · simp [h]
    · have : ¬ (u : Int) = (v : Int) := by omega
      simp [h, this]
  rw [e, e, e, e]
theorem upd2_hasP (pre : List S61) (a b : Nat) : upd (upd (hasP pre) a b true) b a true = hasP (pre ++ [⟨(a : Int), (b : Int)⟩]) := by
  funext x y
  rw [hasP_snoc]
  unfold upd
  by_cases h1 : x = b ∧ y = a
  · simp [h1]
  · by_cases h2 : x = a ∧ y = b
    · simp [h2]
    · have e1 : (decide (a = x) && decide (b = y)) = false := by simp; intro h3 h4; exact h2 ⟨h3.symm, h4.symm⟩
      have e2 : (decide (a = y) && decide (b = x)) = false := by simp; intro h3 h4; exact h1 ⟨h4.symm, h3.symm⟩
      simp [h1, h2, e1, e2]
theorem table_l0 (m : Nat) (hm : m ≤ 12) (l : List S61) (hl : l.length < 4611686018427387904) (hn : natPairs m l) : ∀ (rest pre : List S61), l = pre ++ rest → Ev (fun k => impl_Party_table.l0 k (tab m (hasP pre)) l (l.length : Int) (pre.length : Int)) (tab m (hasP l))
  | [], pre, h => by
    refine Ev.one (fun k => ?_)
    have e : l = pre := by rw [h]; simp
    rw [impl_Party_table.l0, if_neg (by rw [e]; omega), e]
  | x :: rest, pre, h => by
    have hlen : pre.length < l.length := by rw [h]; simp
    obtain ⟨a, b, rfl, hab, hb⟩ := hn x (by rw [h]; simp)
    have hx : rd_T61 l (pre.length : Int) = ⟨(a : Int), (b : Int)⟩ := by rw [h]; exact rdT_mid pre rest _
    have ih := table_l0 m hm l hl hn rest (pre ++ [⟨(a : Int), (b : Int)⟩]) (by rw [h]; simp)
    rw [List.length_append, List.length_singleton, ← upd2_hasP] at ih
    refine Ev.step (fun k => ?_) ih
    rw [impl_Party_table.l0, if_pos (by omega), if_pos (by omega), if_pos (by omega), hx]
    dsimp only
    rw [tab_len, if_pos (by omega), if_pos (by omega), if_pos (by omega), Int.toNat_natCast, Int.toNat_natCast, tab_or m hm _ a b (by omega) (by omega)]
    simp only [Option.bind_some]
    rw [if_pos (by omega), tab_or m hm _ b a (by omega) (by omega), w1 (by omega)]
theorem table_ev (m : Nat) (hm : m ≤ 12) (l : List S61) (hl : l.length < 4611686018427387904) (hn : natPairs m l) : Ev (fun k => impl_Party_table.f k (m : Int) l) (tab m (hasP l)) := by
  unfold impl_Party_table.f
  simp only [if_pos (show (0 : Int) ≤ (m : Int) by omega), Int.toNat_natCast, if_pos (show m ≤ 140737488355328 by omega)]
  have := table_l0 m hm l hl hn l [] rfl
  rw [hasP_nil, tab_false] at this
  exact this

theorem implNumbers_ev (n : Int) (l : List S61) (hl : l.length ≤ 1048576) : Ev (fun k => impl_NumbersOfFriends.f k n l) (numsR n l) := by
  unfold impl_NumbersOfFriends.f numsR
  refine Ev.bind (implIsParty_ev _ _ (by omega)) ?_
  cases h : good n l with
  | true =>
    obtain ⟨m, rfl, hm, hn, ho⟩ := good_nat h
    simp only [if_true, Int.toNat_natCast]
    exact Ev.bind (table_ev m hm l (by omega) hn) (Ev.bind (numbers_ev m hm _) (Ev.now _))
  | false => simp only [Bool.false_eq_true, if_false]; exact Ev.now _
theorem numsOf_len (m : Nat) (r : Rel) : (numsOf m r).length = m := by simp [numsOf]
theorem numsOf_mem (m : Nat) (r : Rel) : ∀ x ∈ numsOf m r, ∃ d : Nat, x = (d : Int) ∧ d ≤ m := by
  intro x hx
  obtain ⟨a, _, rfl⟩ := List.mem_map.1 hx
  exact ⟨_, rfl, cnt_le _ _⟩
/-! the number of pairs -/
def below (m : Nat) : Nat → Nat
  | 0 => 0
  | a + 1 => below m a + (m - 1 - a)
theorem below_all (m : Nat) (h : m ≤ 12) : Int.tdiv ((m : Int) * ((m : Int) - 1)) 2 = (below m m : Int) := by
  have : m = 0 ∨ m = 1 ∨ m = 2 ∨ m = 3 ∨ m = 4 ∨ m = 5 ∨ m = 6 ∨ m = 7 ∨ m = 8 ∨ m = 9 ∨ m = 10 ∨ m = 11 ∨ m = 12 := by omega
  rcases this with rfl | rfl | rfl | rfl | rfl | rfl | rfl | rfl | rfl | rfl | rfl | rfl | rfl <;> rfl
/-- where a pair stands among all pairs of m people -/
def rank (m : Nat) (x : S61) : Nat := below m x.f0.toNat + (x.f1.toNat - x.f0.toNat - 1)
theorem below_mono (m a : Nat) : ∀ d, below m a ≤ below m (a + d)
  | 0 => Nat.le_refl _
  | d + 1 => Nat.le_trans (below_mono m a d) (by show below m (a + d) ≤ below m (a + d) + _; omega)
theorem rank_lt (m : Nat) (p x : S61) (h : lt2 p x = true) (p0 : 0 ≤ p.f0) (p1 : p.f0 < p.f1) (p2 : p.f1 < m) (x0 : 0 ≤ x.f0) (x1 : x.f0 < x.f1) : rank m p < rank m x := by
  unfold lt2 at h
  unfold rank
  simp at h
  rcases h with h | ⟨h, h2⟩
  · have h1 := below_mono m (p.f0.toNat + 1) (x.f0.toNat - (p.f0.toNat + 1))
    rw [show p.f0.toNat + 1 + (x.f0.toNat - (p.f0.toNat + 1)) = x.f0.toNat by omega] at h1
    have h3 : below m (p.f0.toNat + 1) = below m p.f0.toNat + (m - 1 - p.f0.toNat) := rfl
    omega
  · rw [h]; omega
theorem rank_top (m : Nat) (x : S61) (x0 : 0 ≤ x.f0) (x1 : x.f0 < x.f1) (x2 : x.f1 < m) : rank m x < below m m := by
  unfold rank
  have h1 := below_mono m (x.f0.toNat + 1) (m - (x.f0.toNat + 1))
  rw [show x.f0.toNat + 1 + (m - (x.f0.toNat + 1)) = m by omega] at h1
  have h3 : below m (x.f0.toNat + 1) = below m x.f0.toNat + (m - 1 - x.f0.toNat) := rfl
  omega
theorem okFrom_len (m : Nat) : ∀ (l : List S61) (p : S61), 0 ≤ p.f0 → p.f0 < p.f1 → p.f1 < m → okFrom m (some p) l = true → rank m p + l.length < below m m
  | [], p, p0, p1, p2, _ => rank_top m p p0 p1 p2
  | x :: xs, p, p0, p1, p2, h => by
    simp [okFrom, okPrev] at h
    obtain ⟨⟨x0, x1, x2, hlt⟩, h⟩ := h
    have ih := okFrom_len m xs x x0 x1 x2 h
    have := rank_lt m p x hlt p0 p1 p2 x0 x1
    simp only [List.length_cons]
    omega
theorem good_len (m : Nat) (l : List S61) (h : okFrom m none l = true) : l.length ≤ below m m := by
  cases l with
  | nil => simp
  | cons x xs =>
    simp [okFrom, okPrev] at h
    obtain ⟨⟨x0, x1, x2⟩, h⟩ := h
    have := okFrom_len m xs x x0 x1 x2 h
    simp only [List.length_cons]
    omega
theorem l1In_f (a lo hi : Int) : spec_l1In.f a lo hi = some (decide (lo ≤ a) && decide (a ≤ hi)) := by
  unfold spec_l1In.f
  by_cases h : lo ≤ a
  · rw [if_pos h]; simp [h]
  · rw [if_neg h]; simp [h]
theorem paLess_f (p x : S61) : spec_paLess.f p.f0 p.f1 x.f0 x.f1 = some (lt2 p x) := by
  unfold spec_paLess.f lt2
  by_cases h : p.f0 < x.f0
  · simp [h]
  · by_cases h2 : p.f0 = x.f0
    · simp [h2]
    · simp [h, h2]
theorem paGood_l0 (m : Nat) (hm : m ≤ 12) (l : List S61) (hl : l.length < 4611686018427387904) : ∀ (rest pre : List S61), l = pre ++ rest → Ev (fun k => spec_paGood.l0 k l (l.length : Int) (pre.length : Int) (m : Int) l) (okFrom m pre.getLast? rest)
  | [], pre, h => by
    refine Ev.one (fun k => ?_)
    have e : l.length = pre.length := by rw [h]; simp
    rw [spec_paGood.l0, if_neg (by omega)]
    simp [okFrom]
  | x :: rest, pre, h => by
    have hlen : pre.length < l.length := by rw [h]; simp
    have hx : rd_T61 l (pre.length : Int) = x := by rw [h]; exact rdT_mid pre rest x
    have ih := paGood_l0 m hm l hl rest (pre ++ [x]) (by rw [h]; simp)
    rw [List.getLast?_concat, List.length_append, List.length_singleton] at ih
    have em : wrap64 ((m : Int) - 1) = (m : Int) - 1 := w64 (by omega) (by omega)
    by_cases c1 : 0 ≤ x.f0 ∧ x.f0 ≤ (m : Int) - 1
    · have e1 : wrap64 (x.f0 + 1) = x.f0 + 1 := w64 (by omega) (by omega)
      have b1 : (decide (0 ≤ x.f0) && decide (x.f0 ≤ (m : Int) - 1)) = true := by simp; exact c1
      by_cases c2 : x.f0 + 1 ≤ x.f1 ∧ x.f1 ≤ (m : Int) - 1
      · have b2 : (decide (x.f0 + 1 ≤ x.f1) && decide (x.f1 ≤ (m : Int) - 1)) = true := by simp; exact c2
        have d1 : decide (0 ≤ x.f0) = true := by simp; omega
        have d2 : decide (x.f0 < x.f1) = true := by simp; omega
        have d3 : decide (x.f1 < (m : Int)) = true := by simp; omega
        rcases List.eq_nil_or_concat pre with rfl | ⟨q, p, rfl⟩
        · refine Ev.cast (Ev.step (fun k => ?_) ih) ?_
          · rw [spec_paGood.l0, if_pos (by omega), if_pos (by omega), if_pos (by omega), hx, em, e1, l1In_f, l1In_f, b1, b2]
            simp only [Option.bind_some, if_true]
            rw [if_neg (by simp), w1 (by simp)]
          · simp [okFrom, d1, d2, d3, okPrev]
        · rw [List.concat_eq_append] at hlen hx ih h ⊢
          have hp : rd_T61 l (q.length : Int) = p := by rw [h, List.append_assoc]; exact rdT_mid q (x :: rest) p
          have hq : (q ++ [p]).length = q.length + 1 := by simp
          rw [hq] at hlen hx ih ⊢
          rw [List.getLast?_concat]
          cases hlt : lt2 p x with
          | true =>
            refine Ev.cast (Ev.step (fun k => ?_) ih) ?_
            · rw [spec_paGood.l0, if_pos (by omega), if_pos (by omega), if_pos (by omega), hx, em, e1, l1In_f, l1In_f, b1, b2]
              simp only [Option.bind_some, if_true]
              rw [if_pos (by omega), w64 (i := ((q.length + 1 : Nat) : Int) - 1) (by omega) (by omega), show ((q.length + 1 : Nat) : Int) - 1 = (q.length : Int) by omega, if_pos (by omega), if_pos (by omega), hp, paLess_f, hlt, w1 (by omega)]
              rfl
            · simp [okFrom, d1, d2, d3, okPrev, hlt]
          | false =>
            refine Ev.one (fun k => ?_)
            rw [spec_paGood.l0, if_pos (by omega), if_pos (by omega), if_pos (by omega), hx, em, e1, l1In_f, l1In_f, b1, b2]
            simp only [Option.bind_some, if_true]
            rw [if_pos (by omega), w64 (i := ((q.length + 1 : Nat) : Int) - 1) (by omega) (by omega), show ((q.length + 1 : Nat) : Int) - 1 = (q.length : Int) by omega, if_pos (by omega), if_pos (by omega), hp, paLess_f, hlt]
            simp [okFrom, okPrev, hlt]
      · refine Ev.one (fun k => ?_)
        have b2 : (decide (x.f0 + 1 ≤ x.f1) && decide (x.f1 ≤ (m : Int) - 1)) = false := by simp; omega
        rw [spec_paGood.l0, if_pos (by omega), if_pos (by omega), if_pos (by omega), hx, em, e1, l1In_f, l1In_f, b1, b2]
        have : (decide (x.f0 < x.f1) && decide (x.f1 < (m : Int))) = false := by simp; omega
        simp only [okFrom, ← Bool.and_assoc (decide (x.f0 < x.f1)), this]
        simp
    · refine Ev.one (fun k => ?_)
      have b1 : (decide (0 ≤ x.f0) && decide (x.f0 ≤ (m : Int) - 1)) = false := by simp; omega
      rw [spec_paGood.l0, if_pos (by omega), if_pos (by omega), if_pos (by omega), hx, em, l1In_f, b1]
      have : (decide (0 ≤ x.f0) && (decide (x.f0 < x.f1) && (decide (x.f1 < (m : Int)) && okPrev pre.getLast? x))) = false := by
        by_cases z0 : 0 ≤ x.f0
        · by_cases z1 : x.f0 < x.f1
          · have : ¬ x.f1 < (m : Int) := by omega
            simp [this]
          · simp [z1]
        · simp [z0]
      simp [okFrom, this]
theorem paPeople_f (a : Int) : spec_paPeople.f a = some (decide (0 ≤ a ∧ a ≤ 12)) := by
  unfold spec_paPeople.f
  rw [l1In_f]; simp [Bool.decide_and]
theorem paGood_ev (n : Int) (l : List S61) (hl : l.length < 4611686018427387904) : Ev (fun k => spec_paGood.f k n l) (good n l) := by
  unfold spec_paGood.f
  rw [paPeople_f]
  by_cases h : 0 ≤ n ∧ n ≤ 12
  · obtain ⟨m, rfl⟩ := Int.eq_ofNat_of_zero_le h.1
    have hm : m ≤ 12 := by omega
    have hc : crowd (m : Int) = true := by unfold crowd; simp; omega
    have hmul : (m : Int) * ((m : Int) - 1) ≤ 144 := by
      have : m = 0 ∨ m = 1 ∨ m = 2 ∨ m = 3 ∨ m = 4 ∨ m = 5 ∨ m = 6 ∨ m = 7 ∨ m = 8 ∨ m = 9 ∨ m = 10 ∨ m = 11 ∨ m = 12 := by omega
      rcases this with rfl | rfl | rfl | rfl | rfl | rfl | rfl | rfl | rfl | rfl | rfl | rfl | rfl <;> decide
    have hmul0 : 0 ≤ (m : Int) * ((m : Int) - 1) := by
      have : m = 0 ∨ m = 1 ∨ m = 2 ∨ m = 3 ∨ m = 4 ∨ m = 5 ∨ m = 6 ∨ m = 7 ∨ m = 8 ∨ m = 9 ∨ m = 10 ∨ m = 11 ∨ m = 12 := by omega
      rcases this with rfl | rfl | rfl | rfl | rfl | rfl | rfl | rfl | rfl | rfl | rfl | rfl | rfl <;> decide
    have hb : (below m m : Int) ≤ 144 := by
      have : m = 0 ∨ m = 1 ∨ m = 2 ∨ m = 3 ∨ m = 4 ∨ m = 5 ∨ m = 6 ∨ m = 7 ∨ m = 8 ∨ m = 9 ∨ m = 10 ∨ m = 11 ∨ m = 12 := by omega
      rcases this with rfl | rfl | rfl | rfl | rfl | rfl | rfl | rfl | rfl | rfl | rfl | rfl | rfl <;> decide
    have e : wrap64 (Int.tdiv (wrap64 ((m : Int) * (wrap64 ((m : Int) - 1)))) 2) = (below m m : Int) := by
      rw [w64 (i := (m : Int) - 1) (by omega) (by omega), w64 (i := (m : Int) * ((m : Int) - 1)) (by omega) (by omega), below_all m hm, w64 (by omega) (by omega)]
    simp only [h, decide_true, Option.bind_some, if_true, e, and_self]
    unfold good
    rw [hc, Bool.true_and]
    by_cases hlen : l.length ≤ below m m
    · refine Ev.step (fun k => ?_) (paGood_l0 m hm l hl l [] rfl)
      have : decide ((l.length : Int) > (below m m : Int)) = false := by simp; omega
      rw [this, spec_paGood.j0, if_neg (by decide)]
      rfl
    · refine Ev.one (fun k => ?_)
      have : decide ((l.length : Int) > (below m m : Int)) = true := by simp; omega
      rw [this, spec_paGood.j0, if_pos rfl]
      have hn : okFrom (m : Int) none l = false := by
        cases hok : okFrom (m : Int) none l with
        | false => rfl
        | true => exact absurd (good_len m l hok) hlen
      rw [hn]
  · have hc : crowd n = false := by unfold crowd; simp; omega
    simp only [h, decide_false, Option.bind_some]
    unfold good
    rw [hc]
    refine Ev.one (fun k => ?_)
    rw [if_neg (by decide), spec_paGood.j0]; simp

theorem numsOf_false (m : Nat) : numsOf m (fun _ _ => false) = List.replicate m 0 := by
  unfold numsOf
  rw [← map_range_const (0 : Int) m]
  refine map_range_congr m _ _ fun i hi => ?_
  rw [cnt_false]; rfl
theorem lt2_trans {p q x : S61} (h1 : lt2 p q = true) (h2 : lt2 q x = true) : lt2 p x = true := by
  unfold lt2 at *
  simp at *
  omega
theorem okFrom_all (n : Int) : ∀ (l : List S61) (p : S61), okFrom n (some p) l = true → ∀ y ∈ l, lt2 p y = true
  | [], _, _ => fun y hy => by simp at hy
  | x :: xs, p, h => by
    simp only [okFrom, okPrev, Bool.and_eq_true] at h
    obtain ⟨⟨_, _, _, hlt⟩, h3⟩ := h
    intro y hy
    rcases List.mem_cons.1 hy with rfl | hy
    · exact hlt
    · exact lt2_trans hlt (okFrom_all n xs x h3 y hy)
theorem okFrom_before (n : Int) (x : S61) (rest : List S61) : ∀ (pre : List S61) (p : Option S61), okFrom n p (pre ++ x :: rest) = true → ∀ y ∈ pre, lt2 y x = true
  | [], _, _ => fun y hy => by simp at hy
  | z :: zs, p, h => by
    simp only [List.cons_append, okFrom, Bool.and_eq_true] at h
    intro y hy
    rcases List.mem_cons.1 hy with rfl | hy
    · exact okFrom_all n _ y h.2 x (by simp)
    · exact okFrom_before n x rest zs _ h.2 y hy
theorem hasP_new (m : Nat) (l pre rest : List S61) (a b : Nat) (hab : a < b) (hl : l = pre ++ ⟨(a : Int), (b : Int)⟩ :: rest) (hn : natPairs m l) (ho : okFrom (m : Int) none l = true) : hasP pre a b = false := by
  unfold hasP
  rw [List.any_eq_false]
  intro y hy
  obtain ⟨c, d, rfl, hcd, _⟩ := hn y (by rw [hl]; simp [hy])
  have hlt := okFrom_before (m : Int) _ rest pre none (by rw [← hl]; exact ho) _ hy
  unfold lt2 at hlt
  simp at hlt ⊢
  omega
theorem hasP_symm (l : List S61) (x y : Nat) : hasP l x y = hasP l y x := by
  unfold hasP; congr 1; funext z; rw [Bool.or_comm]
theorem numsOf_at (m : Nat) (r : Rel) (a : Nat) (h : a < m) : rd (numsOf m r) (a : Int) = ((cnt m (r a) : Nat) : Int) := map_range_getD m _ _ a h
theorem cnt_upd (m : Nat) (f : Nat → Bool) (b : Nat) (hb : b < m) (hf : f b = false) : cnt m (fun j => if j = b then true else f j) = cnt m f + 1 := by
  induction m with
  | zero => omega
  | succ m ih =>
    rw [cnt, cnt]
    by_cases e : m = b
    · subst e
      rw [if_pos rfl, hf, cnt_congr m (fun j => if j = m then true else f j) f (fun i hi => if_neg (by omega))]
      rfl
    · rw [ih (by omega), if_neg e]; omega
theorem numsOf_set (m : Nat) (r : Rel) (a b : Nat) (ha : a < m) (hb : b < m) (h : r a b = false) : (numsOf m r).set a (((cnt m (r a) : Nat) : Int) + 1) = numsOf m (upd r a b true) := by
  unfold numsOf
  rw [map_range_set]
  refine map_range_congr m _ _ fun i hi => ?_
  by_cases e : i = a
  · subst e
    rw [if_pos rfl]
    have : upd r i b true i = fun j => if j = b then true else r i j := by funext j; simp [upd]
    rw [this, cnt_upd m (r i) b hb h]; omega
  · rw [if_neg e]
    have : upd r a b true i = r i := by funext j; simp [upd, e]
    rw [this]
theorem paNumbers_l0 (m : Nat) (hm : m ≤ 12) (l : List S61) (hl : l.length < 4611686018427387904) (hn : natPairs m l) (ho : okFrom (m : Int) none l = true) : ∀ (rest pre : List S61), l = pre ++ rest → Ev (fun k => spec_paNumbers.l0 k (numsOf m (hasP pre)) l (l.length : Int) (pre.length : Int)) (numsOf m (hasP l))
  | [], pre, h => by
    refine Ev.one (fun k => ?_)
    have e : l = pre := by rw [h]; simp
    rw [spec_paNumbers.l0, if_neg (by rw [e]; omega), e]
  | x :: rest, pre, h => by
    have hlen : pre.length < l.length := by rw [h]; simp
    obtain ⟨a, b, rfl, hab, hb⟩ := hn x (by rw [h]; simp)
    have hx : rd_T61 l (pre.length : Int) = ⟨(a : Int), (b : Int)⟩ := by rw [h]; exact rdT_mid pre rest _
    have ih := paNumbers_l0 m hm l hl hn ho rest (pre ++ [⟨(a : Int), (b : Int)⟩]) (by rw [h]; simp)
    rw [List.length_append, List.length_singleton, ← upd2_hasP] at ih
    have hf := hasP_new m l pre rest a b hab h hn ho
    have hf2 : upd (hasP pre) a b true b a = false := by
      have e : ¬ (b = a ∧ a = b) := by omega
      simp only [upd, if_neg e]; rw [hasP_symm]; exact hf
    have c1 := cnt_le m (hasP pre a)
    have c2 := cnt_le m (upd (hasP pre) a b true b)
    refine Ev.step (fun k => ?_) ih
    rw [spec_paNumbers.l0, if_pos (by omega), if_pos (by omega), if_pos (by omega), hx]
    dsimp only
    rw [numsOf_len, if_pos (by omega), if_pos (by omega), numsOf_at _ _ _ (by omega), w64 (by omega) (by omega), Int.toNat_natCast, Int.toNat_natCast, numsOf_set m _ a b (by omega) hb hf]
    simp only [Option.bind_some]
    rw [if_pos (by omega), if_pos (by omega), numsOf_at _ _ _ hb, w64 (by omega) (by omega), numsOf_set m _ b a hb (by omega) hf2, w1 (by omega)]
theorem paNumbers_ev (m : Nat) (hm : m ≤ 12) (l : List S61) (hl : l.length < 4611686018427387904) (hn : natPairs m l) (ho : okFrom (m : Int) none l = true) : Ev (fun k => spec_paNumbers.f k (m : Int) l) (numsOf m (hasP l)) := by
  unfold spec_paNumbers.f
  simp only [if_pos (show (0 : Int) ≤ (m : Int) by omega), Int.toNat_natCast, if_pos (show m ≤ 35184372088832 by omega)]
  have := paNumbers_l0 m hm l hl hn ho l [] rfl
  rw [hasP_nil, numsOf_false] at this
  exact this
theorem ch2_spec8 (m : Nat) (hm : m ≤ 12) : spec_trChoose.f 8 (m : Int) 2 = some (ch2 m) := by
  have : m = 0 ∨ m = 1 ∨ m = 2 ∨ m = 3 ∨ m = 4 ∨ m = 5 ∨ m = 6 ∨ m = 7 ∨ m = 8 ∨ m = 9 ∨ m = 10 ∨ m = 11 ∨ m = 12 := by omega
  rcases this with rfl | rfl | rfl | rfl | rfl | rfl | rfl | rfl | rfl | rfl | rfl | rfl | rfl <;> (show _ = _; kernel_rfl)
theorem ch2_spec (m : Nat) (hm : m ≤ 12) : Ev (fun k => spec_trChoose.f k (m : Int) 2) (ch2 m) := Ev.of (fun k => spec_trChoose.mono _ _ k) (ch2_spec8 m hm)
theorem specFork_l0 (L : List Int) (hL : L.length ≤ 12) (hb : ∀ x ∈ L, ∃ d : Nat, x = (d : Int) ∧ d ≤ 12) : ∀ (rest pre : List Int) (s : Int), L = pre ++ rest → Ev (fun k => spec_CountForks.l0 k s L (L.length : Int) (pre.length : Int)) (rest.foldl forkOf s, true)
  | [], pre, s, e => by
    have el : L.length = pre.length := by rw [e]; simp
    refine Ev.one (fun k => ?_)
    rw [spec_CountForks.l0, if_neg (by omega)]; rfl
  | x :: rest, pre, s, e => by
    have el : pre.length < L.length := by rw [e]; simp
    have hx : rd L (pre.length : Int) = x := by rw [e]; exact rd_mid pre rest x
    obtain ⟨d, rfl, hd⟩ := hb x (by rw [e]; simp)
    have ih := specFork_l0 L hL hb rest (pre ++ [(d : Int)]) (forkOf s (d : Int)) (by rw [e]; simp)
    rw [List.length_append, List.length_singleton] at ih
    refine Ev.step (f := fun k => (spec_trChoose.f k (d : Int) 2).bind fun t => spec_CountForks.l0 k (wrap64 (s + t)) L (L.length : Int) ((pre.length + 1 : Nat) : Int)) (fun k => ?_) (Ev.bind (ch2_spec d hd) ih)
    rw [spec_CountForks.l0, if_pos (by omega), if_pos (by omega), if_pos (by omega), hx, w1 (by omega)]
theorem CountForks_common (n : Int) (l : List S61) (w : (Lit.int .i64 n).wf = true) (hl : l.length ≤ 1048576) : ∃ R : Int × Bool, Ev (fun k => spec_CountForks.f k n l) R ∧ Ev (fun k => impl_CountForks.f k n l) R := by
  have hi := implNumbers_ev n l hl
  cases h : good n l with
  | true =>
    obtain ⟨m, rfl, hm, hn, ho⟩ := good_nat h
    have e : numsR (m : Int) l = (numsOf m (hasP l), true) := by simp [numsR, h]
    rw [e] at hi
    have hlen := numsOf_len m (hasP l)
    have hb : ∀ x ∈ numsOf m (hasP l), ∃ d : Nat, x = (d : Int) ∧ d ≤ 12 := fun x hx => by
      obtain ⟨d, hd, hd2⟩ := numsOf_mem m _ x hx
      exact ⟨d, hd, by omega⟩
    refine ⟨_, ?_, Ev.bind hi (implFork_l0 (numsOf m (hasP l)) (by omega) true hb _ [] 0 rfl)⟩
    unfold spec_CountForks.f
    refine Ev.bind (paGood_ev _ _ (by omega)) ?_
    simp only [h, if_true]
    refine Ev.bind (paNumbers_ev m hm l (by omega) hn ho) ?_
    exact specFork_l0 (numsOf m (hasP l)) (by omega) hb _ [] 0 rfl
  | false =>
    have e : numsR n l = ([], false) := by simp [numsR, h]
    rw [e] at hi
    refine ⟨(0, false), ?_, Ev.bind hi (implFork_l0 [] (by simp) false (fun x hx => by simp at hx) _ [] 0 rfl)⟩
    unfold spec_CountForks.f
    refine Ev.bind (paGood_ev _ _ (by omega)) ?_
    simp only [h, Bool.false_eq_true, if_false]
    exact Ev.now _

def conv (l : List S88) : List S61 := l.map fun x => ⟨x.f0, x.f1⟩
theorem conv_len (l : List S88) : (conv l).length = l.length := by simp [conv]
theorem eqPairS_l0 (l : List S61) (hl : l.length < 4611686018427387904) : ∀ (d i : Nat), i + d = l.length → Ev (fun k => laws_eqPairS.l0 k l l i) true
  | 0, i, hd => by
    refine Ev.one (fun k => ?_)
    rw [laws_eqPairS.l0, if_neg (by omega)]
  | d + 1, i, hd => by
    refine Ev.step (fun k => ?_) (eqPairS_l0 l hl d (i + 1) (by omega))
    rw [laws_eqPairS.l0, if_pos (by omega), if_pos (by omega), if_pos (by omega), laws_eqPair.f, if_pos rfl, if_pos rfl, w1 (by omega)]
    rfl
theorem eqParty_self (a : Int) (l : List S61) (hl : l.length < 4611686018427387904) : Ev (fun k => laws_eqParty.f k a l a l) true := by
  unfold laws_eqParty.f laws_eqPairS.f
  simp only [if_true]
  have h : Ev (fun k => laws_eqPairS.l0 k l l 0) true := by simpa using eqPairS_l0 l hl l.length 0 (by omega)
  refine Ev.bind h ?_
  simp only [if_true]
  exact Ev.now _

theorem szParty_f (a0 : Int) (l : List S88) (a1 : Int) (h0 : 0 ≤ a1) (h1 : a1 ≤ 1048576) (hl : l.length ≤ maxLen) : laws_szParty.f a0 l a1 = some (if a1 - l.length < 0 then -1 else a1 - l.length) := by
  unfold maxLen at hl
  unfold laws_szParty.f laws_szPairS.f
  rw [w64 (by omega) (by omega)]
  by_cases h : a1 - l.length < 0
  · simp [h]
  · simp [h]
theorem getD_of_get {α : Type} (l : List α) (i : Nat) (d x : α) (h : l[i]? = some x) : l.getD i d = x := by rw [List.getD_eq_getElem?_getD, h]; rfl
theorem toPairS_l0 (l : List S88) (hl : l.length < 4611686018427387904) : ∀ (d i : Nat) (y : List S61), i + d = l.length → y.length = l.length → (∀ j, j < i → y[j]? = (conv l)[j]?) → Ev (fun k => laws_toPairS.l0 k l y i) (conv l)
  | 0, i, y, hd, hy, h => by
    refine Ev.one (fun k => ?_)
    have e : y = conv l := by
      apply List.ext_getElem?
      intro j
      by_cases hj : j < i
      · exact h j hj
      · rw [List.getElem?_eq_none (by omega), List.getElem?_eq_none (by rw [conv_len]; omega)]
    rw [laws_toPairS.l0, if_neg (by omega), e]
  | d + 1, i, y, hd, hy, h => by
    have hi : i < l.length := by omega
    have hx : rd_T88 l (i : Int) = l[i] := getD_of_get l i _ _ (List.getElem?_eq_getElem hi)
    refine Ev.step (fun k => ?_) (toPairS_l0 l hl d (i + 1) (y.set i ⟨l[i].f0, l[i].f1⟩) (by omega) (by simpa using hy) ?_)
    · rw [laws_toPairS.l0, if_pos (by omega), if_pos (by omega), hx, laws_toPair.f]
      simp only [Option.bind_some]
      rw [if_pos (by omega), w1 (by omega)]
      rfl
    · intro j hj
      rw [List.getElem?_set]
      by_cases e : i = j
      · subst e
        have hiy : i < y.length := by omega
        simp [conv, hi, hiy]
      · rw [if_neg e]; exact h j (by omega)
theorem toPairS_ev (l : List S88) (hl : l.length ≤ 17592186044416) : Ev (fun k => laws_toPairS.f k l) (conv l) := by
  unfold laws_toPairS.f
  simp only [if_pos (show (0 : Int) ≤ (l.length : Int) by omega), if_pos (show ((l.length : Int) : Int).toNat ≤ 17592186044416 by simpa using hl)]
  exact toPairS_l0 l (by omega) l.length 0 _ (by omega) (by simp) (fun j hj => absurd hj (Nat.not_lt_zero _))
theorem toParty_ev (a : Int) (l : List S88) (hl : l.length ≤ 17592186044416) : Ev (fun k => laws_toParty.f k a l) (a, conv l) := by
  unfold laws_toParty.f
  exact Ev.bind (toPairS_ev l hl) (Ev.now _)
theorem FnExactCountForks : ∀ (a0 : Int) (l0 : List S88), (Lit.int .i64 a0).wf = true → l0.length ≤ maxLen → (∀ x ∈ l0, ∃ m n : Int, x = ⟨m, n⟩ ∧ (Lit.int .i64 m).wf = true ∧ (Lit.int .i64 n).wf = true) → ∃ k, laws_FnExactCountForks.f k a0 l0 = some true := by
  intro a0 l0 w0 hm0 hw0
  refine Ev.rounds ?_
  unfold laws_FnExactCountForks.f
  simp only [szParty_f a0 l0 1048576 (by omega) (by omega) hm0, Option.bind_some]
  by_cases hg0 : 1048576 - (l0.length : Int) < 0
  · simp only [if_pos hg0, show ((-1 : Int) < 0) from by decide, if_true]; exact Ev.now _
  simp only [if_neg hg0]
  have hlen0 : l0.length ≤ 1048576 := by omega
  have hcl0 := conv_len l0
  obtain ⟨R, hs, hi⟩ := CountForks_common a0 (conv l0) w0 (by rw [conv_len]; omega)
  refine Ev.bind (toParty_ev a0 l0 (by omega)) ?_
  refine Ev.bind hs ?_
  try simp only [if_true, if_false, bne_self_eq_false, Bool.false_eq_true, ↓reduceIte, decide_true]
  refine Ev.bind (toParty_ev a0 l0 (by omega)) ?_
  refine Ev.bind hi ?_
  try simp only [if_true, if_false, bne_self_eq_false, Bool.false_eq_true, ↓reduceIte, decide_true]
  try simp only [if_true, if_false, bne_self_eq_false, Bool.false_eq_true, ↓reduceIte, decide_true]
  refine Ev.step (fun k => rfl) ?_
  simp only [laws_FnExactCountForks.j0]
  try simp only [if_true, if_false, bne_self_eq_false, Bool.false_eq_true, ↓reduceIte, decide_true]
  refine Ev.bind (toParty_ev a0 l0 (by omega)) ?_
  refine Ev.bind (eqParty_self a0 (conv l0) (by omega)) ?_
  try simp only [if_true, if_false, bne_self_eq_false, Bool.false_eq_true, ↓reduceIte, decide_true]
  exact Ev.now _
end Go.Proofs.Ytiopgbpjkjnphaa.Pure
