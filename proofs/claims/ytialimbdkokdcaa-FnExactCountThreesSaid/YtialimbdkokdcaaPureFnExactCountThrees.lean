/- The program's CountThrees returns what the reference's returns, for all arguments (the plain statement behind the printed walk); no condition. -/
import Derived.Test.YtialimbdkokdcaaPx0
import Derived.Test.YtialimbdkokdcaaPx1
import Derived.Test.YtialimbdkokdcaaPx2
import Derived.Test.YtialimbdkokdcaaPx3
import Derived.Test.YtialimbdkokdcaaPx4
import Derived.Test.YtialimbdkokdcaaPx5
namespace Go.Proofs.Ytialimbdkokdcaa.Pure
open Go.RowKit Go.Proofs.Ytialimbdkokdcaa.P Go.Proofs.YtialimbdkokdcaaW.PrintWords Go.Proofs.YtialimbdkokdcaaW.PrintLast
set_option linter.unusedSimpArgs false
set_option linter.unusedVariables false
theorem Ev.cast {α : Type} {g : Nat → Option α} {a b : α} (h : Ev g a) (e : a = b) : Ev g b := e ▸ h
theorem Ev.late {α : Type} {r : α} (m : Nat) {g : Nat → Option α} (h : ∀ k, g (k + m) = some r) : Ev g r := ⟨m, fun k hk => by
  obtain ⟨j, rfl⟩ : ∃ j, k = j + m := ⟨k - m, by omega⟩
  exact h j⟩
def nC (p : Nat → Nat → Nat → Bool) (a b c : Nat) : Nat := (List.range' (b + 1) (c - (b + 1))).countP (p a b)
def nB (p : Nat → Nat → Nat → Bool) (n a b : Nat) : Nat := ((List.range' (a + 1) (b - (a + 1))).map fun b => nC p a b n).sum
def nA (p : Nat → Nat → Nat → Bool) (n a : Nat) : Nat := ((List.range a).map fun a => nB p n a n).sum
theorem choose3_ev (n : Nat) (hn : n ≤ 12) : Ev (fun k => impl_choose.f k (n : Int) 3) ((nA (fun _ _ _ => true) n n : Nat) : Int) := by
  refine Ev.late 12 fun k => ?_
  have h13 : n = 0 ∨ n = 1 ∨ n = 2 ∨ n = 3 ∨ n = 4 ∨ n = 5 ∨ n = 6 ∨ n = 7 ∨ n = 8 ∨ n = 9 ∨ n = 10 ∨ n = 11 ∨ n = 12 := by omega
  rcases h13 with rfl | rfl | rfl | rfl | rfl | rfl | rfl | rfl | rfl | rfl | rfl | rfl | rfl <;> (show _ = _; kernel_rfl)
def crowd (n : Int) : Bool := decide (0 ≤ n ∧ n ≤ 12)
def lt2 (p q : S80) : Bool := decide (p.f0 < q.f0) || (decide (p.f0 = q.f0) && decide (p.f1 < q.f1))
def okPrev : Option S80 → S80 → Bool
  | none, _ => true
  | some p, x => lt2 p x
def okFrom (n : Int) : Option S80 → List S80 → Bool
  | _, [] => true
  | prev, x :: xs => (decide (0 ≤ x.f0) && (decide (x.f0 < x.f1) && (decide (x.f1 < n) && okPrev prev x))) && okFrom n (some x) xs
def good (n : Int) (l : List S80) : Bool := crowd n && okFrom n none l
def natPairs (m : Nat) (l : List S80) : Prop := ∀ x ∈ l, ∃ a b : Nat, x = ⟨(a : Int), (b : Int)⟩ ∧ a < b ∧ b < m
theorem okFrom_nat (m : Nat) : ∀ (l : List S80) (p : Option S80), okFrom (m : Int) p l = true → natPairs m l
  | [], _, _ => fun x hx => by simp at hx
  | x :: xs, p, h => by
    simp only [okFrom, Bool.and_eq_true, decide_eq_true_eq] at h
    obtain ⟨⟨h0, h1, h2, _⟩, h3⟩ := h
    intro y hy
    rcases List.mem_cons.1 hy with rfl | hy
    · refine ⟨y.f0.toNat, y.f1.toNat, ?_, by omega, by omega⟩
      rw [Int.toNat_of_nonneg h0, Int.toNat_of_nonneg (by omega)]
    · exact okFrom_nat m xs _ h3 y hy
theorem good_nat {n : Int} {l : List S80} (h : good n l = true) : ∃ m : Nat, n = (m : Int) ∧ m ≤ 12 ∧ natPairs m l ∧ okFrom (m : Int) none l = true := by
  unfold good crowd at h
  simp only [Bool.and_eq_true, decide_eq_true_eq] at h
  obtain ⟨⟨h0, h1⟩, h2⟩ := h
  obtain ⟨m, rfl⟩ := Int.eq_ofNat_of_zero_le h0
  exact ⟨m, rfl, by omega, okFrom_nat m l none h2, h2⟩
abbrev Rel := Nat → Nat → Bool
def hasP (l : List S80) : Rel := fun a b => l.any fun x => (x.f0 == (a : Int) && x.f1 == (b : Int)) || (x.f0 == (b : Int) && x.f1 == (a : Int))
theorem Ev.one {α : Type} {g : Nat → Option α} {r : α} (h : ∀ k, g (k + 1) = some r) : Ev g r := Ev.step h (Ev.now r)
theorem within_f (a lo hi : Int) : impl_within.f a lo hi = some (decide (lo ≤ a) && decide (a ≤ hi)) := by
  unfold impl_within.f
  by_cases h : lo ≤ a
  · rw [if_pos h]; simp [h]
  · rw [if_neg h]; simp [h]
theorem areCrowd_f (a : Int) : impl_areCrowd.f a = some (decide (0 ≤ a ∧ a ≤ 12)) := by
  unfold impl_areCrowd.f
  rw [within_f]; simp [Bool.decide_and]
def cmp3 (a b : Int) : Int := if a < b then -1 else if a > b then 1 else 0
def cmpP (p q : S80) : Int := if cmp3 p.f0 q.f0 = 0 then cmp3 p.f1 q.f1 else cmp3 p.f0 q.f0
theorem cmpP_neg (p q : S80) : decide (cmpP p q ≥ 0) = !lt2 p q := by
  unfold cmpP cmp3 lt2
  by_cases h1 : p.f0 < q.f0
  · simp [h1]
  · by_cases h2 : p.f0 > q.f0
    · have h3 : ¬ p.f0 = q.f0 := by omega
      simp [h1, h2, h3]
    · have h3 : p.f0 = q.f0 := by omega
      by_cases h4 : p.f1 < q.f1
      · simp [h3, h4]
      · by_cases h5 : p.f1 > q.f1
        · simp [h3, h4, h5]
        · simp [h3, h4, h5]
theorem cmpOr_ev (a b : Int) : Ev (fun k => cmp_Or_int.f k [a, b]) (if a = 0 then b else a) := by
  refine ⟨3, fun k hk => ?_⟩
  obtain ⟨k, rfl⟩ : ∃ m, k = m + 3 := ⟨k - 3, by omega⟩
  have e1 : wrap64 (0 + 1) = 1 := by unfold wrap64; omega
  have e2 : wrap64 (1 + 1) = 2 := by unfold wrap64; omega
  have r0 : rd [a, b] 0 = a := rfl
  have r1 : rd [a, b] 1 = b := rfl
  simp only [cmp_Or_int.f, cmp_Or_int.l0, List.length_cons, List.length_nil, r0, r1, e1, e2]
  by_cases h : a = 0
  · by_cases h2 : b = 0
    · simp [h, h2]
    · simp [h, h2]
  · simp [h]
theorem compare_f (a b : Int) : cmp_Compare_int.f a b = some (cmp3 a b) := by
  unfold cmp_Compare_int.f cmp_isNaN_int.f cmp3
  simp
  by_cases h : a < b
  · simp [h]
  · by_cases h2 : a > b
    · simp [h, h2]
    · simp [h, h2]
theorem comparePairs_ev (p q : S80) : Ev (fun k => impl_comparePairs.f k p.f0 p.f1 q.f0 q.f1) (cmpP p q) := by
  unfold impl_comparePairs.f
  simp only [compare_f, Option.bind_some]
  exact Ev.bind (cmpOr_ev _ _) (Ev.now _)
theorem rdT_mid (pre rest : List S80) (x : S80) : rd_T80 (pre ++ x :: rest) (pre.length : Int) = x := by
  unfold rd_T80
  simp [List.getD_eq_getElem?_getD]
theorem w1 {n : Nat} (h : n < 4611686018427387904) : wrap64 ((n : Int) + 1) = ((n + 1 : Nat) : Int) := by unfold wrap64; omega
theorem w64 {i : Int} (h0 : -9223372036854775808 ≤ i) (h : i ≤ 9223372036854775807) : wrap64 i = i := by unfold wrap64; omega
theorem implIsParty_l0 (n : Int) (l : List S80) (hl : l.length < 4611686018427387904) : ∀ (rest pre : List S80), l = pre ++ rest → Ev (fun k => impl_IsParty.l0 k l (l.length : Int) (pre.length : Int) n l) (okFrom n pre.getLast? rest && crowd n)
  | [], pre, h => by
    refine Ev.one (fun k => ?_)
    have e : l.length = pre.length := by rw [h]; simp
    rw [impl_IsParty.l0, if_neg (by omega), areCrowd_f]
    simp [okFrom, crowd]
  | x :: rest, pre, h => by
    have hlen : pre.length < l.length := by rw [h]; simp
    have hx : rd_T80 l (pre.length : Int) = x := by rw [h]; exact rdT_mid pre rest x
    have ih := implIsParty_l0 n l hl rest (pre ++ [x]) (by rw [h]; simp)
    rw [List.getLast?_concat, List.length_append, List.length_singleton] at ih
    by_cases c1 : x.f0 < 0
    · refine Ev.one (fun k => ?_)
      rw [impl_IsParty.l0, if_pos (by omega), if_pos (by omega), if_pos (by omega), hx, if_pos c1]
      have : decide (0 ≤ x.f0) = false := by simp; omega
      simp [okFrom, this]
    by_cases c2 : x.f0 ≥ x.f1
    · refine Ev.one (fun k => ?_)
      rw [impl_IsParty.l0, if_pos (by omega), if_pos (by omega), if_pos (by omega), hx, if_neg c1, if_pos c2]
      have : decide (x.f0 < x.f1) = false := by simp; omega
      simp [okFrom, this]
    by_cases c3 : x.f1 ≥ n
    · refine Ev.one (fun k => ?_)
      rw [impl_IsParty.l0, if_pos (by omega), if_pos (by omega), if_pos (by omega), hx, if_neg c1, if_neg c2, if_pos c3]
      have : decide (x.f1 < n) = false := by simp; omega
      simp [okFrom, this]
    have d1 : decide (0 ≤ x.f0) = true := by simp; omega
    have d2 : decide (x.f0 < x.f1) = true := by simp; omega
    have d3 : decide (x.f1 < n) = true := by simp; omega
    rcases List.eq_nil_or_concat pre with rfl | ⟨q, p, rfl⟩
    · refine Ev.cast (Ev.step (fun k => ?_) ih) ?_
      · rw [impl_IsParty.l0, if_pos (by omega), if_pos (by omega), if_pos (by omega), hx, if_neg c1, if_neg c2, if_neg c3, if_neg (by simp), w1 (by simp)]
      · simp [okFrom, d1, d2, d3, okPrev]
    · rw [List.concat_eq_append] at hlen hx ih h ⊢
      have hp : rd_T80 l (q.length : Int) = p := by rw [h, List.append_assoc]; exact rdT_mid q (x :: rest) p
      have hq : (q ++ [p]).length = q.length + 1 := by simp
      rw [hq] at hlen hx ih ⊢
      refine Ev.step (f := fun k => (impl_comparePairs.f k p.f0 p.f1 x.f0 x.f1).bind fun t => if t ≥ 0 then some false else impl_IsParty.l0 k l (l.length : Int) ((q.length + 1 + 1 : Nat) : Int) n l) (fun k => ?_) (Ev.bind (comparePairs_ev p x) ?_)
      · rw [impl_IsParty.l0, if_pos (by omega), if_pos (by omega), if_pos (by omega), hx, if_neg c1, if_neg c2, if_neg c3, if_pos (by omega), w64 (i := ((q.length + 1 : Nat) : Int) - 1) (by omega) (by omega), show ((q.length + 1 : Nat) : Int) - 1 = (q.length : Int) by omega, if_pos (by omega), if_pos (by omega), hp, w1 (by omega)]
      · have hc := cmpP_neg p x
        rw [List.getLast?_concat]
        by_cases hlt : lt2 p x = true
        · have c4 : ¬ cmpP p x ≥ 0 := by rw [hlt] at hc; simpa using hc
          simp only [if_neg c4]
          refine Ev.cast ih ?_
          simp [okFrom, d1, d2, d3, okPrev, hlt]
        · have hlt' : lt2 p x = false := by simpa using hlt
          have c4 : cmpP p x ≥ 0 := by rw [hlt'] at hc; simpa using hc
          simp only [if_pos c4]
          refine Ev.cast (Ev.now _) ?_
          simp [okFrom, okPrev, hlt']
theorem implIsParty_ev (n : Int) (l : List S80) (hl : l.length < 4611686018427387904) : Ev (fun k => impl_IsParty.f k n l) (good n l) := by
  unfold impl_IsParty.f
  have := implIsParty_l0 n l hl l [] rfl
  rw [Bool.and_comm] at this
  exact this
def allOf (h : Nat → Nat → Bool) (a b c : Nat) : Bool := h a b && h a c && h b c
theorem wraps_u16 (n : Int) (h0 : 0 ≤ n) (h1 : n < 2 ^ 16) : IntKind.u16.wrap n = n := by
  simp [IntKind.wrap, IntKind.bits, IntKind.signed]; omega
theorem and16 (x y : Nat) (hx : x < 65536) (hy : y < 65536) : Go.bits .and .u16 (x : Int) (y : Int) = ((x &&& y : Nat) : Int) := (bits_nat .u16 16 (by decide) wraps_u16 x y hx hy).1
/-! ### tables of bits -/
def bitsOf : Nat → (Nat → Bool) → Nat
  | 0, _ => 0
  | m + 1, f => bitsOf m f + (f m).toNat * 2 ^ m
theorem bitsOf_lt : ∀ (m : Nat) (f : Nat → Bool), bitsOf m f < 2 ^ m
  | 0, _ => by simp [bitsOf]
  | m + 1, f => by
    have := bitsOf_lt m f
    have h2 : (f m).toNat * 2 ^ m ≤ 2 ^ m := by cases f m <;> simp
    rw [bitsOf, Nat.pow_succ]; omega
theorem bitsOf_u16 (m : Nat) (hm : m ≤ 12) (f : Nat → Bool) : bitsOf m f < 65536 :=
  Nat.lt_of_lt_of_le (bitsOf_lt m f) (Nat.le_trans (Nat.pow_le_pow_right (by decide) hm) (by decide))
def tab (m : Nat) (r : Rel) : List Int := (List.range m).map fun a => ((bitsOf m (r a) : Nat) : Int)
theorem map_range_getD {α : Type} (m : Nat) (f : Nat → α) (d : α) (a : Nat) (h : a < m) : ((List.range m).map f).getD a d = f a := by simp [List.getD_eq_getElem?_getD, h]
theorem tab_at (m : Nat) (r : Rel) (a : Nat) (h : a < m) : rd (tab m r) (a : Int) = ((bitsOf m (r a) : Nat) : Int) := map_range_getD m _ _ a h
theorem tab_len (m : Nat) (r : Rel) : (tab m r).length = m := by simp [tab]
theorem testBit_bitsOf : ∀ (m : Nat) (f : Nat → Bool) (i : Nat), (bitsOf m f).testBit i = (decide (i < m) && f i)
  | 0, f, i => by simp [bitsOf]
  | m + 1, f, i => by
    have ih := testBit_bitsOf m f
    by_cases hi : i < m
    · have h1 : i < m + 1 := by omega
      cases hf : f m with
      | false => simp [bitsOf, hf, ih i, hi, h1]
      | true => rw [bitsOf, hf, Bool.toNat_true, Nat.one_mul, Nat.add_comm, Nat.testBit_two_pow_add_gt hi, ih i]; simp [hi, h1]
    · by_cases e : i = m
      · subst e
        cases hf : f i with
        | false => simp [bitsOf, hf, ih i]
        | true => rw [bitsOf, hf, Bool.toNat_true, Nat.one_mul, Nat.add_comm, Nat.testBit_two_pow_add_eq, ih i]; simp
      · have h1 : ¬ i < m + 1 := by omega
        rw [Nat.testBit_lt_two_pow (Nat.lt_of_lt_of_le (bitsOf_lt (m + 1) f) (Nat.pow_le_pow_right (by decide) (by omega)))]
        simp [h1]
theorem has_f (m : Nat) (hm : m ≤ 12) (r : Rel) (a b : Nat) (ha : a < m) (hb : b < m) : impl_table_has.f (tab m r) (a : Int) (b : Int) = some (r a b) := by
  unfold impl_table_has.f
  rw [if_pos (by omega), if_pos (by rw [tab_len]; omega), if_pos (by omega), tab_at m r a ha]
  have hX := bitsOf_u16 m hm (r a)
  have hs : shr .u16 ((bitsOf m (r a) : Nat) : Int) (b : Int) = ((bitsOf m (r a) / 2 ^ b : Nat) : Int) := by
    unfold shr
    rw [Int.toNat_natCast, Nat.min_eq_left (show b ≤ IntKind.u16.bits from by show b ≤ 16; omega)]
    simp
  have hd : bitsOf m (r a) / 2 ^ b < 65536 := Nat.lt_of_le_of_lt (Nat.div_le_self _ _) hX
  have ht := testBit_bitsOf m (r a) b
  rw [Nat.testBit_eq_decide_div_mod_eq] at ht
  have e1 : Go.bits .and .u16 ((bitsOf m (r a) / 2 ^ b : Nat) : Int) 1 = ((bitsOf m (r a) / 2 ^ b % 2 : Nat) : Int) := by
    have := and16 (bitsOf m (r a) / 2 ^ b) 1 hd (by decide)
    rw [Nat.and_one_is_mod] at this
    exact this
  rw [hs, e1]
  simp only [hb, decide_true, Bool.true_and] at ht
  rw [← ht]
  congr 1
  by_cases h : bitsOf m (r a) / 2 ^ b % 2 = 1
  · simp [h]
  · have h0 : bitsOf m (r a) / 2 ^ b % 2 = 0 := by omega
    simp [h0]
theorem hasQ_tab (m : Nat) (hm : m ≤ 12) (r : Rel) (a b : Nat) (ha : a < m) (hb : b < m) : hasQ (tab m r) a b = r a b := by
  have h1 := has_f m hm r a b ha hb
  rw [hasQ_f _ _ _ (by rw [tab_len]; exact ha)] at h1
  injection h1
theorem nC_congr (p q : Nat → Nat → Nat → Bool) (n a b c : Nat) (hc : c ≤ n) (h : ∀ c, b < c → c < n → p a b c = q a b c) : nC p a b c = nC q a b c := by
  unfold nC
  refine List.countP_congr fun x hx => ?_
  rw [List.mem_range'_1] at hx
  rw [h x (by omega) (by omega)]
theorem nB_congr (p q : Nat → Nat → Nat → Bool) (n a b : Nat) (hb : b ≤ n) (h : ∀ b c, a < b → b < c → c < n → p a b c = q a b c) : nB p n a b = nB q n a b := by
  unfold nB
  congr 1
  refine List.map_congr_left fun x hx => ?_
  rw [List.mem_range'_1] at hx
  exact nC_congr p q n a x n (Nat.le_refl _) fun c h1 h2 => h x c (by omega) h1 h2
theorem nA_congr (p q : Nat → Nat → Nat → Bool) (n : Nat) (h : ∀ a b c, a < b → b < c → c < n → p a b c = q a b c) : nA p n n = nA q n n := by
  unfold nA
  congr 1
  exact List.map_congr_left fun x _ => nB_congr p q n x n (Nat.le_refl _) fun b c => h x b c
theorem flat_sum {α β : Type} (f : α → List β) : ∀ l : List α, (l.flatMap f).length = (l.map fun x => (f x).length).sum
  | [] => rfl
  | x :: l => by rw [List.flatMap_cons, List.length_append, List.map_cons, List.sum_cons, flat_sum f l]
theorem len_if {α : Type} (g : α → Bool) (e : α → List Int) : ∀ l : List α, (l.flatMap fun x => if g x then [e x] else []).length = l.countP g
  | [] => rfl
  | x :: l => by rw [List.flatMap_cons, List.length_append, len_if g e l, List.countP_cons]; cases g x <;> simp <;> omega
theorem tC_n (h : Nat → Nat → Bool) (a b c : Nat) : (tC h a b c).length = nC (allOf h) a b c := by
  unfold tC nC; exact len_if (fun c => h a b && h a c && h b c) (fun c => [(a : Int), (b : Int), (c : Int)]) _
theorem tB_n (h : Nat → Nat → Bool) (n a b : Nat) : (tB h n a b).length = nB (allOf h) n a b := by
  unfold tB nB; rw [flat_sum]; congr 1; exact List.map_congr_left fun b _ => tC_n h a b n
theorem tA_n (h : Nat → Nat → Bool) (n a : Nat) : (tA h n a).length = nA (allOf h) n a := by
  unfold tA nA; rw [flat_sum]; congr 1; exact List.map_congr_left fun a _ => tB_n h n a n
theorem tA_congr (h h' : Nat → Nat → Bool) (n : Nat) (e : ∀ a b, a < n → b < n → h a b = h' a b) : (tA h n n).length = (tA h' n n).length := by
  rw [tA_n, tA_n]
  refine nA_congr _ _ n fun a b c h1 h2 h3 => ?_
  unfold allOf; rw [e a b (by omega) (by omega), e a c (by omega) (by omega), e b c (by omega) (by omega)]
theorem lenQ_tab (m : Nat) (hm : m ≤ 12) (r : Rel) : lenQ (tab m r) = ((nA (allOf r) m m : Nat) : Int) := by
  unfold lenQ; rw [tab_len, tA_congr _ r m (hasQ_tab m hm r), tA_n]
theorem cnt4 {α : Type} (q : α → Nat) (hq : ∀ x, q x ≤ 3) : ∀ l : List α, l.countP (fun x => decide (q x = 0)) + l.countP (fun x => decide (q x = 1)) + l.countP (fun x => decide (q x = 2)) + l.countP (fun x => decide (q x = 3)) = l.countP (fun _ => true)
  | [] => rfl
  | x :: l => by
    have ih := cnt4 q hq l
    have e : l.countP (fun _ => true) = l.length := by simp
    rw [e] at ih
    have := hq x
    simp only [List.countP_cons, decide_eq_true_eq, if_true]
    have h4 : q x = 0 ∨ q x = 1 ∨ q x = 2 ∨ q x = 3 := by omega
    rcases h4 with h | h | h | h <;> simp [h] <;> omega
def qOf (r : Rel) (a b c : Nat) : Nat := (r a b).toNat + (r a c).toNat + (r b c).toNat
def pOf (r : Rel) (j a b c : Nat) : Bool := decide (qOf r a b c = j)
theorem sum4 {α : Type} (f g h i t : α → Nat) (he : ∀ x, f x + g x + h x + i x = t x) : ∀ l : List α, (l.map f).sum + (l.map g).sum + (l.map h).sum + (l.map i).sum = (l.map t).sum
  | [] => rfl
  | x :: l => by
    have := sum4 f g h i t he l
    have := he x
    simp only [List.map_cons, List.sum_cons]; omega
theorem nA4 (r : Rel) (n : Nat) : nA (pOf r 0) n n + nA (pOf r 1) n n + nA (pOf r 2) n n + nA (pOf r 3) n n = nA (fun _ _ _ => true) n n :=
  sum4 _ _ _ _ _ (fun a => sum4 _ _ _ _ _ (fun b => cnt4 (qOf r a b) (fun c => by unfold qOf; cases r a b <;> cases r a c <;> cases r b c <;> decide) _) _) _
theorem nC_le (p : Nat → Nat → Nat → Bool) (a b c : Nat) (hc : c ≤ 12) : nC p a b c ≤ 12 := by
  unfold nC
  exact Nat.le_trans (List.countP_le_length) (by rw [List.length_range']; omega)
theorem sum_le3 {α : Type} (f : α → Nat) (m : Nat) : ∀ l : List α, (∀ x, f x ≤ m) → (l.map f).sum ≤ l.length * m
  | [], _ => by simp
  | x :: l, h => by
    have := sum_le3 f m l h
    have := h x
    rw [List.map_cons, List.sum_cons, List.length_cons, Nat.add_mul, Nat.one_mul]; omega
theorem nB_le (p : Nat → Nat → Nat → Bool) (n a b : Nat) (hn : n ≤ 12) (hb : b ≤ 12) : nB p n a b ≤ 144 := by
  have := sum_le3 (fun b => nC p a b n) 12 (List.range' (a + 1) (b - (a + 1))) fun x => nC_le p a x n hn
  rw [List.length_range'] at this
  unfold nB; omega
theorem nA_le (p : Nat → Nat → Nat → Bool) (n a : Nat) (hn : n ≤ 12) (ha : a ≤ 12) : nA p n a ≤ 1728 := by
  have := sum_le3 (fun a => nB p n a n) 144 (List.range a) fun x => nB_le p n x n hn hn
  rw [List.length_range] at this
  unfold nA; omega
def othR (r : Rel) : Rel := fun x y => !r x y && decide (y ≠ x)
def andn (x y : Nat) : Nat := (BitVec.ofNat 16 x &&& ~~~BitVec.ofNat 16 y).toNat
theorem andn_lt (x y : Nat) : andn x y < 65536 := (BitVec.ofNat 16 x &&& ~~~BitVec.ofNat 16 y).isLt
theorem andNot16 (x y : Nat) : Go.bits .andNot .u16 (x : Int) (y : Int) = ((andn x y : Nat) : Int) := by
  have h := andn_lt x y
  show IntKind.u16.wrap _ = _
  rw [BitVec.ofInt_natCast, BitVec.ofInt_natCast]
  exact wraps_u16 _ (Int.natCast_nonneg _) (by exact_mod_cast h)
theorem pow_u16 (b : Nat) (h : b ≤ 12) : 2 ^ b < 65536 := Nat.lt_of_le_of_lt (Nat.pow_le_pow_right (by decide) h) (by decide)
theorem shl1 (b : Nat) (h : b ≤ 12) : shl .u16 1 (b : Int) = ((2 ^ b : Nat) : Int) := by
  have : b = 0 ∨ b = 1 ∨ b = 2 ∨ b = 3 ∨ b = 4 ∨ b = 5 ∨ b = 6 ∨ b = 7 ∨ b = 8 ∨ b = 9 ∨ b = 10 ∨ b = 11 ∨ b = 12 := by omega
  rcases this with rfl | rfl | rfl | rfl | rfl | rfl | rfl | rfl | rfl | rfl | rfl | rfl | rfl <;> decide
theorem testBit_andn (x y i : Nat) (hx : x < 65536) : (andn x y).testBit i = (x.testBit i && !y.testBit i) := by
  unfold andn
  rw [BitVec.testBit_toNat, BitVec.getLsbD_and, BitVec.getLsbD_not, BitVec.getLsbD_ofNat, BitVec.getLsbD_ofNat]
  by_cases h : i < 16
  · simp [h]
  · have : x.testBit i = false := Nat.testBit_lt_two_pow (Nat.lt_of_lt_of_le hx (Nat.le_trans (show 65536 ≤ 2 ^ 16 by decide) (Nat.pow_le_pow_right (by decide) (by omega))))
    simp [h, this]
theorem others_row (m : Nat) (hm : m ≤ 12) (f : Nat → Bool) (a : Nat) (ha : a < m) : Go.bits .andNot .u16 (Go.bits .andNot .u16 (IntKind.u16.wrap ((shl .u16 1 (m : Int)) - 1)) ((bitsOf m f : Nat) : Int)) (shl .u16 1 (a : Int)) = ((bitsOf m (fun y => !f y && decide (y ≠ a)) : Nat) : Int) := by
  have hp := Nat.two_pow_pos m
  have hq := pow_u16 m hm
  have e : IntKind.u16.wrap ((shl .u16 1 (m : Int)) - 1) = ((2 ^ m - 1 : Nat) : Int) := by
    rw [shl1 m hm, Int.natCast_sub hp]
    exact wraps_u16 _ (by omega) (by omega)
  rw [e, shl1 a (by omega), andNot16, andNot16]
  congr 1
  apply Nat.eq_of_testBit_eq
  intro i
  rw [testBit_andn _ _ _ (andn_lt _ _), testBit_andn _ _ _ (by omega), Nat.testBit_two_pow_sub_one, testBit_bitsOf, testBit_bitsOf, Nat.testBit_two_pow]
  by_cases hi : i < m
  · by_cases e2 : i = a
    · subst e2; simp
    · have e3 : ¬ a = i := fun h => e2 h.symm
      simp [hi, e2, e3]
  · simp [hi]
theorem bitsOf_congr (m : Nat) (f g : Nat → Bool) (h : ∀ i, i < m → f i = g i) : bitsOf m f = bitsOf m g := by
  apply Nat.eq_of_testBit_eq
  intro i
  rw [testBit_bitsOf, testBit_bitsOf]
  by_cases hi : i < m
  · simp [hi, h i hi]
  · simp [hi]
theorem map_range_congr {α : Type} (m : Nat) (f g : Nat → α) (h : ∀ a, a < m → f a = g a) : (List.range m).map f = (List.range m).map g := List.map_congr_left fun a ha => h a (List.mem_range.1 ha)
theorem tab_congr (m : Nat) (r s : Rel) (h : ∀ a b, a < m → b < m → r a b = s a b) : tab m r = tab m s := map_range_congr m _ _ fun a ha => by rw [bitsOf_congr m _ _ fun b hb => h a b ha hb]
theorem map_range_set {α : Type} (m : Nat) (f : Nat → α) (a : Nat) (v : α) : ((List.range m).map f).set a v = (List.range m).map fun i => if i = a then v else f i := by
  apply List.ext_getElem?
  intro j
  rw [List.getElem?_set]
  by_cases hj : j < m
  · by_cases e : a = j
    · subst e; simp [hj]
    · have e' : ¬ j = a := fun h => e h.symm
      simp [hj, e, e']
  · by_cases e : a = j
    · subst e; simp [hj]
    · simp [hj, e]
theorem tab_set (m : Nat) (r : Rel) (a : Nat) (f : Nat → Bool) : (tab m r).set a ((bitsOf m f : Nat) : Int) = tab m (fun x => if x = a then f else r x) := by
  unfold tab
  rw [map_range_set]
  refine map_range_congr m _ _ fun i hi => ?_
  by_cases e : i = a <;> simp [e]
theorem others_l0 (m : Nat) (hm : m ≤ 12) (r : Rel) : ∀ (d a : Nat), a + d = m → Ev (fun k => impl_table_others.l0 k (tab m r) (tab m (fun x y => if x < a then othR r x y else false)) (m : Int) (a : Int)) (tab m (othR r))
  | 0, a, hd => by
    obtain rfl : a = m := by omega
    refine Ev.one (fun k => ?_)
    rw [impl_table_others.l0, if_neg (by omega)]
    congr 1
    exact tab_congr a _ _ fun x y hx hy => by simp [hx]
  | d + 1, a, hd => by
    refine Ev.step (fun k => ?_) (others_l0 m hm r d (a + 1) (by omega))
    rw [impl_table_others.l0, if_pos (by omega), if_pos (by omega), tab_len, if_pos (by omega), tab_len, if_pos (by omega), tab_at m r a (by omega), others_row m hm (r a) a (by omega), Int.toNat_natCast, tab_set, w1 (by omega)]
    congr 1
    refine tab_congr m _ _ fun x y hx hy => ?_
    by_cases h : x = a
    · subst h; simp [othR]
    · have : x < a ↔ x < a + 1 := by omega
      simp [h, this]
theorem map_range_const {α : Type} (c : α) : ∀ m : Nat, (List.range m).map (fun _ => c) = List.replicate m c
  | 0 => rfl
  | m + 1 => by rw [List.range_succ, List.map_append, map_range_const c m, List.replicate_succ']; rfl
theorem tab_false (m : Nat) : tab m (fun _ _ => false) = List.replicate m 0 := by
  unfold tab
  rw [← map_range_const (0 : Int) m]
  refine map_range_congr m _ _ fun i hi => ?_
  have : bitsOf m (fun _ => false) = 0 := by
    apply Nat.eq_of_testBit_eq
    intro i
    rw [testBit_bitsOf]; simp
  rw [this]; rfl
theorem others_ev (m : Nat) (hm : m ≤ 12) (r : Rel) : Ev (fun k => impl_table_others.f k (tab m r)) (tab m (othR r)) := by
  unfold impl_table_others.f
  simp only [tab_len]
  simp only [if_pos (show (0 : Int) ≤ (m : Int) by omega), Int.toNat_natCast, if_pos (show m ≤ 140737488355328 by omega)]
  have h := others_l0 m hm r m 0 (by omega)
  have e : tab m (fun x y => if x < 0 then othR r x y else false) = List.replicate m 0 := by rw [← tab_false]; exact tab_congr m _ _ fun x y _ _ => by simp
  rw [e] at h
  exact h
theorem p0_all (r : Rel) (n : Nat) : nA (pOf r 0) n n = nA (allOf (othR r)) n n := nA_congr _ _ n fun a b c h1 h2 _ => by
  unfold pOf qOf allOf othR
  rw [decide_eq_true (show b ≠ a by omega), decide_eq_true (show c ≠ a by omega), decide_eq_true (show c ≠ b by omega)]
  cases r a b <;> cases r a c <;> cases r b c <;> rfl
theorem p3_all (r : Rel) (n : Nat) : nA (pOf r 3) n n = nA (allOf r) n n := nA_congr _ _ n fun a b c _ _ _ => by
  unfold pOf qOf allOf; cases r a b <;> cases r a c <;> cases r b c <;> rfl
/-! the number of pairs -/
def below (m : Nat) : Nat → Nat
  | 0 => 0
  | a + 1 => below m a + (m - 1 - a)
theorem below_all (m : Nat) (h : m ≤ 12) : Int.tdiv ((m : Int) * ((m : Int) - 1)) 2 = (below m m : Int) := by
  have : m = 0 ∨ m = 1 ∨ m = 2 ∨ m = 3 ∨ m = 4 ∨ m = 5 ∨ m = 6 ∨ m = 7 ∨ m = 8 ∨ m = 9 ∨ m = 10 ∨ m = 11 ∨ m = 12 := by omega
  rcases this with rfl | rfl | rfl | rfl | rfl | rfl | rfl | rfl | rfl | rfl | rfl | rfl | rfl <;> rfl
/-- where a pair stands among all pairs of m people -/
def rank (m : Nat) (x : S80) : Nat := below m x.f0.toNat + (x.f1.toNat - x.f0.toNat - 1)
theorem below_mono (m a : Nat) : ∀ d, below m a ≤ below m (a + d)
  | 0 => Nat.le_refl _
  | d + 1 => Nat.le_trans (below_mono m a d) (by show below m (a + d) ≤ below m (a + d) + _; omega)
theorem rank_lt (m : Nat) (p x : S80) (h : lt2 p x = true) (p0 : 0 ≤ p.f0) (p1 : p.f0 < p.f1) (p2 : p.f1 < m) (x0 : 0 ≤ x.f0) (x1 : x.f0 < x.f1) : rank m p < rank m x := by
  unfold lt2 at h
  unfold rank
  simp at h
  rcases h with h | ⟨h, h2⟩
  · have h1 := below_mono m (p.f0.toNat + 1) (x.f0.toNat - (p.f0.toNat + 1))
    rw [show p.f0.toNat + 1 + (x.f0.toNat - (p.f0.toNat + 1)) = x.f0.toNat by omega] at h1
    have h3 : below m (p.f0.toNat + 1) = below m p.f0.toNat + (m - 1 - p.f0.toNat) := rfl
    omega
  · rw [h]; omega
theorem rank_top (m : Nat) (x : S80) (x0 : 0 ≤ x.f0) (x1 : x.f0 < x.f1) (x2 : x.f1 < m) : rank m x < below m m := by
  unfold rank
  have h1 := below_mono m (x.f0.toNat + 1) (m - (x.f0.toNat + 1))
  rw [show x.f0.toNat + 1 + (m - (x.f0.toNat + 1)) = m by omega] at h1
  have h3 : below m (x.f0.toNat + 1) = below m x.f0.toNat + (m - 1 - x.f0.toNat) := rfl
  omega
theorem okFrom_len (m : Nat) : ∀ (l : List S80) (p : S80), 0 ≤ p.f0 → p.f0 < p.f1 → p.f1 < m → okFrom m (some p) l = true → rank m p + l.length < below m m
  | [], p, p0, p1, p2, _ => rank_top m p p0 p1 p2
  | x :: xs, p, p0, p1, p2, h => by
    simp [okFrom, okPrev] at h
    obtain ⟨⟨x0, x1, x2, hlt⟩, h⟩ := h
    have ih := okFrom_len m xs x x0 x1 x2 h
    have := rank_lt m p x hlt p0 p1 p2 x0 x1
    simp only [List.length_cons]
    omega
theorem good_len (m : Nat) (l : List S80) (h : okFrom m none l = true) : l.length ≤ below m m := by
  cases l with
  | nil => simp
  | cons x xs =>
    simp [okFrom, okPrev] at h
    obtain ⟨⟨x0, x1, x2⟩, h⟩ := h
    have := okFrom_len m xs x x0 x1 x2 h
    simp only [List.length_cons]
    omega
theorem l1In_f (a lo hi : Int) : spec_l1In.f a lo hi = some (decide (lo ≤ a) && decide (a ≤ hi)) := by
  unfold spec_l1In.f
  by_cases h : lo ≤ a
  · rw [if_pos h]; simp [h]
  · rw [if_neg h]; simp [h]
theorem paLess_f (p x : S80) : spec_paLess.f p.f0 p.f1 x.f0 x.f1 = some (lt2 p x) := by
  unfold spec_paLess.f lt2
  by_cases h : p.f0 < x.f0
  · simp [h]
  · by_cases h2 : p.f0 = x.f0
    · simp [h2]
    · simp [h, h2]
theorem paGood_l0 (m : Nat) (hm : m ≤ 12) (l : List S80) (hl : l.length < 4611686018427387904) : ∀ (rest pre : List S80), l = pre ++ rest → Ev (fun k => spec_paGood.l0 k l (l.length : Int) (pre.length : Int) (m : Int) l) (okFrom m pre.getLast? rest)
  | [], pre, h => by
    refine Ev.one (fun k => ?_)
    have e : l.length = pre.length := by rw [h]; simp
    rw [spec_paGood.l0, if_neg (by omega)]
    simp [okFrom]
  | x :: rest, pre, h => by
    have hlen : pre.length < l.length := by rw [h]; simp
    have hx : rd_T80 l (pre.length : Int) = x := by rw [h]; exact rdT_mid pre rest x
    have ih := paGood_l0 m hm l hl rest (pre ++ [x]) (by rw [h]; simp)
    rw [List.getLast?_concat, List.length_append, List.length_singleton] at ih
    have em : wrap64 ((m : Int) - 1) = (m : Int) - 1 := w64 (by omega) (by omega)
    by_cases c1 : 0 ≤ x.f0 ∧ x.f0 ≤ (m : Int) - 1
    · have e1 : wrap64 (x.f0 + 1) = x.f0 + 1 := w64 (by omega) (by omega)
      have b1 : (decide (0 ≤ x.f0) && decide (x.f0 ≤ (m : Int) - 1)) = true := by simp; exact c1
      by_cases c2 : x.f0 + 1 ≤ x.f1 ∧ x.f1 ≤ (m : Int) - 1
      · have b2 : (decide (x.f0 + 1 ≤ x.f1) && decide (x.f1 ≤ (m : Int) - 1)) = true := by simp; exact c2
        have d1 : decide (0 ≤ x.f0) = true := by simp; omega
        have d2 : decide (x.f0 < x.f1) = true := by simp; omega
        have d3 : decide (x.f1 < (m : Int)) = true := by simp; omega
        rcases List.eq_nil_or_concat pre with rfl | ⟨q, p, rfl⟩
        · refine Ev.cast (Ev.step (fun k => ?_) ih) ?_
          · rw [spec_paGood.l0, if_pos (by omega), if_pos (by omega), if_pos (by omega), hx, em, e1, l1In_f, l1In_f, b1, b2]
            simp only [Option.bind_some, if_true]
            rw [if_neg (by simp), w1 (by simp)]
          · simp [okFrom, d1, d2, d3, okPrev]
        · rw [List.concat_eq_append] at hlen hx ih h ⊢
          have hp : rd_T80 l (q.length : Int) = p := by rw [h, List.append_assoc]; exact rdT_mid q (x :: rest) p
          have hq : (q ++ [p]).length = q.length + 1 := by simp
          rw [hq] at hlen hx ih ⊢
          rw [List.getLast?_concat]
          cases hlt : lt2 p x with
          | true =>
            refine Ev.cast (Ev.step (fun k => ?_) ih) ?_
            · rw [spec_paGood.l0, if_pos (by omega), if_pos (by omega), if_pos (by omega), hx, em, e1, l1In_f, l1In_f, b1, b2]
              simp only [Option.bind_some, if_true]
              rw [if_pos (by omega), w64 (i := ((q.length + 1 : Nat) : Int) - 1) (by omega) (by omega), show ((q.length + 1 : Nat) : Int) - 1 = (q.length : Int) by omega, if_pos (by omega), if_pos (by omega), hp, paLess_f, hlt, w1 (by omega)]
              rfl
            · simp [okFrom, d1, d2, d3, okPrev, hlt]
          | false =>
            refine Ev.one (fun k => ?_)
            rw [spec_paGood.l0, if_pos (by omega), if_pos (by omega), if_pos (by omega), hx, em, e1, l1In_f, l1In_f, b1, b2]
            simp only [Option.bind_some, if_true]
            rw [if_pos (by omega), w64 (i := ((q.length + 1 : Nat) : Int) - 1) (by omega) (by omega), show ((q.length + 1 : Nat) : Int) - 1 = (q.length : Int) by omega, if_pos (by omega), if_pos (by omega), hp, paLess_f, hlt]
            simp [okFrom, okPrev, hlt]
      · refine Ev.one (fun k => ?_)
        have b2 : (decide (x.f0 + 1 ≤ x.f1) && decide (x.f1 ≤ (m : Int) - 1)) = false := by simp; omega
        rw [spec_paGood.l0, if_pos (by omega), if_pos (by omega), if_pos (by omega), hx, em, e1, l1In_f, l1In_f, b1, b2]
        have : (decide (x.f0 < x.f1) && decide (x.f1 < (m : Int))) = false := by simp; omega
        simp only [okFrom, ← Bool.and_assoc (decide (x.f0 < x.f1)), this]
        simp
    · refine Ev.one (fun k => ?_)
      have b1 : (decide (0 ≤ x.f0) && decide (x.f0 ≤ (m : Int) - 1)) = false := by simp; omega
      rw [spec_paGood.l0, if_pos (by omega), if_pos (by omega), if_pos (by omega), hx, em, l1In_f, b1]
      have : (decide (0 ≤ x.f0) && (decide (x.f0 < x.f1) && (decide (x.f1 < (m : Int)) && okPrev pre.getLast? x))) = false := by
        by_cases z0 : 0 ≤ x.f0
        · by_cases z1 : x.f0 < x.f1
          · have : ¬ x.f1 < (m : Int) := by omega
            simp [this]
          · simp [z1]
        · simp [z0]
      simp [okFrom, this]
theorem paPeople_f (a : Int) : spec_paPeople.f a = some (decide (0 ≤ a ∧ a ≤ 12)) := by
  unfold spec_paPeople.f
  rw [l1In_f]; simp [Bool.decide_and]
theorem paGood_ev (n : Int) (l : List S80) (hl : l.length < 4611686018427387904) : Ev (fun k => spec_paGood.f k n l) (good n l) := by
  unfold spec_paGood.f
  rw [paPeople_f]
  by_cases h : 0 ≤ n ∧ n ≤ 12
  · obtain ⟨m, rfl⟩ := Int.eq_ofNat_of_zero_le h.1
    have hm : m ≤ 12 := by omega
    have hc : crowd (m : Int) = true := by unfold crowd; simp; omega
    have hmul : (m : Int) * ((m : Int) - 1) ≤ 144 := by
      have : m = 0 ∨ m = 1 ∨ m = 2 ∨ m = 3 ∨ m = 4 ∨ m = 5 ∨ m = 6 ∨ m = 7 ∨ m = 8 ∨ m = 9 ∨ m = 10 ∨ m = 11 ∨ m = 12 := by omega
      rcases this with rfl | rfl | rfl | rfl | rfl | rfl | rfl | rfl | rfl | rfl | rfl | rfl | rfl <;> decide
    have hmul0 : 0 ≤ (m : Int) * ((m : Int) - 1) := by
      have : m = 0 ∨ m = 1 ∨ m = 2 ∨ m = 3 ∨ m = 4 ∨ m = 5 ∨ m = 6 ∨ m = 7 ∨ m = 8 ∨ m = 9 ∨ m = 10 ∨ m = 11 ∨ m = 12 := by omega
      rcases this with rfl | rfl | rfl | rfl | rfl | rfl | rfl | rfl | rfl | rfl | rfl | rfl | rfl <;> decide
    have hb : (below m m : Int) ≤ 144 := by
      have : m = 0 ∨ m = 1 ∨ m = 2 ∨ m = 3 ∨ m = 4 ∨ m = 5 ∨ m = 6 ∨ m = 7 ∨ m = 8 ∨ m = 9 ∨ m = 10 ∨ m = 11 ∨ m = 12 := by omega
      rcases this with rfl | rfl | rfl | rfl | rfl | rfl | rfl | rfl | rfl | rfl | rfl | rfl | rfl <;> decide
    have e : wrap64 (Int.tdiv (wrap64 ((m : Int) * (wrap64 ((m : Int) - 1)))) 2) = (below m m : Int) := by
      rw [w64 (i := (m : Int) - 1) (by omega) (by omega), w64 (i := (m : Int) * ((m : Int) - 1)) (by omega) (by omega), below_all m hm, w64 (by omega) (by omega)]
    simp only [h, decide_true, Option.bind_some, if_true, e, and_self]
    unfold good
    rw [hc, Bool.true_and]
    by_cases hlen : l.length ≤ below m m
    · refine Ev.step (fun k => ?_) (paGood_l0 m hm l hl l [] rfl)
      have : decide ((l.length : Int) > (below m m : Int)) = false := by simp; omega
      rw [this, spec_paGood.j0, if_neg (by decide)]
      rfl
    · refine Ev.one (fun k => ?_)
      have : decide ((l.length : Int) > (below m m : Int)) = true := by simp; omega
      rw [this, spec_paGood.j0, if_pos rfl]
      have hn : okFrom (m : Int) none l = false := by
        cases hok : okFrom (m : Int) none l with
        | false => rfl
        | true => exact absurd (good_len m l hok) hlen
      rw [hn]
  · have hc : crowd n = false := by unfold crowd; simp; omega
    simp only [h, decide_false, Option.bind_some]
    unfold good
    rw [hc]
    refine Ev.one (fun k => ?_)
    rw [if_neg (by decide), spec_paGood.j0]; simp

theorem hasP_nil : hasP [] = fun _ _ => false := by funext x y; rfl
theorem bitsOf_or (m : Nat) (f : Nat → Bool) (b : Nat) (hb : b < m) : bitsOf m f ||| 2 ^ b = bitsOf m fun j => if j = b then true else f j := by
  apply Nat.eq_of_testBit_eq
  intro i
  rw [Nat.testBit_or, testBit_bitsOf, testBit_bitsOf, Nat.testBit_two_pow]
  by_cases e : i = b
  · subst e; simp [hb]
  · have e' : ¬ b = i := fun h => e h.symm
    simp [e, e']
theorem or16 (x y : Nat) (hx : x < 65536) (hy : y < 65536) : Go.bits .or .u16 (x : Int) (y : Int) = ((x ||| y : Nat) : Int) := (bits_nat .u16 16 (by decide) wraps_u16 x y hx hy).2
def upd (r : Rel) (a b : Nat) (v : Bool) : Rel := fun x y => if x = a ∧ y = b then v else r x y
theorem tab_or (m : Nat) (hm : m ≤ 12) (r : Rel) (a b : Nat) (ha : a < m) (hb : b < m) : (tab m r).set a (Go.bits .or .u16 (rd (tab m r) (a : Int)) (shl .u16 1 (b : Int))) = tab m (upd r a b true) := by
  rw [tab_at m r a ha, shl1 b (by omega), or16 _ _ (bitsOf_u16 m hm _) (pow_u16 b (by omega)), bitsOf_or m _ b hb, tab_set]
  refine tab_congr m _ _ fun x y hx hy => ?_
  by_cases e : x = a
  · subst e; simp [upd]
  · simp [upd, e]
theorem hasP_snoc (pre : List S80) (a b x y : Nat) : hasP (pre ++ [⟨(a : Int), (b : Int)⟩]) x y = (hasP pre x y || ((decide (a = x) && decide (b = y)) || (decide (a = y) && decide (b = x)))) := by
  unfold hasP
  rw [List.any_append]
  congr 1
  simp only [List.any_cons, List.any_nil, Bool.or_false]
  have e : ∀ u v : Nat, ((u : Int) == (v : Int)) = decide (u = v) := fun u v => by
    by_cases h : u = v
    · simp [h]
    · have : ¬ (u : Int) = (v : Int) := by omega
      simp [h, this]
  rw [e, e, e, e]
theorem upd2_hasP (pre : List S80) (a b : Nat) : upd (upd (hasP pre) a b true) b a true = hasP (pre ++ [⟨(a : Int), (b : Int)⟩]) := by
  funext x y
  rw [hasP_snoc]
  unfold upd
  by_cases h1 : x = b ∧ y = a
  · simp [h1]
  · by_cases h2 : x = a ∧ y = b
    · simp [h2]
    · have e1 : (decide (a = x) && decide (b = y)) = false := by simp; intro h3 h4; exact h2 ⟨h3.symm, h4.symm⟩
      have e2 : (decide (a = y) && decide (b = x)) = false := by simp; intro h3 h4; exact h1 ⟨h4.symm, h3.symm⟩
      simp [h1, h2, e1, e2]
theorem table_l0 (m : Nat) (hm : m ≤ 12) (l : List S80) (hl : l.length < 4611686018427387904) (hn : natPairs m l) : ∀ (rest pre : List S80), l = pre ++ rest → Ev (fun k => impl_Party_table.l0 k (tab m (hasP pre)) l (l.length : Int) (pre.length : Int)) (tab m (hasP l))
  | [], pre, h => by
    refine Ev.one (fun k => ?_)
    have e : l = pre := by rw [h]; simp
    rw [impl_Party_table.l0, if_neg (by rw [e]; omega), e]
  | x :: rest, pre, h => by
    have hlen : pre.length < l.length := by rw [h]; simp
    obtain ⟨a, b, rfl, hab, hb⟩ := hn x (by rw [h]; simp)
    have hx : rd_T80 l (pre.length : Int) = ⟨(a : Int), (b : Int)⟩ := by rw [h]; exact rdT_mid pre rest _
    have ih := table_l0 m hm l hl hn rest (pre ++ [⟨(a : Int), (b : Int)⟩]) (by rw [h]; simp)
    rw [List.length_append, List.length_singleton, ← upd2_hasP] at ih
    refine Ev.step (fun k => ?_) ih
    rw [impl_Party_table.l0, if_pos (by omega), if_pos (by omega), if_pos (by omega), hx]
    dsimp only
    rw [tab_len, if_pos (by omega), if_pos (by omega), if_pos (by omega), Int.toNat_natCast, Int.toNat_natCast, tab_or m hm _ a b (by omega) (by omega)]
    simp only [Option.bind_some]
    rw [if_pos (by omega), tab_or m hm _ b a (by omega) (by omega), w1 (by omega)]
theorem table_ev (m : Nat) (hm : m ≤ 12) (l : List S80) (hl : l.length < 4611686018427387904) (hn : natPairs m l) : Ev (fun k => impl_Party_table.f k (m : Int) l) (tab m (hasP l)) := by
  unfold impl_Party_table.f
  simp only [if_pos (show (0 : Int) ≤ (m : Int) by omega), Int.toNat_natCast, if_pos (show m ≤ 140737488355328 by omega)]
  have := table_l0 m hm l hl hn l [] rfl
  rw [hasP_nil, tab_false] at this
  exact this

/-! ### matrices -/
def mat (m : Nat) (r : Rel) : List (List Bool) := (List.range m).map fun a => (List.range m).map fun b => r a b
theorem mat_len (m : Nat) (r : Rel) : (mat m r).length = m := by simp [mat]
theorem mat_false (m : Nat) : mat m (fun _ _ => false) = List.replicate m (List.replicate m false) := by
  unfold mat; rw [map_range_const, map_range_const]
theorem mat_row (m : Nat) (r : Rel) (a : Nat) (h : a < m) : rd_L4 (mat m r) (a : Int) = (List.range m).map fun b => r a b := map_range_getD m _ _ a h
theorem mat_set (m : Nat) (r : Rel) (a b : Nat) (v : Bool) (ha : a < m) : (mat m r).set a ((rd_L4 (mat m r) (a : Int)).set b v) = mat m (upd r a b v) := by
  rw [mat_row m r a ha, map_range_set]
  show ((List.range m).map fun a => (List.range m).map fun b => r a b).set a _ = _
  rw [map_range_set]
  refine map_range_congr m _ _ fun i hi => ?_
  by_cases e : i = a
  · subst e
    rw [if_pos rfl]
    refine map_range_congr m _ _ fun j hj => ?_
    simp [upd]
  · rw [if_neg e]
    refine map_range_congr m _ _ fun j hj => ?_
    simp [upd, e]
theorem paTable_l1 (m : Nat) (l : List S80) (hl : l.length < 4611686018427387904) (hn : natPairs m l) : ∀ (rest pre : List S80), l = pre ++ rest → Ev (fun k => spec_paTable.l1 k (mat m (hasP pre)) l (l.length : Int) (pre.length : Int)) (mat m (hasP l))
  | [], pre, h => by
    refine Ev.one (fun k => ?_)
    have e : l = pre := by rw [h]; simp
    rw [spec_paTable.l1, if_neg (by rw [e]; omega), e]
  | x :: rest, pre, h => by
    have hlen : pre.length < l.length := by rw [h]; simp
    obtain ⟨a, b, rfl, hab, hb⟩ := hn x (by rw [h]; simp)
    have hx : rd_T80 l (pre.length : Int) = ⟨(a : Int), (b : Int)⟩ := by rw [h]; exact rdT_mid pre rest _
    have ih := paTable_l1 m l hl hn rest (pre ++ [⟨(a : Int), (b : Int)⟩]) (by rw [h]; simp)
    rw [List.length_append, List.length_singleton, ← upd2_hasP] at ih
    refine Ev.step (fun k => ?_) ih
    have hrow : (rd_L4 (mat m (hasP pre)) (a : Int)).length = m := by rw [mat_row _ _ _ (by omega)]; simp
    have hrow2 : (rd_L4 (mat m (upd (hasP pre) a b true)) (b : Int)).length = m := by rw [mat_row _ _ _ (by omega)]; simp
    rw [spec_paTable.l1, if_pos (by omega), if_pos (by omega), if_pos (by omega), hx]
    dsimp only
    rw [mat_len, hrow, if_pos (by omega), if_pos (by omega), if_pos (by omega), if_pos (by omega), Int.toNat_natCast, Int.toNat_natCast, mat_set _ _ _ _ _ (by omega)]
    simp only [Option.bind_some]
    rw [if_pos (by omega), hrow2, if_pos (by omega), mat_set _ _ _ _ _ (by omega), w1 (by omega)]
theorem paTable_l0 (m : Nat) (hm : m ≤ 12) (l : List S80) (hl : l.length < 4611686018427387904) (hn : natPairs m l) : ∀ (d i : Nat), i + d = m → Ev (fun k => spec_paTable.l0 k (List.replicate i (List.replicate m false)) (i : Int) (m : Int) l) (mat m (hasP l))
  | 0, i, hd => by
    refine Ev.step (fun k => ?_) (paTable_l1 m l hl hn l [] rfl)
    obtain rfl : i = m := by omega
    rw [spec_paTable.l0, if_neg (by omega), hasP_nil, mat_false]
    rfl
  | d + 1, i, hd => by
    refine Ev.step (fun k => ?_) (paTable_l0 m hm l hl hn d (i + 1) (by omega))
    rw [spec_paTable.l0, if_pos (by omega), if_pos (by omega), if_pos (by omega), if_pos (by simp; omega), w1 (by omega), Int.toNat_natCast, List.replicate_succ']
theorem paTable_ev (m : Nat) (hm : m ≤ 12) (l : List S80) (hl : l.length < 4611686018427387904) (hn : natPairs m l) : Ev (fun k => spec_paTable.f k (m : Int) l) (mat m (hasP l)) := by
  unfold spec_paTable.f
  exact paTable_l0 m hm l hl hn m 0 (by omega)
theorem nA_succ (p : Nat → Nat → Nat → Bool) (n a : Nat) : nA p n (a + 1) = nA p n a + nB p n a n := by
  unfold nA; rw [List.range_succ, List.map_append, List.sum_append]; simp
theorem range_one (m c : Nat) (h : m ≤ c) : List.range' m (c + 1 - m) = List.range' m (c - m) ++ [c] := by
  rw [show c + 1 - m = (c - m) + 1 by omega, List.range'_concat]
  congr 2; omega
theorem nB_succ (p : Nat → Nat → Nat → Bool) (n a b : Nat) (hb : a + 1 ≤ b) : nB p n a (b + 1) = nB p n a b + nC p a b n := by
  unfold nB; rw [range_one _ _ hb, List.map_append, List.sum_append]; simp
theorem mat_at (m : Nat) (r : Rel) (a b : Nat) (h : a < m) (h2 : b < m) : rdOf false (rd_L4 (mat m r) (a : Int)) (b : Int) = r a b := by
  rw [mat_row m r a h]; exact map_range_getD m _ _ b h2
theorem nC_succ (p : Nat → Nat → Nat → Bool) (a b c : Nat) (hc : b + 1 ≤ c) : nC p a b (c + 1) = nC p a b c + (p a b c).toNat := by
  unfold nC; rw [range_one _ _ hc, List.countP_append]; cases h : p a b c <;> simp [h]
theorem tr_l3s (M : List (List Bool)) (L : List Int) (a b c n a' : Int) (y : List Bool) (hy : y.length = 3) (R : List Int) (s i : Nat) (hi : i < 3) (hs : s ≤ 3) (h : Ev (fun K => spec_trThrees.l3 K M L a b c ((s + (y.getD i false).toNat : Nat) : Int) n a' y 3 ((i + 1 : Nat) : Int)) R) : Ev (fun K => spec_trThrees.l3 K M L a b c (s : Int) n a' y 3 (i : Int)) R := by
  refine Ev.step (fun K => ?_) h
  have hr : rdOf false y (i : Int) = y.getD i false := by show y.getD (i : Int).toNat false = _; rw [Int.toNat_natCast]
  rw [spec_trThrees.l3, if_pos (by omega), if_pos (by omega), if_pos (by rw [hy]; omega), hr, w1 (by omega), w1 (by omega)]
  cases y.getD i false <;> simp
def vec4 (f : Nat → Nat) : List Int := [(f 0 : Int), (f 1 : Int), (f 2 : Int), (f 3 : Int)]
theorem vec4_rd (f : Nat → Nat) (q : Nat) (hq : q ≤ 3) : rd (vec4 f) (q : Int) = (f q : Int) := by
  have h4 : q = 0 ∨ q = 1 ∨ q = 2 ∨ q = 3 := by omega
  rcases h4 with rfl | rfl | rfl | rfl <;> simp [vec4, rd]
theorem vec4_set (f : Nat → Nat) (q : Nat) (hq : q ≤ 3) : (vec4 f).set q (rd (vec4 f) (q : Int) + 1) = vec4 fun j => f j + (decide (q = j)).toNat := by
  have h4 : q = 0 ∨ q = 1 ∨ q = 2 ∨ q = 3 := by omega
  rcases h4 with rfl | rfl | rfl | rfl <;> simp [vec4, rd]
theorem tr_l3 (M : List (List Bool)) (f : Nat → Nat) (hf : ∀ j, f j ≤ 1000000) (a b n a' : Int) (c : Nat) (hc : c ≤ 12) (u v x : Bool) (R : List Int) (h : Ev (fun K => spec_trThrees.l2 K M (vec4 fun j => f j + (decide (u.toNat + v.toNat + x.toNat = j)).toNat) a b ((c + 1 : Nat) : Int) n a') R) : Ev (fun K => spec_trThrees.l3 K M (vec4 f) a b (c : Int) 0 n a' [u, v, x] 3 0) R := by
  have hq : u.toNat + v.toNat + x.toNat ≤ 3 := by cases u <;> cases v <;> cases x <;> decide
  refine tr_l3s M _ a b _ n a' [u, v, x] rfl R 0 0 (by omega) (by omega) (tr_l3s M _ a b _ n a' [u, v, x] rfl R _ 1 (by omega) (by show 0 + u.toNat ≤ 3; cases u <;> decide) (tr_l3s M _ a b _ n a' [u, v, x] rfl R _ 2 (by omega) (by show 0 + u.toNat + v.toNat ≤ 3; cases u <;> cases v <;> decide) ?_))
  have e : (0 + ([u, v, x].getD 0 false).toNat + ([u, v, x].getD 1 false).toNat + ([u, v, x].getD 2 false).toNat) = u.toNat + v.toNat + x.toNat := by simp
  rw [e]
  refine Ev.step (fun K => ?_) h
  rw [← vec4_set f _ hq, spec_trThrees.l3, if_neg (by omega), if_pos (by omega), if_pos (by simp only [vec4, List.length_cons, List.length_nil]; omega), vec4_rd f _ hq, w1 (by have := hf (u.toNat + v.toNat + x.toNat); omega), w1 (by omega), Int.toNat_natCast]
  rfl
theorem tr_l2 (n : Nat) (hn : n ≤ 12) (r : Rel) (a b : Nat) (ha : a < b) (hb : b < n) (X : Nat → Nat) (hX : ∀ j, X j ≤ 100000) (R : List Int) (h : Ev (fun K => spec_trThrees.l1 K (mat n r) (vec4 fun j => X j + nC (pOf r j) a b n) (a : Int) ((b + 1 : Nat) : Int) (n : Int) (a : Int)) R) : ∀ (d c : Nat), c + d = n → b + 1 ≤ c → Ev (fun K => spec_trThrees.l2 K (mat n r) (vec4 fun j => X j + nC (pOf r j) a b c) (a : Int) (b : Int) (c : Int) (n : Int) (a : Int)) R
  | 0, c, hd, hc => by
    obtain rfl : c = n := by omega
    refine Ev.step (fun K => ?_) h
    rw [spec_trThrees.l2, mat_len, if_neg (by omega), w1 (by omega)]
  | d + 1, c, hd, hc => by
    have ih := tr_l2 n hn r a b ha hb X hX R h d (c + 1) (by omega) (by omega)
    have e : (fun j => X j + nC (pOf r j) a b (c + 1)) = fun j => (X j + nC (pOf r j) a b c) + (decide ((r a b).toNat + (r a c).toNat + (r b c).toNat = j)).toNat := by
      funext j; rw [nC_succ _ _ _ _ hc]; unfold pOf qOf; omega
    rw [e] at ih
    have hbd : ∀ j, X j + nC (pOf r j) a b c ≤ 1000000 := fun j => by
      have h1 : nC (pOf r j) a b c ≤ 12 := by
        unfold nC
        exact Nat.le_trans (List.countP_le_length) (by rw [List.length_range']; omega)
      have := hX j; omega
    have h3 := tr_l3 (mat n r) (fun j => X j + nC (pOf r j) a b c) hbd (a : Int) (b : Int) (n : Int) (a : Int) c (by omega) (r a b) (r a c) (r b c) R ih
    refine Ev.step (fun K => ?_) h3
    have r1 : (rd_L4 (mat n r) (a : Int)).length = n := by rw [mat_row _ _ _ (by omega)]; simp
    have r2 : (rd_L4 (mat n r) (b : Int)).length = n := by rw [mat_row _ _ _ (by omega)]; simp
    rw [spec_trThrees.l2, mat_len, if_pos (by omega), if_pos (by omega), if_pos (by omega), if_pos (by omega), r1, if_pos (by omega), if_pos (by omega), if_pos (by omega), if_pos (by omega), r2, if_pos (by omega), mat_at n r a b (by omega) (by omega), mat_at n r a c (by omega) (by omega), mat_at n r b c (by omega) (by omega)]
    rfl
theorem tr_l1 (n : Nat) (hn : n ≤ 12) (r : Rel) (a : Nat) (ha : a < n) (X : Nat → Nat) (hX : ∀ j, X j ≤ 2000) (R : List Int) (h : Ev (fun K => spec_trThrees.l0 K (mat n r) (vec4 fun j => X j + nB (pOf r j) n a n) (n : Int) ((a + 1 : Nat) : Int)) R) : ∀ (d b : Nat), b + d = n → a + 1 ≤ b → Ev (fun K => spec_trThrees.l1 K (mat n r) (vec4 fun j => X j + nB (pOf r j) n a b) (a : Int) (b : Int) (n : Int) (a : Int)) R
  | 0, b, hd, hb => by
    obtain rfl : b = n := by omega
    refine Ev.step (fun K => ?_) h
    rw [spec_trThrees.l1, mat_len, if_neg (by omega), w1 (by omega)]
  | d + 1, b, hd, hb => by
    have ih := tr_l1 n hn r a ha X hX R h d (b + 1) (by omega) (by omega)
    have e : (fun j => X j + nB (pOf r j) n a (b + 1)) = fun j => (X j + nB (pOf r j) n a b) + nC (pOf r j) a b n := by
      funext j; rw [nB_succ _ _ _ _ hb]; omega
    rw [e] at ih
    have h2 := tr_l2 n hn r a b (by omega) (by omega) (fun j => X j + nB (pOf r j) n a b) (fun j => by have := hX j; have := nB_le (pOf r j) n a b hn (by omega); omega) R ih (n - (b + 1)) (b + 1) (by omega) (by omega)
    have e2 : (fun j => (X j + nB (pOf r j) n a b) + nC (pOf r j) a b (b + 1)) = fun j => X j + nB (pOf r j) n a b := by funext j; simp [nC]
    rw [e2] at h2
    refine Ev.step (fun K => ?_) h2
    rw [spec_trThrees.l1, mat_len, if_pos (by omega), w1 (by omega)]
theorem tr_l0 (n : Nat) (hn : n ≤ 12) (r : Rel) : ∀ (d a : Nat), a + d = n → Ev (fun K => spec_trThrees.l0 K (mat n r) (vec4 fun j => nA (pOf r j) n a) (n : Int) (a : Int)) (vec4 fun j => nA (pOf r j) n n)
  | 0, a, hd => by
    obtain rfl : a = n := by omega
    refine Ev.one fun K => ?_
    rw [spec_trThrees.l0, if_neg (by omega)]
  | d + 1, a, hd => by
    have ih := tr_l0 n hn r d (a + 1) (by omega)
    have e : (fun j => nA (pOf r j) n (a + 1)) = fun j => nA (pOf r j) n a + nB (pOf r j) n a n := by funext j; rw [nA_succ]
    rw [e] at ih
    have h1 := tr_l1 n hn r a (by omega) (fun j => nA (pOf r j) n a) (fun j => by have := nA_le (pOf r j) n a hn (by omega); omega) _ ih (n - (a + 1)) (a + 1) (by omega) (by omega)
    have e2 : (fun j => nA (pOf r j) n a + nB (pOf r j) n a (a + 1)) = fun j => nA (pOf r j) n a := by funext j; simp [nB]
    rw [e2] at h1
    refine Ev.step (fun K => ?_) h1
    rw [spec_trThrees.l0, if_pos (by omega), w1 (by omega)]
theorem trThrees_ev (m : Nat) (hm : m ≤ 12) (l : List S80) (hl : l.length < 4611686018427387904) (hn : natPairs m l) : Ev (fun k => spec_trThrees.f k (m : Int) l) (vec4 fun j => nA (pOf (hasP l) j) m m) := by
  unfold spec_trThrees.f
  refine Ev.bind (paTable_ev m hm l hl hn) ?_
  simp only [if_pos (show 4 ≤ 35184372088832 by omega), mat_len]
  have h := tr_l0 m hm (hasP l) m 0 (by omega)
  have e : vec4 (fun j => nA (pOf (hasP l) j) m 0) = List.replicate 4 0 := by simp [vec4, nA]
  rw [e] at h
  exact h
theorem CountThrees_common (n : Int) (l : List S80) (w : (Lit.int .i64 n).wf = true) (hl : l.length ≤ 1048576) : ∃ R : Int × Int × Int × Bool, Ev (fun k => spec_CountThrees.f k n l) R ∧ Ev (fun k => impl_CountThrees.f k n l) R := by
  cases hg : good n l with
  | false =>
    refine ⟨(0, 0, 0, false), ?_, ?_⟩
    · unfold spec_CountThrees.f
      refine Ev.bind (paGood_ev n l (by omega)) ?_
      simp only [hg, Bool.false_eq_true, if_false]; exact Ev.now _
    · unfold impl_CountThrees.f
      refine Ev.bind (implIsParty_ev n l (by omega)) ?_
      simp only [hg, Bool.false_eq_true, if_false]; exact Ev.now _
  | true =>
    have hg' := hg
    obtain ⟨m, rfl, hm, hn, ho⟩ := good_nat hg'
    refine ⟨(((nA (pOf (hasP l) 3) m m : Nat) : Int), ((nA (pOf (hasP l) 0) m m : Nat) : Int), ((nA (pOf (hasP l) 1) m m + nA (pOf (hasP l) 2) m m : Nat) : Int), true), ?_, ?_⟩
    · unfold spec_CountThrees.f
      refine Ev.bind (paGood_ev _ l (by omega)) ?_
      simp only [hg, if_true]
      refine Ev.bind (trThrees_ev m hm l (by omega) hn) ?_
      have b1 := nA_le (pOf (hasP l) 1) m m hm hm
      have b2 := nA_le (pOf (hasP l) 2) m m hm hm
      have e : wrap64 (((nA (pOf (hasP l) 1) m m : Nat) : Int) + ((nA (pOf (hasP l) 2) m m : Nat) : Int)) = ((nA (pOf (hasP l) 1) m m + nA (pOf (hasP l) 2) m m : Nat) : Int) := by unfold wrap64; omega
      refine Ev.cast (Ev.now _) ?_
      rw [← e]; rfl
    · unfold impl_CountThrees.f
      refine Ev.bind (implIsParty_ev _ l (by omega)) ?_
      simp only [hg, if_true]
      refine Ev.bind (table_ev m hm l (by omega) hn) (Ev.bind (others_ev m hm (hasP l)) ?_)
      simp only [tab_len, true_and, if_pos hm]
      refine Ev.bind (choose3_ev m hm) ?_
      refine Ev.cast (Ev.now _) ?_
      have h4 := nA4 (hasP l) m
      have b0 := nA_le (pOf (hasP l) 0) m m hm hm
      have b1 := nA_le (pOf (hasP l) 1) m m hm hm
      have b2 := nA_le (pOf (hasP l) 2) m m hm hm
      have b3 := nA_le (pOf (hasP l) 3) m m hm hm
      rw [lenQ_tab m hm, lenQ_tab m hm, ← p3_all, ← p0_all, ← h4]
      congr 3
      unfold wrap64; omega

def conv (l : List S94) : List S80 := l.map fun x => ⟨x.f0, x.f1⟩
theorem conv_len (l : List S94) : (conv l).length = l.length := by simp [conv]
theorem eqPairS_l0 (l : List S80) (hl : l.length < 4611686018427387904) : ∀ (d i : Nat), i + d = l.length → Ev (fun k => laws_eqPairS.l0 k l l i) true
  | 0, i, hd => by
    refine Ev.one (fun k => ?_)
    rw [laws_eqPairS.l0, if_neg (by omega)]
  | d + 1, i, hd => by
    refine Ev.step (fun k => ?_) (eqPairS_l0 l hl d (i + 1) (by omega))
    rw [laws_eqPairS.l0, if_pos (by omega), if_pos (by omega), if_pos (by omega), laws_eqPair.f, if_pos rfl, if_pos rfl, w1 (by omega)]
    rfl
theorem eqParty_self (a : Int) (l : List S80) (hl : l.length < 4611686018427387904) : Ev (fun k => laws_eqParty.f k a l a l) true := by
  unfold laws_eqParty.f laws_eqPairS.f
  simp only [if_true]
  have h : Ev (fun k => laws_eqPairS.l0 k l l 0) true := by simpa using eqPairS_l0 l hl l.length 0 (by omega)
  refine Ev.bind h ?_
  simp only [if_true]
  exact Ev.now _

theorem szParty_f (a0 : Int) (l : List S94) (a1 : Int) (h0 : 0 ≤ a1) (h1 : a1 ≤ 1048576) (hl : l.length ≤ maxLen) : laws_szParty.f a0 l a1 = some (if a1 - l.length < 0 then -1 else a1 - l.length) := by
  unfold maxLen at hl
  unfold laws_szParty.f laws_szPairS.f
  rw [w64 (by omega) (by omega)]
  by_cases h : a1 - l.length < 0
  · simp [h]
  · simp [h]
theorem getD_of_get {α : Type} (l : List α) (i : Nat) (d x : α) (h : l[i]? = some x) : l.getD i d = x := by rw [List.getD_eq_getElem?_getD, h]; rfl
theorem toPairS_l0 (l : List S94) (hl : l.length < 4611686018427387904) : ∀ (d i : Nat) (y : List S80), i + d = l.length → y.length = l.length → (∀ j, j < i → y[j]? = (conv l)[j]?) → Ev (fun k => laws_toPairS.l0 k l y i) (conv l)
  | 0, i, y, hd, hy, h => by
    refine Ev.one (fun k => ?_)
    have e : y = conv l := by
      apply List.ext_getElem?
      intro j
      by_cases hj : j < i
      · exact h j hj
      · rw [List.getElem?_eq_none (by omega), List.getElem?_eq_none (by rw [conv_len]; omega)]
    rw [laws_toPairS.l0, if_neg (by omega), e]
  | d + 1, i, y, hd, hy, h => by
    have hi : i < l.length := by omega
    have hx : rd_T94 l (i : Int) = l[i] := getD_of_get l i _ _ (List.getElem?_eq_getElem hi)
    refine Ev.step (fun k => ?_) (toPairS_l0 l hl d (i + 1) (y.set i ⟨l[i].f0, l[i].f1⟩) (by omega) (by simpa using hy) ?_)
    · rw [laws_toPairS.l0, if_pos (by omega), if_pos (by omega), hx, laws_toPair.f]
      simp only [Option.bind_some]
      rw [if_pos (by omega), w1 (by omega)]
      rfl
    · intro j hj
      rw [List.getElem?_set]
      by_cases e : i = j
      · subst e
        have hiy : i < y.length := by omega
        simp [conv, hi, hiy]
      · rw [if_neg e]; exact h j (by omega)
theorem toPairS_ev (l : List S94) (hl : l.length ≤ 17592186044416) : Ev (fun k => laws_toPairS.f k l) (conv l) := by
  unfold laws_toPairS.f
  simp only [if_pos (show (0 : Int) ≤ (l.length : Int) by omega), if_pos (show ((l.length : Int) : Int).toNat ≤ 17592186044416 by simpa using hl)]
  exact toPairS_l0 l (by omega) l.length 0 _ (by omega) (by simp) (fun j hj => absurd hj (Nat.not_lt_zero _))
theorem toParty_ev (a : Int) (l : List S94) (hl : l.length ≤ 17592186044416) : Ev (fun k => laws_toParty.f k a l) (a, conv l) := by
  unfold laws_toParty.f
  exact Ev.bind (toPairS_ev l hl) (Ev.now _)
theorem FnExactCountThrees : ∀ (a0 : Int) (l0 : List S94), (Lit.int .i64 a0).wf = true → l0.length ≤ maxLen → (∀ x ∈ l0, ∃ m n : Int, x = ⟨m, n⟩ ∧ (Lit.int .i64 m).wf = true ∧ (Lit.int .i64 n).wf = true) → ∃ k, laws_FnExactCountThrees.f k a0 l0 = some true := by
  intro a0 l0 w0 hm0 hw0
  refine Ev.rounds ?_
  unfold laws_FnExactCountThrees.f
  simp only [szParty_f a0 l0 1048576 (by omega) (by omega) hm0, Option.bind_some]
  by_cases hg0 : 1048576 - (l0.length : Int) < 0
  · simp only [if_pos hg0, show ((-1 : Int) < 0) from by decide, if_true]; exact Ev.now _
  simp only [if_neg hg0]
  have hlen0 : l0.length ≤ 1048576 := by omega
  have hcl0 := conv_len l0
  obtain ⟨R, hs, hi⟩ := CountThrees_common a0 (conv l0) w0 (by rw [conv_len]; omega)
  refine Ev.bind (toParty_ev a0 l0 (by omega)) ?_
  refine Ev.bind hs ?_
  try simp only [if_true, if_false, bne_self_eq_false, Bool.false_eq_true, ↓reduceIte, decide_true]
  refine Ev.bind (toParty_ev a0 l0 (by omega)) ?_
  refine Ev.bind hi ?_
  try simp only [if_true, if_false, bne_self_eq_false, Bool.false_eq_true, ↓reduceIte, decide_true]
  try simp only [if_true, if_false, bne_self_eq_false, Bool.false_eq_true, ↓reduceIte, decide_true]
  refine Ev.step (fun k => rfl) ?_
  simp only [laws_FnExactCountThrees.j0]
  try simp only [if_true, if_false, bne_self_eq_false, Bool.false_eq_true, ↓reduceIte, decide_true]
  refine Ev.bind (toParty_ev a0 l0 (by omega)) ?_
  refine Ev.bind (eqParty_self a0 (conv l0) (by omega)) ?_
  try simp only [if_true, if_false, bne_self_eq_false, Bool.false_eq_true, ↓reduceIte, decide_true]
  exact Ev.now _
end Go.Proofs.Ytialimbdkokdcaa.Pure
