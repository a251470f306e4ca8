/- The program's FriendThrees returns what the reference's returns, for all arguments (the plain statement behind the walk of lawss.py); no condition. -/
import Derived.Lib.TrailingZeros
import Derived.Test.YtialimbdkokdcaaPx0
import Derived.Test.YtialimbdkokdcaaPx1
import Derived.Test.YtialimbdkokdcaaPx10
import Derived.Test.YtialimbdkokdcaaPx2
import Derived.Test.YtialimbdkokdcaaPx3
import Derived.Test.YtialimbdkokdcaaPx4
import Derived.Test.YtialimbdkokdcaaPx5
import Derived.Test.YtialimbdkokdcaaPx6
import Derived.Test.YtialimbdkokdcaaPx7
import Derived.Test.YtialimbdkokdcaaPx8
import Derived.Test.YtialimbdkokdcaaPx9
namespace Go.Proofs.Ytialimbdkokdcaa.Pure
open Go.RowKit Go.Proofs.Ytialimbdkokdcaa.P Go.Proofs.YtialimbdkokdcaaW.PrintWords Go.Proofs.YtialimbdkokdcaaW.PrintLast
set_option linter.unusedSimpArgs false
set_option linter.unusedVariables false
def crowd (n : Int) : Bool := decide (0 ≤ n ∧ n ≤ 12)
def lt2 (p q : S80) : Bool := decide (p.f0 < q.f0) || (decide (p.f0 = q.f0) && decide (p.f1 < q.f1))
def okPrev : Option S80 → S80 → Bool
  | none, _ => true
  | some p, x => lt2 p x
def okFrom (n : Int) : Option S80 → List S80 → Bool
  | _, [] => true
  | prev, x :: xs => (decide (0 ≤ x.f0) && (decide (x.f0 < x.f1) && (decide (x.f1 < n) && okPrev prev x))) && okFrom n (some x) xs
def good (n : Int) (l : List S80) : Bool := crowd n && okFrom n none l
def natPairs (m : Nat) (l : List S80) : Prop := ∀ x ∈ l, ∃ a b : Nat, x = ⟨(a : Int), (b : Int)⟩ ∧ a < b ∧ b < m
theorem okFrom_nat (m : Nat) : ∀ (l : List S80) (p : Option S80), okFrom (m : Int) p l = true → natPairs m l
  | [], _, _ => fun x hx => by simp at hx
  | x :: xs, p, h => by
    simp only [okFrom, Bool.and_eq_true, decide_eq_true_eq] at h
    obtain ⟨⟨h0, h1, h2, _⟩, h3⟩ := h
    intro y hy
    rcases List.mem_cons.1 hy with rfl | hy
    · refine ⟨y.f0.toNat, y.f1.toNat, ?_, by omega, by omega⟩
      rw [Int.toNat_of_nonneg h0, Int.toNat_of_nonneg (by omega)]
    · exact okFrom_nat m xs _ h3 y hy
theorem good_nat {n : Int} {l : List S80} (h : good n l = true) : ∃ m : Nat, n = (m : Int) ∧ m ≤ 12 ∧ natPairs m l ∧ okFrom (m : Int) none l = true := by
  unfold good crowd at h
  simp only [Bool.and_eq_true, decide_eq_true_eq] at h
  obtain ⟨⟨h0, h1⟩, h2⟩ := h
  obtain ⟨m, rfl⟩ := Int.eq_ofNat_of_zero_le h0
  exact ⟨m, rfl, by omega, okFrom_nat m l none h2, h2⟩
abbrev Rel := Nat → Nat → Bool
def gr (r : Rel) : Nat → Nat → List Nat → Nat → List (List Nat)
  | _, 0, cs, _ => [cs]
  | 0, _ + 1, _, _ => []
  | e + 1, d + 1, cs, a => (if cs.all (fun b => r a b) then gr r e d (cs ++ [a]) (a + 1) else []) ++ gr r e (d + 1) cs (a + 1)
theorem gr_none (r : Rel) (d : Nat) (cs : List Nat) (a : Nat) : gr r 0 (d + 1) cs a = [] := rfl
theorem gr_succ (r : Rel) (e d : Nat) (cs : List Nat) (a : Nat) : gr r (e + 1) (d + 1) cs a = (if cs.all (fun b => r a b) then gr r e d (cs ++ [a]) (a + 1) else []) ++ gr r e (d + 1) cs (a + 1) := rfl
theorem gr_zero (r : Rel) (e : Nat) (cs : List Nat) (a : Nat) : gr r e 0 cs a = [cs] := by cases e <;> rfl
theorem gr_len (r : Rel) : ∀ (e d : Nat) (cs : List Nat) (a : Nat), (gr r e d cs a).length ≤ 2 ^ e
  | e, 0, cs, a => by rw [gr_zero]; exact Nat.one_le_two_pow
  | 0, d + 1, cs, a => by rw [gr_none]; simp
  | e + 1, d + 1, cs, a => by
    have h1 := gr_len r e d (cs ++ [a]) (a + 1)
    have h2 := gr_len r e (d + 1) cs (a + 1)
    rw [gr_succ, List.length_append, Nat.pow_succ]
    split
    · omega
    · simp only [List.length_nil]; omega
theorem gr_mem_len (r : Rel) : ∀ (e d : Nat) (cs : List Nat) (a : Nat), ∀ x ∈ gr r e d cs a, x.length = cs.length + d
  | e, 0, cs, a => by rw [gr_zero]; intro x hx; rw [List.mem_singleton.1 hx]; rfl
  | 0, d + 1, cs, a => by rw [gr_none]; intro x hx; cases hx
  | e + 1, d + 1, cs, a => by
    have h1 := gr_mem_len r e d (cs ++ [a]) (a + 1)
    have h2 := gr_mem_len r e (d + 1) cs (a + 1)
    rw [gr_succ]
    intro x hx
    rcases List.mem_append.1 hx with hx | hx
    · split at hx
      · have := h1 x hx
        rw [List.length_append, List.length_singleton] at this; omega
      · cases hx
    · exact h2 x hx
theorem flatMap_congr_mem {α β : Type} (f g : α → List β) : ∀ l : List α, (∀ x ∈ l, f x = g x) → l.flatMap f = l.flatMap g
  | [], _ => rfl
  | x :: l, h => by rw [List.flatMap_cons, List.flatMap_cons, h x (List.mem_cons_self ..), flatMap_congr_mem f g l fun y hy => h y (List.mem_cons_of_mem _ hy)]
theorem flatMap_nil_ {α β : Type} : ∀ l : List α, (l.flatMap fun _ => ([] : List β)) = []
  | [] => rfl
  | _ :: l => by rw [List.flatMap_cons, flatMap_nil_ l]; rfl
theorem gr_flat (r : Rel) (d : Nat) (cs : List Nat) : ∀ (e a : Nat), gr r e (d + 1) cs a = (List.range' a e).flatMap fun x => if cs.all (fun b => r x b) then gr r (a + e - (x + 1)) d (cs ++ [x]) (x + 1) else []
  | 0, a => by rw [gr_none]; rfl
  | e + 1, a => by
    rw [gr_succ, gr_flat r d cs e (a + 1), List.range'_succ, List.flatMap_cons, show a + (e + 1) - (a + 1) = e by omega]
    congr 1
    refine flatMap_congr_mem _ _ _ fun x hx => ?_
    rw [show a + 1 + e - (x + 1) = a + (e + 1) - (x + 1) by omega]
def ints (l : List Nat) : List Int := l.map Int.ofNat
theorem gr_tA (r : Rel) (m : Nat) (hs : ∀ a b, r a b = r b a) : (gr r m 3 [] 0).map ints = tA r m m := by
  rw [gr_flat r 2 [] m 0, List.map_flatMap]
  unfold tA
  rw [List.range_eq_range']
  refine flatMap_congr_mem _ _ _ fun a ha => ?_
  have ha' := (List.mem_range'_1.1 ha).2
  simp only [List.all_nil, if_true, List.nil_append]
  rw [gr_flat r 1 [a], List.map_flatMap]
  unfold tB
  rw [show 0 + m - (a + 1) = m - (a + 1) by omega]
  refine flatMap_congr_mem _ _ _ fun b hb => ?_
  have hb' := (List.mem_range'_1.1 hb)
  unfold tC
  cases hab : r a b with
  | false =>
    have : ([a].all fun x => r b x) = false := by simp [hs b a, hab]
    rw [this]
    simp only [Bool.false_and, Bool.false_eq_true, if_false, List.map_nil]
    rw [flatMap_nil_]
  | true =>
    have : ([a].all fun x => r b x) = true := by simp [hs b a, hab]
    rw [this]
    simp only [Bool.true_and, if_true]
    rw [gr_flat r 0 ([a] ++ [b]), List.map_flatMap, show a + 1 + (m - (a + 1)) - (b + 1) = m - (b + 1) by omega]
    refine flatMap_congr_mem _ _ _ fun c hc => ?_
    rw [gr_zero]
    have : (([a] ++ [b]).all fun x => r c x) = (r a c && r b c) := by simp [hs c a, hs c b]
    rw [this]
    cases r a c && r b c <;> rfl
def hasP (l : List S80) : Rel := fun a b => l.any fun x => (x.f0 == (a : Int) && x.f1 == (b : Int)) || (x.f0 == (b : Int) && x.f1 == (a : Int))
theorem hasP_symm (l : List S80) (x y : Nat) : hasP l x y = hasP l y x := by
  unfold hasP; congr 1; funext z; rw [Bool.or_comm]
theorem wraps_u16 (n : Int) (h0 : 0 ≤ n) (h1 : n < 2 ^ 16) : IntKind.u16.wrap n = n := by
  simp [IntKind.wrap, IntKind.bits, IntKind.signed]; omega
theorem and16 (x y : Nat) (hx : x < 65536) (hy : y < 65536) : Go.bits .and .u16 (x : Int) (y : Int) = ((x &&& y : Nat) : Int) := (bits_nat .u16 16 (by decide) wraps_u16 x y hx hy).1
/-! ### tables of bits -/
def bitsOf : Nat → (Nat → Bool) → Nat
  | 0, _ => 0
  | m + 1, f => bitsOf m f + (f m).toNat * 2 ^ m
theorem bitsOf_lt : ∀ (m : Nat) (f : Nat → Bool), bitsOf m f < 2 ^ m
  | 0, _ => by simp [bitsOf]
  | m + 1, f => by
    have := bitsOf_lt m f
    have h2 : (f m).toNat * 2 ^ m ≤ 2 ^ m := by cases f m <;> simp
    rw [bitsOf, Nat.pow_succ]; omega
theorem bitsOf_u16 (m : Nat) (hm : m ≤ 12) (f : Nat → Bool) : bitsOf m f < 65536 :=
  Nat.lt_of_lt_of_le (bitsOf_lt m f) (Nat.le_trans (Nat.pow_le_pow_right (by decide) hm) (by decide))
def tab (m : Nat) (r : Rel) : List Int := (List.range m).map fun a => ((bitsOf m (r a) : Nat) : Int)
theorem map_range_getD {α : Type} (m : Nat) (f : Nat → α) (d : α) (a : Nat) (h : a < m) : ((List.range m).map f).getD a d = f a := by simp [List.getD_eq_getElem?_getD, h]
theorem tab_at (m : Nat) (r : Rel) (a : Nat) (h : a < m) : rd (tab m r) (a : Int) = ((bitsOf m (r a) : Nat) : Int) := map_range_getD m _ _ a h
theorem tab_len (m : Nat) (r : Rel) : (tab m r).length = m := by simp [tab]
theorem testBit_bitsOf : ∀ (m : Nat) (f : Nat → Bool) (i : Nat), (bitsOf m f).testBit i = (decide (i < m) && f i)
  | 0, f, i => by simp [bitsOf]
  | m + 1, f, i => by
    have ih := testBit_bitsOf m f
    by_cases hi : i < m
    · have h1 : i < m + 1 := by omega
      cases hf : f m with
      | false => simp [bitsOf, hf, ih i, hi, h1]
      | true => rw [bitsOf, hf, Bool.toNat_true, Nat.one_mul, Nat.add_comm, Nat.testBit_two_pow_add_gt hi, ih i]; simp [hi, h1]
    · by_cases e : i = m
      · subst e
        cases hf : f i with
        | false => simp [bitsOf, hf, ih i]
        | true => rw [bitsOf, hf, Bool.toNat_true, Nat.one_mul, Nat.add_comm, Nat.testBit_two_pow_add_eq, ih i]; simp
      · have h1 : ¬ i < m + 1 := by omega
        rw [Nat.testBit_lt_two_pow (Nat.lt_of_lt_of_le (bitsOf_lt (m + 1) f) (Nat.pow_le_pow_right (by decide) (by omega)))]
        simp [h1]
theorem has_f (m : Nat) (hm : m ≤ 12) (r : Rel) (a b : Nat) (ha : a < m) (hb : b < m) : impl_table_has.f (tab m r) (a : Int) (b : Int) = some (r a b) := by
  unfold impl_table_has.f
  rw [if_pos (by omega), if_pos (by rw [tab_len]; omega), if_pos (by omega), tab_at m r a ha]
  have hX := bitsOf_u16 m hm (r a)
  have hs : shr .u16 ((bitsOf m (r a) : Nat) : Int) (b : Int) = ((bitsOf m (r a) / 2 ^ b : Nat) : Int) := by
    unfold shr
    rw [Int.toNat_natCast, Nat.min_eq_left (show b ≤ IntKind.u16.bits from by show b ≤ 16; omega)]
    simp
  have hd : bitsOf m (r a) / 2 ^ b < 65536 := Nat.lt_of_le_of_lt (Nat.div_le_self _ _) hX
  have ht := testBit_bitsOf m (r a) b
  rw [Nat.testBit_eq_decide_div_mod_eq] at ht
  have e1 : Go.bits .and .u16 ((bitsOf m (r a) / 2 ^ b : Nat) : Int) 1 = ((bitsOf m (r a) / 2 ^ b % 2 : Nat) : Int) := by
    have := and16 (bitsOf m (r a) / 2 ^ b) 1 hd (by decide)
    rw [Nat.and_one_is_mod] at this
    exact this
  rw [hs, e1]
  simp only [hb, decide_true, Bool.true_and] at ht
  rw [← ht]
  congr 1
  by_cases h : bitsOf m (r a) / 2 ^ b % 2 = 1
  · simp [h]
  · have h0 : bitsOf m (r a) / 2 ^ b % 2 = 0 := by omega
    simp [h0]
theorem hasQ_tab (m : Nat) (hm : m ≤ 12) (r : Rel) (a b : Nat) (ha : a < m) (hb : b < m) : hasQ (tab m r) a b = r a b := by
  have h1 := has_f m hm r a b ha hb
  rw [hasQ_f _ _ _ (by rw [tab_len]; exact ha)] at h1
  injection h1
theorem Ev.cast {α : Type} {g : Nat → Option α} {a b : α} (h : Ev g a) (e : a = b) : Ev g b := e ▸ h
theorem Ev.one {α : Type} {g : Nat → Option α} {r : α} (h : ∀ k, g (k + 1) = some r) : Ev g r := Ev.step h (Ev.now r)
theorem within_f (a lo hi : Int) : impl_within.f a lo hi = some (decide (lo ≤ a) && decide (a ≤ hi)) := by
  unfold impl_within.f
  by_cases h : lo ≤ a
  · rw [if_pos h]; simp [h]
  · rw [if_neg h]; simp [h]
theorem areCrowd_f (a : Int) : impl_areCrowd.f a = some (decide (0 ≤ a ∧ a ≤ 12)) := by
  unfold impl_areCrowd.f
  rw [within_f]; simp [Bool.decide_and]
def cmp3 (a b : Int) : Int := if a < b then -1 else if a > b then 1 else 0
def cmpP (p q : S80) : Int := if cmp3 p.f0 q.f0 = 0 then cmp3 p.f1 q.f1 else cmp3 p.f0 q.f0
theorem cmpP_neg (p q : S80) : decide (cmpP p q ≥ 0) = !lt2 p q := by
  unfold cmpP cmp3 lt2
  by_cases h1 : p.f0 < q.f0
  · simp [h1]
  · by_cases h2 : p.f0 > q.f0
    · have h3 : ¬ p.f0 = q.f0 := by omega
      simp [h1, h2, h3]
    · have h3 : p.f0 = q.f0 := by omega
      by_cases h4 : p.f1 < q.f1
      · simp [h3, h4]
      · by_cases h5 : p.f1 > q.f1
        · simp [h3, h4, h5]
        · simp [h3, h4, h5]
theorem cmpOr_ev (a b : Int) : Ev (fun k => cmp_Or_int.f k [a, b]) (if a = 0 then b else a) := by
  refine ⟨3, fun k hk => ?_⟩
  obtain ⟨k, rfl⟩ : ∃ m, k = m + 3 := ⟨k - 3, by omega⟩
  have e1 : wrap64 (0 + 1) = 1 := by unfold wrap64; omega
  have e2 : wrap64 (1 + 1) = 2 := by unfold wrap64; omega
  have r0 : rd [a, b] 0 = a := rfl
  have r1 : rd [a, b] 1 = b := rfl
  simp only [cmp_Or_int.f, cmp_Or_int.l0, List.length_cons, List.length_nil, r0, r1, e1, e2]
  by_cases h : a = 0
  · by_cases h2 : b = 0
    · simp [h, h2]
    · simp [h, h2]
  · simp [h]
theorem compare_f (a b : Int) : cmp_Compare_int.f a b = some (cmp3 a b) := by
  unfold cmp_Compare_int.f cmp_isNaN_int.f cmp3
  simp
  by_cases h : a < b
  · simp [h]
  · by_cases h2 : a > b
    · simp [h, h2]
    · simp [h, h2]
theorem comparePairs_ev (p q : S80) : Ev (fun k => impl_comparePairs.f k p.f0 p.f1 q.f0 q.f1) (cmpP p q) := by
  unfold impl_comparePairs.f
  simp only [compare_f, Option.bind_some]
  exact Ev.bind (cmpOr_ev _ _) (Ev.now _)
theorem rdT_mid (pre rest : List S80) (x : S80) : rd_T80 (pre ++ x :: rest) (pre.length : Int) = x := by
  unfold rd_T80
  simp [List.getD_eq_getElem?_getD]
theorem w1 {n : Nat} (h : n < 4611686018427387904) : wrap64 ((n : Int) + 1) = ((n + 1 : Nat) : Int) := by unfold wrap64; omega
theorem w64 {i : Int} (h0 : -9223372036854775808 ≤ i) (h : i ≤ 9223372036854775807) : wrap64 i = i := by unfold wrap64; omega
theorem implIsParty_l0 (n : Int) (l : List S80) (hl : l.length < 4611686018427387904) : ∀ (rest pre : List S80), l = pre ++ rest → Ev (fun k => impl_IsParty.l0 k l (l.length : Int) (pre.length : Int) n l) (okFrom n pre.getLast? rest && crowd n)
  | [], pre, h => by
    refine Ev.one (fun k => ?_)
    have e : l.length = pre.length := by rw [h]; simp
    rw [impl_IsParty.l0, if_neg (by omega), areCrowd_f]
    simp [okFrom, crowd]
  | x :: rest, pre, h => by
    have hlen : pre.length < l.length := by rw [h]; simp
    have hx : rd_T80 l (pre.length : Int) = x := by rw [h]; exact rdT_mid pre rest x
    have ih := implIsParty_l0 n l hl rest (pre ++ [x]) (by rw [h]; simp)
    rw [List.getLast?_concat, List.length_append, List.length_singleton] at ih
    by_cases c1 : x.f0 < 0
    · refine Ev.one (fun k => ?_)
      rw [impl_IsParty.l0, if_pos (by omega), if_pos (by omega), if_pos (by omega), hx, if_pos c1]
      have : decide (0 ≤ x.f0) = false := by simp; omega
      simp [okFrom, this]
    by_cases c2 : x.f0 ≥ x.f1
    · refine Ev.one (fun k => ?_)
      rw [impl_IsParty.l0, if_pos (by omega), if_pos (by omega), if_pos (by omega), hx, if_neg c1, if_pos c2]
      have : decide (x.f0 < x.f1) = false := by simp; omega
      simp [okFrom, this]
    by_cases c3 : x.f1 ≥ n
    · refine Ev.one (fun k => ?_)
      rw [impl_IsParty.l0, if_pos (by omega), if_pos (by omega), if_pos (by omega), hx, if_neg c1, if_neg c2, if_pos c3]
      have : decide (x.f1 < n) = false := by simp; omega
      simp [okFrom, this]
    have d1 : decide (0 ≤ x.f0) = true := by simp; omega
    have d2 : decide (x.f0 < x.f1) = true := by simp; omega
    have d3 : decide (x.f1 < n) = true := by simp; omega
    rcases List.eq_nil_or_concat pre with rfl | ⟨q, p, rfl⟩
    · refine Ev.cast (Ev.step (fun k => ?_) ih) ?_
      · rw [impl_IsParty.l0, if_pos (by omega), if_pos (by omega), if_pos (by omega), hx, if_neg c1, if_neg c2, if_neg c3, if_neg (by simp), w1 (by simp)]
      · simp [okFrom, d1, d2, d3, okPrev]
    · rw [List.concat_eq_append] at hlen hx ih h ⊢
      have hp : rd_T80 l (q.length : Int) = p := by rw [h, List.append_assoc]; exact rdT_mid q (x :: rest) p
      have hq : (q ++ [p]).length = q.length + 1 := by simp
      rw [hq] at hlen hx ih ⊢
      refine Ev.step (f := fun k => (impl_comparePairs.f k p.f0 p.f1 x.f0 x.f1).bind fun t => if t ≥ 0 then some false else impl_IsParty.l0 k l (l.length : Int) ((q.length + 1 + 1 : Nat) : Int) n l) (fun k => ?_) (Ev.bind (comparePairs_ev p x) ?_)
      · rw [impl_IsParty.l0, if_pos (by omega), if_pos (by omega), if_pos (by omega), hx, if_neg c1, if_neg c2, if_neg c3, if_pos (by omega), w64 (i := ((q.length + 1 : Nat) : Int) - 1) (by omega) (by omega), show ((q.length + 1 : Nat) : Int) - 1 = (q.length : Int) by omega, if_pos (by omega), if_pos (by omega), hp, w1 (by omega)]
      · have hc := cmpP_neg p x
        rw [List.getLast?_concat]
        by_cases hlt : lt2 p x = true
        · have c4 : ¬ cmpP p x ≥ 0 := by rw [hlt] at hc; simpa using hc
          simp only [if_neg c4]
          refine Ev.cast ih ?_
          simp [okFrom, d1, d2, d3, okPrev, hlt]
        · have hlt' : lt2 p x = false := by simpa using hlt
          have c4 : cmpP p x ≥ 0 := by rw [hlt'] at hc; simpa using hc
          simp only [if_pos c4]
          refine Ev.cast (Ev.now _) ?_
          simp [okFrom, okPrev, hlt']
theorem implIsParty_ev (n : Int) (l : List S80) (hl : l.length < 4611686018427387904) : Ev (fun k => impl_IsParty.f k n l) (good n l) := by
  unfold impl_IsParty.f
  have := implIsParty_l0 n l hl l [] rfl
  rw [Bool.and_comm] at this
  exact this
theorem ints_len (l : List Nat) : (ints l).length = l.length := by simp [ints]
/-! the number of pairs -/
def below (m : Nat) : Nat → Nat
  | 0 => 0
  | a + 1 => below m a + (m - 1 - a)
theorem below_all (m : Nat) (h : m ≤ 12) : Int.tdiv ((m : Int) * ((m : Int) - 1)) 2 = (below m m : Int) := by
  have : m = 0 ∨ m = 1 ∨ m = 2 ∨ m = 3 ∨ m = 4 ∨ m = 5 ∨ m = 6 ∨ m = 7 ∨ m = 8 ∨ m = 9 ∨ m = 10 ∨ m = 11 ∨ m = 12 := by omega
  rcases this with rfl | rfl | rfl | rfl | rfl | rfl | rfl | rfl | rfl | rfl | rfl | rfl | rfl <;> rfl
/-- where a pair stands among all pairs of m people -/
def rank (m : Nat) (x : S80) : Nat := below m x.f0.toNat + (x.f1.toNat - x.f0.toNat - 1)
theorem below_mono (m a : Nat) : ∀ d, below m a ≤ below m (a + d)
  | 0 => Nat.le_refl _
  | d + 1 => Nat.le_trans (below_mono m a d) (by show below m (a + d) ≤ below m (a + d) + _; omega)
theorem rank_lt (m : Nat) (p x : S80) (h : lt2 p x = true) (p0 : 0 ≤ p.f0) (p1 : p.f0 < p.f1) (p2 : p.f1 < m) (x0 : 0 ≤ x.f0) (x1 : x.f0 < x.f1) : rank m p < rank m x := by
  unfold lt2 at h
  unfold rank
  simp at h
  rcases h with h | ⟨h, h2⟩
  · have h1 := below_mono m (p.f0.toNat + 1) (x.f0.toNat - (p.f0.toNat + 1))
    rw [show p.f0.toNat + 1 + (x.f0.toNat - (p.f0.toNat + 1)) = x.f0.toNat by omega] at h1
    have h3 : below m (p.f0.toNat + 1) = below m p.f0.toNat + (m - 1 - p.f0.toNat) := rfl
    omega
  · rw [h]; omega
theorem rank_top (m : Nat) (x : S80) (x0 : 0 ≤ x.f0) (x1 : x.f0 < x.f1) (x2 : x.f1 < m) : rank m x < below m m := by
  unfold rank
  have h1 := below_mono m (x.f0.toNat + 1) (m - (x.f0.toNat + 1))
  rw [show x.f0.toNat + 1 + (m - (x.f0.toNat + 1)) = m by omega] at h1
  have h3 : below m (x.f0.toNat + 1) = below m x.f0.toNat + (m - 1 - x.f0.toNat) := rfl
  omega
theorem okFrom_len (m : Nat) : ∀ (l : List S80) (p : S80), 0 ≤ p.f0 → p.f0 < p.f1 → p.f1 < m → okFrom m (some p) l = true → rank m p + l.length < below m m
  | [], p, p0, p1, p2, _ => rank_top m p p0 p1 p2
  | x :: xs, p, p0, p1, p2, h => by
    simp [okFrom, okPrev] at h
    obtain ⟨⟨x0, x1, x2, hlt⟩, h⟩ := h
    have ih := okFrom_len m xs x x0 x1 x2 h
    have := rank_lt m p x hlt p0 p1 p2 x0 x1
    simp only [List.length_cons]
    omega
theorem good_len (m : Nat) (l : List S80) (h : okFrom m none l = true) : l.length ≤ below m m := by
  cases l with
  | nil => simp
  | cons x xs =>
    simp [okFrom, okPrev] at h
    obtain ⟨⟨x0, x1, x2⟩, h⟩ := h
    have := okFrom_len m xs x x0 x1 x2 h
    simp only [List.length_cons]
    omega
theorem l1In_f (a lo hi : Int) : spec_l1In.f a lo hi = some (decide (lo ≤ a) && decide (a ≤ hi)) := by
  unfold spec_l1In.f
  by_cases h : lo ≤ a
  · rw [if_pos h]; simp [h]
  · rw [if_neg h]; simp [h]
theorem paLess_f (p x : S80) : spec_paLess.f p.f0 p.f1 x.f0 x.f1 = some (lt2 p x) := by
  unfold spec_paLess.f lt2
  by_cases h : p.f0 < x.f0
  · simp [h]
  · by_cases h2 : p.f0 = x.f0
    · simp [h2]
    · simp [h, h2]
theorem paGood_l0 (m : Nat) (hm : m ≤ 12) (l : List S80) (hl : l.length < 4611686018427387904) : ∀ (rest pre : List S80), l = pre ++ rest → Ev (fun k => spec_paGood.l0 k l (l.length : Int) (pre.length : Int) (m : Int) l) (okFrom m pre.getLast? rest)
  | [], pre, h => by
    refine Ev.one (fun k => ?_)
    have e : l.length = pre.length := by rw [h]; simp
    rw [spec_paGood.l0, if_neg (by omega)]
    simp [okFrom]
  | x :: rest, pre, h => by
    have hlen : pre.length < l.length := by rw [h]; simp
    have hx : rd_T80 l (pre.length : Int) = x := by rw [h]; exact rdT_mid pre rest x
    have ih := paGood_l0 m hm l hl rest (pre ++ [x]) (by rw [h]; simp)
    rw [List.getLast?_concat, List.length_append, List.length_singleton] at ih
    have em : wrap64 ((m : Int) - 1) = (m : Int) - 1 := w64 (by omega) (by omega)
    by_cases c1 : 0 ≤ x.f0 ∧ x.f0 ≤ (m : Int) - 1
    · have e1 : wrap64 (x.f0 + 1) = x.f0 + 1 := w64 (by omega) (by omega)
      have b1 : (decide (0 ≤ x.f0) && decide (x.f0 ≤ (m : Int) - 1)) = true := by simp; exact c1
      by_cases c2 : x.f0 + 1 ≤ x.f1 ∧ x.f1 ≤ (m : Int) - 1
      · have b2 : (decide (x.f0 + 1 ≤ x.f1) && decide (x.f1 ≤ (m : Int) - 1)) = true := by simp; exact c2
        have d1 : decide (0 ≤ x.f0) = true := by simp; omega
        have d2 : decide (x.f0 < x.f1) = true := by simp; omega
        have d3 : decide (x.f1 < (m : Int)) = true := by simp; omega
        rcases List.eq_nil_or_concat pre with rfl | ⟨q, p, rfl⟩
        · refine Ev.cast (Ev.step (fun k => ?_) ih) ?_
          · rw [spec_paGood.l0, if_pos (by omega), if_pos (by omega), if_pos (by omega), hx, em, e1, l1In_f, l1In_f, b1, b2]
            simp only [Option.bind_some, if_true]
            rw [if_neg (by simp), w1 (by simp)]
          · simp [okFrom, d1, d2, d3, okPrev]
        · rw [List.concat_eq_append] at hlen hx ih h ⊢
          have hp : rd_T80 l (q.length : Int) = p := by rw [h, List.append_assoc]; exact rdT_mid q (x :: rest) p
          have hq : (q ++ [p]).length = q.length + 1 := by simp
          rw [hq] at hlen hx ih ⊢
          rw [List.getLast?_concat]
          cases hlt : lt2 p x with
          | true =>
            refine Ev.cast (Ev.step (fun k => ?_) ih) ?_
            · rw [spec_paGood.l0, if_pos (by omega), if_pos (by omega), if_pos (by omega), hx, em, e1, l1In_f, l1In_f, b1, b2]
              simp only [Option.bind_some, if_true]
              rw [if_pos (by omega), w64 (i := ((q.length + 1 : Nat) : Int) - 1) (by omega) (by omega), show ((q.length + 1 : Nat) : Int) - 1 = (q.length : Int) by omega, if_pos (by omega), if_pos (by omega), hp, paLess_f, hlt, w1 (by omega)]
              rfl
            · simp [okFrom, d1, d2, d3, okPrev, hlt]
          | false =>
            refine Ev.one (fun k => ?_)
            rw [spec_paGood.l0, if_pos (by omega), if_pos (by omega), if_pos (by omega), hx, em, e1, l1In_f, l1In_f, b1, b2]
            simp only [Option.bind_some, if_true]
            rw [if_pos (by omega), w64 (i := ((q.length + 1 : Nat) : Int) - 1) (by omega) (by omega), show ((q.length + 1 : Nat) : Int) - 1 = (q.length : Int) by omega, if_pos (by omega), if_pos (by omega), hp, paLess_f, hlt]
            simp [okFrom, okPrev, hlt]
      · refine Ev.one (fun k => ?_)
        have b2 : (decide (x.f0 + 1 ≤ x.f1) && decide (x.f1 ≤ (m : Int) - 1)) = false := by simp; omega
        rw [spec_paGood.l0, if_pos (by omega), if_pos (by omega), if_pos (by omega), hx, em, e1, l1In_f, l1In_f, b1, b2]
        have : (decide (x.f0 < x.f1) && decide (x.f1 < (m : Int))) = false := by simp; omega
        simp only [okFrom, ← Bool.and_assoc (decide (x.f0 < x.f1)), this]
        simp
    · refine Ev.one (fun k => ?_)
      have b1 : (decide (0 ≤ x.f0) && decide (x.f0 ≤ (m : Int) - 1)) = false := by simp; omega
      rw [spec_paGood.l0, if_pos (by omega), if_pos (by omega), if_pos (by omega), hx, em, l1In_f, b1]
      have : (decide (0 ≤ x.f0) && (decide (x.f0 < x.f1) && (decide (x.f1 < (m : Int)) && okPrev pre.getLast? x))) = false := by
        by_cases z0 : 0 ≤ x.f0
        · by_cases z1 : x.f0 < x.f1
          · have : ¬ x.f1 < (m : Int) := by omega
            simp [this]
          · simp [z1]
        · simp [z0]
      simp [okFrom, this]
theorem paPeople_f (a : Int) : spec_paPeople.f a = some (decide (0 ≤ a ∧ a ≤ 12)) := by
  unfold spec_paPeople.f
  rw [l1In_f]; simp [Bool.decide_and]
theorem paGood_ev (n : Int) (l : List S80) (hl : l.length < 4611686018427387904) : Ev (fun k => spec_paGood.f k n l) (good n l) := by
  unfold spec_paGood.f
  rw [paPeople_f]
  by_cases h : 0 ≤ n ∧ n ≤ 12
  · obtain ⟨m, rfl⟩ := Int.eq_ofNat_of_zero_le h.1
    have hm : m ≤ 12 := by omega
    have hc : crowd (m : Int) = true := by unfold crowd; simp; omega
    have hmul : (m : Int) * ((m : Int) - 1) ≤ 144 := by
      have : m = 0 ∨ m = 1 ∨ m = 2 ∨ m = 3 ∨ m = 4 ∨ m = 5 ∨ m = 6 ∨ m = 7 ∨ m = 8 ∨ m = 9 ∨ m = 10 ∨ m = 11 ∨ m = 12 := by omega
      rcases this with rfl | rfl | rfl | rfl | rfl | rfl | rfl | rfl | rfl | rfl | rfl | rfl | rfl <;> decide
    have hmul0 : 0 ≤ (m : Int) * ((m : Int) - 1) := by
      have : m = 0 ∨ m = 1 ∨ m = 2 ∨ m = 3 ∨ m = 4 ∨ m = 5 ∨ m = 6 ∨ m = 7 ∨ m = 8 ∨ m = 9 ∨ m = 10 ∨ m = 11 ∨ m = 12 := by omega
      rcases this with rfl | rfl | rfl | rfl | rfl | rfl | rfl | rfl | rfl | rfl | rfl | rfl | rfl <;> decide
    have hb : (below m m : Int) ≤ 144 := by
      have : m = 0 ∨ m = 1 ∨ m = 2 ∨ m = 3 ∨ m = 4 ∨ m = 5 ∨ m = 6 ∨ m = 7 ∨ m = 8 ∨ m = 9 ∨ m = 10 ∨ m = 11 ∨ m = 12 := by omega
      rcases this with rfl | rfl | rfl | rfl | rfl | rfl | rfl | rfl | rfl | rfl | rfl | rfl | rfl <;> decide
    have e : wrap64 (Int.tdiv (wrap64 ((m : Int) * (wrap64 ((m : Int) - 1)))) 2) = (below m m : Int) := by
      rw [w64 (i := (m : Int) - 1) (by omega) (by omega), w64 (i := (m : Int) * ((m : Int) - 1)) (by omega) (by omega), below_all m hm, w64 (by omega) (by omega)]
    simp only [h, decide_true, Option.bind_some, if_true, e, and_self]
    unfold good
    rw [hc, Bool.true_and]
    by_cases hlen : l.length ≤ below m m
    · refine Ev.step (fun k => ?_) (paGood_l0 m hm l hl l [] rfl)
      have : decide ((l.length : Int) > (below m m : Int)) = false := by simp; omega
      rw [this, spec_paGood.j0, if_neg (by decide)]
      rfl
    · refine Ev.one (fun k => ?_)
      have : decide ((l.length : Int) > (below m m : Int)) = true := by simp; omega
      rw [this, spec_paGood.j0, if_pos rfl]
      have hn : okFrom (m : Int) none l = false := by
        cases hok : okFrom (m : Int) none l with
        | false => rfl
        | true => exact absurd (good_len m l hok) hlen
      rw [hn]
  · have hc : crowd n = false := by unfold crowd; simp; omega
    simp only [h, decide_false, Option.bind_some]
    unfold good
    rw [hc]
    refine Ev.one (fun k => ?_)
    rw [if_neg (by decide), spec_paGood.j0]; simp

/-! ### matrices -/
def mat (m : Nat) (r : Rel) : List (List Bool) := (List.range m).map fun a => (List.range m).map fun b => r a b
theorem hasP_nil : hasP [] = fun _ _ => false := by funext x y; rfl
theorem map_range_const {α : Type} (c : α) : ∀ m : Nat, (List.range m).map (fun _ => c) = List.replicate m c
  | 0 => rfl
  | m + 1 => by rw [List.range_succ, List.map_append, map_range_const c m, List.replicate_succ']; rfl
theorem mat_false (m : Nat) : mat m (fun _ _ => false) = List.replicate m (List.replicate m false) := by
  unfold mat; rw [map_range_const, map_range_const]
theorem mat_len (m : Nat) (r : Rel) : (mat m r).length = m := by simp [mat]
theorem mat_row (m : Nat) (r : Rel) (a : Nat) (h : a < m) : rd_L4 (mat m r) (a : Int) = (List.range m).map fun b => r a b := map_range_getD m _ _ a h
theorem map_range_congr {α : Type} (m : Nat) (f g : Nat → α) (h : ∀ a, a < m → f a = g a) : (List.range m).map f = (List.range m).map g := List.map_congr_left fun a ha => h a (List.mem_range.1 ha)
theorem map_range_set {α : Type} (m : Nat) (f : Nat → α) (a : Nat) (v : α) : ((List.range m).map f).set a v = (List.range m).map fun i => if i = a then v else f i := by
  apply List.ext_getElem?
  intro j
  rw [List.getElem?_set]
  by_cases hj : j < m
  · by_cases e : a = j
    · subst e; simp [hj]
    · have e' : ¬ j = a := fun h => e h.symm
      simp [hj, e, e']
  · by_cases e : a = j
    · subst e; simp [hj]
    · simp [hj, e]
def upd (r : Rel) (a b : Nat) (v : Bool) : Rel := fun x y => if x = a ∧ y = b then v else r x y
theorem mat_set (m : Nat) (r : Rel) (a b : Nat) (v : Bool) (ha : a < m) : (mat m r).set a ((rd_L4 (mat m r) (a : Int)).set b v) = mat m (upd r a b v) := by
  rw [mat_row m r a ha, map_range_set]
  show ((List.range m).map fun a => (List.range m).map fun b => r a b).set a _ = _
  rw [map_range_set]
  refine map_range_congr m _ _ fun i hi => ?_
  by_cases e : i = a
  · subst e
    rw [if_pos rfl]
    refine map_range_congr m _ _ fun j hj => ?_
    simp [upd]
  · rw [if_neg e]
    refine map_range_congr m _ _ fun j hj => ?_
    simp [upd, e]
theorem hasP_snoc (pre : List S80) (a b x y : Nat) : hasP (pre ++ [⟨(a : Int), (b : Int)⟩]) x y = (hasP pre x y || ((decide (a = x) && decide (b = y)) || (decide (a = y) && decide (b = x)))) := by
  unfold hasP
  rw [List.any_append]
  congr 1
  simp only [List.any_cons, List.any_nil, Bool.or_false]
  have e : ∀ u v : Nat, ((u : Int) == (v : Int)) = decide (u = v) := fun u v => by
    by_cases h : u = v
    · simp [h]
    · have : ¬ (u : Int) = (v : Int) := by omega
      simp [h, this]
  rw [e, e, e, e]
theorem upd2_hasP (pre : List S80) (a b : Nat) : upd (upd (hasP pre) a b true) b a true = hasP (pre ++ [⟨(a : Int), (b : Int)⟩]) := by
  funext x y
  rw [hasP_snoc]
  unfold upd
  by_cases h1 : x = b ∧ y = a
  · simp [h1]
  · by_cases h2 : x = a ∧ y = b
    · simp [h2]
    · have e1 : (decide (a = x) && decide (b = y)) = false := by simp; intro h3 h4; exact h2 ⟨h3.symm, h4.symm⟩
      have e2 : (decide (a = y) && decide (b = x)) = false := by simp; intro h3 h4; exact h1 ⟨h4.symm, h3.symm⟩
      simp [h1, h2, e1, e2]
theorem paTable_l1 (m : Nat) (l : List S80) (hl : l.length < 4611686018427387904) (hn : natPairs m l) : ∀ (rest pre : List S80), l = pre ++ rest → Ev (fun k => spec_paTable.l1 k (mat m (hasP pre)) l (l.length : Int) (pre.length : Int)) (mat m (hasP l))
  | [], pre, h => by
    refine Ev.one (fun k => ?_)
    have e : l = pre := by rw [h]; simp
    rw [spec_paTable.l1, if_neg (by rw [e]; omega), e]
  | x :: rest, pre, h => by
    have hlen : pre.length < l.length := by rw [h]; simp
    obtain ⟨a, b, rfl, hab, hb⟩ := hn x (by rw [h]; simp)
    have hx : rd_T80 l (pre.length : Int) = ⟨(a : Int), (b : Int)⟩ := by rw [h]; exact rdT_mid pre rest _
    have ih := paTable_l1 m l hl hn rest (pre ++ [⟨(a : Int), (b : Int)⟩]) (by rw [h]; simp)
    rw [List.length_append, List.length_singleton, ← upd2_hasP] at ih
    refine Ev.step (fun k => ?_) ih
    have hrow : (rd_L4 (mat m (hasP pre)) (a : Int)).length = m := by rw [mat_row _ _ _ (by omega)]; simp
    have hrow2 : (rd_L4 (mat m (upd (hasP pre) a b true)) (b : Int)).length = m := by rw [mat_row _ _ _ (by omega)]; simp
    rw [spec_paTable.l1, if_pos (by omega), if_pos (by omega), if_pos (by omega), hx]
    dsimp only
    rw [mat_len, hrow, if_pos (by omega), if_pos (by omega), if_pos (by omega), if_pos (by omega), Int.toNat_natCast, Int.toNat_natCast, mat_set _ _ _ _ _ (by omega)]
    simp only [Option.bind_some]
    rw [if_pos (by omega), hrow2, if_pos (by omega), mat_set _ _ _ _ _ (by omega), w1 (by omega)]
theorem paTable_l0 (m : Nat) (hm : m ≤ 12) (l : List S80) (hl : l.length < 4611686018427387904) (hn : natPairs m l) : ∀ (d i : Nat), i + d = m → Ev (fun k => spec_paTable.l0 k (List.replicate i (List.replicate m false)) (i : Int) (m : Int) l) (mat m (hasP l))
  | 0, i, hd => by
    refine Ev.step (fun k => ?_) (paTable_l1 m l hl hn l [] rfl)
    obtain rfl : i = m := by omega
    rw [spec_paTable.l0, if_neg (by omega), hasP_nil, mat_false]
    rfl
  | d + 1, i, hd => by
    refine Ev.step (fun k => ?_) (paTable_l0 m hm l hl hn d (i + 1) (by omega))
    rw [spec_paTable.l0, if_pos (by omega), if_pos (by omega), if_pos (by omega), if_pos (by simp; omega), w1 (by omega), Int.toNat_natCast, List.replicate_succ']
theorem paTable_ev (m : Nat) (hm : m ≤ 12) (l : List S80) (hl : l.length < 4611686018427387904) (hn : natPairs m l) : Ev (fun k => spec_paTable.f k (m : Int) l) (mat m (hasP l)) := by
  unfold spec_paTable.f
  exact paTable_l0 m hm l hl hn m 0 (by omega)
def smallSS (L : List (List Int)) : Prop := L.length ≤ 100000 ∧ ∀ x ∈ L, x.length ≤ 1000
theorem tA_eq (h h' : Nat → Nat → Bool) (n : Nat) (e : ∀ a b, a < n → b < n → h a b = h' a b) : tA h n n = tA h' n n := by
  unfold tA
  refine flatMap_congr_mem _ _ _ fun a ha => ?_
  have ha := List.mem_range.1 ha
  unfold tB
  refine flatMap_congr_mem _ _ _ fun b hb => ?_
  have hb := List.mem_range'_1.1 hb
  unfold tC
  refine flatMap_congr_mem _ _ _ fun c hc => ?_
  have hc := List.mem_range'_1.1 hc
  rw [e a b ha (by omega), e a c ha (by omega), e b c (by omega) (by omega)]
theorem tab_false (m : Nat) : tab m (fun _ _ => false) = List.replicate m 0 := by
  unfold tab
  rw [← map_range_const (0 : Int) m]
  refine map_range_congr m _ _ fun i hi => ?_
  have : bitsOf m (fun _ => false) = 0 := by
    apply Nat.eq_of_testBit_eq
    intro i
    rw [testBit_bitsOf]; simp
  rw [this]; rfl
theorem bitsOf_or (m : Nat) (f : Nat → Bool) (b : Nat) (hb : b < m) : bitsOf m f ||| 2 ^ b = bitsOf m fun j => if j = b then true else f j := by
  apply Nat.eq_of_testBit_eq
  intro i
  rw [Nat.testBit_or, testBit_bitsOf, testBit_bitsOf, Nat.testBit_two_pow]
  by_cases e : i = b
  · subst e; simp [hb]
  · have e' : ¬ b = i := fun h => e h.symm
    simp [e, e']
theorem or16 (x y : Nat) (hx : x < 65536) (hy : y < 65536) : Go.bits .or .u16 (x : Int) (y : Int) = ((x ||| y : Nat) : Int) := (bits_nat .u16 16 (by decide) wraps_u16 x y hx hy).2
theorem pow_u16 (b : Nat) (h : b ≤ 12) : 2 ^ b < 65536 := Nat.lt_of_le_of_lt (Nat.pow_le_pow_right (by decide) h) (by decide)
theorem shl1 (b : Nat) (h : b ≤ 12) : shl .u16 1 (b : Int) = ((2 ^ b : Nat) : Int) := by
  have : b = 0 ∨ b = 1 ∨ b = 2 ∨ b = 3 ∨ b = 4 ∨ b = 5 ∨ b = 6 ∨ b = 7 ∨ b = 8 ∨ b = 9 ∨ b = 10 ∨ b = 11 ∨ b = 12 := by omega
  rcases this with rfl | rfl | rfl | rfl | rfl | rfl | rfl | rfl | rfl | rfl | rfl | rfl | rfl <;> decide
theorem bitsOf_congr (m : Nat) (f g : Nat → Bool) (h : ∀ i, i < m → f i = g i) : bitsOf m f = bitsOf m g := by
  apply Nat.eq_of_testBit_eq
  intro i
  rw [testBit_bitsOf, testBit_bitsOf]
  by_cases hi : i < m
  · simp [hi, h i hi]
  · simp [hi]
theorem tab_congr (m : Nat) (r s : Rel) (h : ∀ a b, a < m → b < m → r a b = s a b) : tab m r = tab m s := map_range_congr m _ _ fun a ha => by rw [bitsOf_congr m _ _ fun b hb => h a b ha hb]
theorem tab_set (m : Nat) (r : Rel) (a : Nat) (f : Nat → Bool) : (tab m r).set a ((bitsOf m f : Nat) : Int) = tab m (fun x => if x = a then f else r x) := by
  unfold tab
  rw [map_range_set]
  refine map_range_congr m _ _ fun i hi => ?_
  by_cases e : i = a <;> simp [e]
theorem tab_or (m : Nat) (hm : m ≤ 12) (r : Rel) (a b : Nat) (ha : a < m) (hb : b < m) : (tab m r).set a (Go.bits .or .u16 (rd (tab m r) (a : Int)) (shl .u16 1 (b : Int))) = tab m (upd r a b true) := by
  rw [tab_at m r a ha, shl1 b (by omega), or16 _ _ (bitsOf_u16 m hm _) (pow_u16 b (by omega)), bitsOf_or m _ b hb, tab_set]
  refine tab_congr m _ _ fun x y hx hy => ?_
  by_cases e : x = a
  · subst e; simp [upd]
  · simp [upd, e]
theorem table_l0 (m : Nat) (hm : m ≤ 12) (l : List S80) (hl : l.length < 4611686018427387904) (hn : natPairs m l) : ∀ (rest pre : List S80), l = pre ++ rest → Ev (fun k => impl_Party_table.l0 k (tab m (hasP pre)) l (l.length : Int) (pre.length : Int)) (tab m (hasP l))
  | [], pre, h => by
    refine Ev.one (fun k => ?_)
    have e : l = pre := by rw [h]; simp
    rw [impl_Party_table.l0, if_neg (by rw [e]; omega), e]
  | x :: rest, pre, h => by
    have hlen : pre.length < l.length := by rw [h]; simp
    obtain ⟨a, b, rfl, hab, hb⟩ := hn x (by rw [h]; simp)
    have hx : rd_T80 l (pre.length : Int) = ⟨(a : Int), (b : Int)⟩ := by rw [h]; exact rdT_mid pre rest _
    have ih := table_l0 m hm l hl hn rest (pre ++ [⟨(a : Int), (b : Int)⟩]) (by rw [h]; simp)
    rw [List.length_append, List.length_singleton, ← upd2_hasP] at ih
    refine Ev.step (fun k => ?_) ih
    rw [impl_Party_table.l0, if_pos (by omega), if_pos (by omega), if_pos (by omega), hx]
    dsimp only
    rw [tab_len, if_pos (by omega), if_pos (by omega), if_pos (by omega), Int.toNat_natCast, Int.toNat_natCast, tab_or m hm _ a b (by omega) (by omega)]
    simp only [Option.bind_some]
    rw [if_pos (by omega), tab_or m hm _ b a (by omega) (by omega), w1 (by omega)]
theorem table_ev (m : Nat) (hm : m ≤ 12) (l : List S80) (hl : l.length < 4611686018427387904) (hn : natPairs m l) : Ev (fun k => impl_Party_table.f k (m : Int) l) (tab m (hasP l)) := by
  unfold impl_Party_table.f
  simp only [if_pos (show (0 : Int) ≤ (m : Int) by omega), Int.toNat_natCast, if_pos (show m ≤ 140737488355328 by omega)]
  have := table_l0 m hm l hl hn l [] rfl
  rw [hasP_nil, tab_false] at this
  exact this

theorem l1Own_f (l : List Int) (h : l.length < 17592186044416) : spec_l1Own.f l = some l := by
  unfold spec_l1Own.f
  simp only [Option.bind_some, List.length_nil, Nat.zero_add, if_pos h, List.nil_append]
theorem ints_rd (L pre rest : List Nat) (b : Nat) (h : L = pre ++ b :: rest) : rd (ints L) (pre.length : Int) = (b : Int) := by
  subst h
  show (List.map Int.ofNat (pre ++ b :: rest)).getD _ 0 = _
  rw [Int.toNat_natCast]
  simp [List.getD_eq_getElem?_getD]
theorem mat_at (m : Nat) (r : Rel) (a b : Nat) (h : a < m) (h2 : b < m) : rdOf false (rd_L4 (mat m r) (a : Int)) (b : Int) = r a b := by
  rw [mat_row m r a h]; exact map_range_getD m _ _ b h2
theorem trKnows_l0 (m : Nat) (hm : m ≤ 12) (r : Rel) (a : Nat) (ha : a < m) (L : List Nat) (hL : ∀ x ∈ L, x < m) (hl : L.length ≤ 100) : ∀ (rest pre : List Nat), L = pre ++ rest → Ev (fun k => spec_trKnows.l0 k (mat m r) (a : Int) (ints L) (L.length : Int) (pre.length : Int)) (rest.all fun b => r a b)
  | [], pre, e => by
    have el : L.length = pre.length := by rw [e]; simp
    refine Ev.one (fun k => ?_)
    rw [spec_trKnows.l0, if_neg (by omega)]; rfl
  | b :: rest, pre, e => by
    have el : pre.length < L.length := by rw [e]; simp
    have hb : b < m := hL b (by rw [e]; simp)
    have hrd := ints_rd L pre rest b e
    have hrow : (rd_L4 (mat m r) (a : Int)).length = m := by rw [mat_row _ _ _ ha]; simp
    have ih := trKnows_l0 m hm r a ha L hL hl rest (pre ++ [b]) (by rw [e]; simp)
    rw [List.length_append, List.length_singleton] at ih
    cases hr : r a b with
    | true =>
      refine Ev.cast (Ev.step (fun k => ?_) ih) ?_
      · rw [spec_trKnows.l0, if_pos (by omega), if_pos (by omega), if_pos (by rw [ints_len]; omega), if_pos (by omega), mat_len, if_pos (by omega), hrd, if_pos (by omega), hrow, if_pos (by omega), mat_at m r a b ha hb, hr, if_pos rfl, w1 (by omega)]
      · rw [List.all_cons, hr, Bool.true_and]
    | false =>
      refine Ev.cast (a := false) (Ev.one (fun k => ?_)) ?_
      · rw [spec_trKnows.l0, if_pos (by omega), if_pos (by omega), if_pos (by rw [ints_len]; omega), if_pos (by omega), mat_len, if_pos (by omega), hrd, if_pos (by omega), hrow, if_pos (by omega), mat_at m r a b ha hb, hr, if_neg (by decide)]
      · rw [List.all_cons, hr, Bool.false_and]
theorem trKnows_ev (m : Nat) (hm : m ≤ 12) (r : Rel) (a : Nat) (ha : a < m) (L : List Nat) (hL : ∀ x ∈ L, x < m) (hl : L.length ≤ 100) : Ev (fun k => spec_trKnows.f k (mat m r) (ints L) (a : Int)) (L.all fun b => r a b) := by
  unfold spec_trKnows.f
  rw [ints_len]
  exact trKnows_l0 m hm r a ha L hL hl L [] rfl
theorem trG_l0 (m : Nat) (hm : m ≤ 12) (r : Rel) : ∀ (e d a : Nat) (cs : List Nat) (acc : List (List Int)), a + e = m → (∀ x ∈ cs, x < m) → cs.length + e + d ≤ 60 → acc.length + 2 ^ e ≤ 5000000 →
    Ev (fun k => spec_trGroups.l0 k (mat m r) (ints cs) ((cs.length + (d + 1) : Nat) : Int) acc (a : Int)) (acc ++ (gr r e (d + 1) cs a).map ints)
  | 0, d, a, cs, acc, ha, hcs, hd, hacc => by
    refine Ev.one (fun k => ?_)
    rw [spec_trGroups.l0, mat_len, if_neg (by omega), gr_none, List.map_nil, List.append_nil]
  | e + 1, d, a, cs, acc, ha, hcs, hd, hacc => by
    have hk := trKnows_ev m hm r a (by omega) cs hcs (by omega)
    have h2 : 2 ^ (e + 1) = 2 ^ e + 2 ^ e := by rw [Nat.pow_succ]; omega
    rw [gr_succ]
    refine Ev.step (f := fun k => (spec_trKnows.f k (mat m r) (ints cs) (a : Int)).bind fun t132 => (if t132 = true then ((spec_l1Own.f (ints cs)).bind fun t133 => (if t133.length < 17592186044416 then ((spec_trGroups.f k (mat m r) (t133 ++ [(a : Int)]) ((cs.length + (d + 1) : Nat) : Int)).bind fun t139 => (if acc.length + t139.length < 5864062014805 then (spec_trGroups.l0 k (mat m r) (ints cs) ((cs.length + (d + 1) : Nat) : Int) (acc ++ t139) ((a + 1 : Nat) : Int)) else (none))) else (none))) else (spec_trGroups.l0 k (mat m r) (ints cs) ((cs.length + (d + 1) : Nat) : Int) acc ((a + 1 : Nat) : Int)))) (fun k => ?_) ?_
    · rw [spec_trGroups.l0, mat_len, if_pos (by omega), w1 (by omega)]
    refine Ev.bind hk ?_
    cases hq : cs.all (fun b => r a b) with
    | true =>
      have hcs' : ∀ x ∈ cs ++ [a], x < m := fun x hx => by
        rcases List.mem_append.1 hx with hx | hx
        · exact hcs x hx
        · rw [List.mem_singleton.1 hx]; omega
      have hF : Ev (fun k => spec_trGroups.f k (mat m r) (ints cs ++ [(a : Int)]) ((cs.length + (d + 1) : Nat) : Int)) ((gr r e d (cs ++ [a]) (a + 1)).map ints) := by
        have hi : ints cs ++ [(a : Int)] = ints (cs ++ [a]) := by simp [ints]
        have hlen : (ints (cs ++ [a])).length = cs.length + 1 := by rw [ints_len, List.length_append, List.length_singleton]
        rw [hi]
        cases d with
        | zero =>
          refine Ev.one (fun k => ?_)
          rw [spec_trGroups.f, if_pos (by rw [hlen]), l1Own_f _ (by rw [hlen]; omega), gr_zero]; rfl
        | succ d =>
          have ih := trG_l0 m hm r e d (a + 1) (cs ++ [a]) [] (by omega) hcs' (by rw [List.length_append, List.length_singleton]; omega) (by simp only [List.length_nil]; omega)
          rw [List.length_append, List.length_singleton, show cs.length + 1 + (d + 1) = cs.length + (d + 1 + 1) by omega, List.nil_append] at ih
          refine Ev.step (f := fun k => spec_trGroups.j0 k (mat m r) (ints (cs ++ [a])) ((cs.length + (d + 1 + 1) : Nat) : Int) ((a + 1 : Nat) : Int)) (fun k => ?_) (Ev.step (fun k => by rw [spec_trGroups.j0]) ih)
          have hw : wrap64 (((cs.length + 1 : Nat) : Int) - 1) = (cs.length : Int) := by rw [w64 (by omega) (by omega)]; omega
          rw [spec_trGroups.f, hlen, if_neg (by omega), if_pos (by omega), hw, if_pos (by omega), if_pos (by omega), ints_rd _ cs [] a rfl, w1 (by omega)]
      have ih := trG_l0 m hm r e d (a + 1) cs (acc ++ (gr r e d (cs ++ [a]) (a + 1)).map ints) (by omega) hcs (by omega) (by
        have := gr_len r e d (cs ++ [a]) (a + 1)
        rw [List.length_append, List.length_map]; omega)
      have hg := gr_len r e d (cs ++ [a]) (a + 1)
      simp only [if_true]
      rw [l1Own_f _ (by rw [ints_len]; omega)]
      simp only [Option.bind_some, if_pos (show (ints cs).length < 17592186044416 by rw [ints_len]; omega)]
      refine Ev.bind hF ?_
      simp only [List.length_map, if_pos (show acc.length + (gr r e d (cs ++ [a]) (a + 1)).length < 5864062014805 by omega)]
      rw [List.map_append, ← List.append_assoc]
      exact ih
    | false =>
      simp only [Bool.false_eq_true, if_false, List.nil_append]
      exact trG_l0 m hm r e d (a + 1) cs acc (by omega) hcs (by omega) (Nat.le_trans (Nat.add_le_add_left (by rw [h2]; exact Nat.le_add_left _ _) _) hacc)
theorem trGroups_ev (m : Nat) (hm : m ≤ 12) (r : Rel) (size : Nat) (hs : size ≤ 40) : Ev (fun k => spec_trGroups.f k (mat m r) [] (size : Int)) ((gr r m size [] 0).map ints) := by
  cases size with
  | zero =>
    refine Ev.one (fun k => ?_)
    rw [spec_trGroups.f, if_pos (by rfl), l1Own_f _ (by simp), gr_zero]; rfl
  | succ d =>
    have ih := trG_l0 m hm r m d 0 [] [] (by omega) (fun x hx => by cases hx) (by simp only [List.length_nil]; omega) (by
      have : 2 ^ m ≤ 2 ^ 12 := Nat.pow_le_pow_right (by decide) hm
      simp only [List.length_nil]; omega)
    simp only [List.length_nil, Nat.zero_add, List.nil_append] at ih
    refine Ev.step (f := fun k => spec_trGroups.j0 k (mat m r) (ints []) ((d + 1 : Nat) : Int) ((0 : Nat) : Int)) (fun k => ?_) (Ev.step (fun k => by rw [spec_trGroups.j0]) ih)
    rw [spec_trGroups.f, if_neg (by simp only [List.length_nil]; omega), if_neg (by simp)]
    rfl

theorem FriendThrees_common (n : Int) (l : List S80) (w : (Lit.int .i64 n).wf = true) (hl : l.length ≤ 1048576) : ∃ R : List (List Int) × Bool, Ev (fun k => spec_FriendThrees.f k n l) R ∧ Ev (fun k => impl_FriendThrees.f k n l) R ∧ smallSS R.1 := by
  cases hg : good n l with
  | false =>
    refine ⟨([], false), ?_, ?_, ⟨by simp, fun x hx => by cases hx⟩⟩
    · unfold spec_FriendThrees.f
      refine Ev.bind (paGood_ev n l (by omega)) ?_
      simp only [hg, Bool.false_eq_true, if_false]; exact Ev.now _
    · unfold impl_FriendThrees.f
      refine Ev.bind (implIsParty_ev n l (by omega)) ?_
      simp only [hg, Bool.false_eq_true, if_false]; exact Ev.now _
  | true =>
    have hg' := hg
    obtain ⟨m, rfl, hm, hn, ho⟩ := good_nat hg'
    refine ⟨((gr (hasP l) m 3 [] 0).map ints, true), ?_, ?_, ?_, ?_⟩
    · unfold spec_FriendThrees.f
      refine Ev.bind (paGood_ev _ l (by omega)) ?_
      simp only [hg, if_true]
      refine Ev.bind (paTable_ev m hm l (by omega) hn) ?_
      exact Ev.bind (trGroups_ev m hm (hasP l) 3 (by omega)) (Ev.now _)
    · unfold impl_FriendThrees.f
      refine Ev.bind (implIsParty_ev _ l (by omega)) ?_
      simp only [hg, if_true]
      refine Ev.bind (table_ev m hm l (by omega) hn) ?_
      rw [gr_tA _ _ (hasP_symm l)]
      simp only [tab_len, true_and, if_pos hm]
      rw [tA_eq _ _ m (hasQ_tab m hm (hasP l))]
      exact Ev.now _
    · have := gr_len (hasP l) m 3 [] 0
      have h2 : 2 ^ m ≤ 2 ^ 12 := Nat.pow_le_pow_right (by decide) hm
      show ((gr (hasP l) m 3 [] 0).map ints).length ≤ 100000
      rw [List.length_map]; omega
    · intro x hx
      obtain ⟨y, hy, rfl⟩ := List.mem_map.1 hx
      have := gr_mem_len (hasP l) m 3 [] 0 y hy
      rw [ints_len]
      simp only [List.length_nil] at this
      omega

def conv (l : List S94) : List S80 := l.map fun x => ⟨x.f0, x.f1⟩
theorem conv_len (l : List S94) : (conv l).length = l.length := by simp [conv]
theorem ext_getD {a b : List Int} (h : a.length = b.length) (hj : ∀ j, j < a.length → a.getD j 0 = b.getD j 0) : a = b := by
  apply List.ext_getElem h
  intro i h1 h2
  have := hj i h1
  simpa [List.getD_eq_getElem?_getD, h1, h2] using this
theorem eqIntS_l0 (a b : List Int) (h : a.length = b.length) (hl : a.length < 4611686018427387904) : ∀ (d i : Nat), i + d = a.length → (∀ j, j < i → a.getD j 0 = b.getD j 0) → Ev (fun k => laws_eqIntS.l0 k a b i) (decide (a = b))
  | 0, i, hd, hj => by
    refine Ev.one (fun k => ?_)
    have : a = b := ext_getD h (fun j hj' => hj j (by omega))
    rw [laws_eqIntS.l0, if_neg (by omega)]; simp [this]
  | d + 1, i, hd, hj => by
    by_cases e : a.getD i 0 = b.getD i 0
    · refine Ev.step (f := fun k => laws_eqIntS.l0 k a b ((i + 1 : Nat) : Int)) (fun k => ?_) (eqIntS_l0 a b h hl d (i + 1) (by omega) ?_)
      · rw [laws_eqIntS.l0, if_pos (by omega), if_pos (by omega), if_pos (by omega), if_pos (by exact e), w1 (by omega)]
      · intro j hj'
        by_cases e2 : j = i
        · rw [e2]; exact e
        · exact hj j (by omega)
    · refine Ev.one (fun k => ?_)
      have : a ≠ b := fun h => e (by rw [h])
      rw [laws_eqIntS.l0, if_pos (by omega), if_pos (by omega), if_pos (by omega), if_neg (by exact e)]; simp [this]
theorem eqIntS_ev (a b : List Int) (hl : a.length < 4611686018427387904) : Ev (fun k => laws_eqIntS.f k a b) (decide (a = b)) := by
  unfold laws_eqIntS.f
  by_cases h : a.length = b.length
  · simp only [if_pos (show (a.length : Int) = (b.length : Int) by omega)]
    exact eqIntS_l0 a b h hl a.length 0 (by omega) (fun j hj => absurd hj (Nat.not_lt_zero _))
  · simp only [if_neg (show ¬ (a.length : Int) = (b.length : Int) by omega)]
    have : a ≠ b := fun e => h (by rw [e])
    exact Ev.one (fun k => by simp [this])
theorem eqIntS_self (a : List Int) (hl : a.length < 4611686018427387904) : Ev (fun k => laws_eqIntS.f k a a) true := by
  have h := eqIntS_ev a a hl
  rwa [decide_eq_true rfl] at h
theorem rdL_mid (pre rest : List (List Int)) (x : List Int) : rd_L8 (pre ++ x :: rest) (pre.length : Int) = x := by
  show (pre ++ x :: rest).getD _ [] = x
  simp [List.getD_eq_getElem?_getD]
theorem eqIntSS_l0 (L : List (List Int)) (h : smallSS L) : ∀ (rest pre : List (List Int)), L = pre ++ rest → Ev (fun k => laws_eqIntSS.l0 k L L (pre.length : Int)) true
  | [], pre, e => by
    have e2 : L.length = pre.length := by rw [e]; simp
    refine Ev.one fun k => ?_
    rw [laws_eqIntSS.l0, if_neg (by omega)]
  | x :: rest, pre, e => by
    have e2 : L.length = pre.length + (rest.length + 1) := by rw [e]; simp
    have hx : rd_L8 L (pre.length : Int) = x := by rw [e]; exact rdL_mid pre rest x
    have hl := h.1
    have hxl := h.2 x (by rw [e]; simp)
    have ih := eqIntSS_l0 L h rest (pre ++ [x]) (by rw [e]; simp)
    rw [List.length_append, List.length_singleton] at ih
    refine Ev.step (f := fun k => (laws_eqIntS.f k x x).bind fun t => if t = true then laws_eqIntSS.l0 k L L ((pre.length + 1 : Nat) : Int) else some false) (fun k => ?_) (Ev.bind (eqIntS_self x (by omega)) ?_)
    · rw [laws_eqIntSS.l0, if_pos (by omega), if_pos (by omega), if_pos (by omega), hx, w1 (by omega)]
    · simp only [if_true]; exact ih
theorem eqIntSS_self (L : List (List Int)) (h : smallSS L) : Ev (fun k => laws_eqIntSS.f k L L) true := by
  unfold laws_eqIntSS.f
  simp only [if_true]
  exact eqIntSS_l0 L h L [] rfl
theorem eqPairS_l0 (l : List S80) (hl : l.length < 4611686018427387904) : ∀ (d i : Nat), i + d = l.length → Ev (fun k => laws_eqPairS.l0 k l l i) true
  | 0, i, hd => by
    refine Ev.one (fun k => ?_)
    rw [laws_eqPairS.l0, if_neg (by omega)]
  | d + 1, i, hd => by
    refine Ev.step (fun k => ?_) (eqPairS_l0 l hl d (i + 1) (by omega))
    rw [laws_eqPairS.l0, if_pos (by omega), if_pos (by omega), if_pos (by omega), laws_eqPair.f, if_pos rfl, if_pos rfl, w1 (by omega)]
    rfl
theorem eqParty_self (a : Int) (l : List S80) (hl : l.length < 4611686018427387904) : Ev (fun k => laws_eqParty.f k a l a l) true := by
  unfold laws_eqParty.f laws_eqPairS.f
  simp only [if_true]
  have h : Ev (fun k => laws_eqPairS.l0 k l l 0) true := by simpa using eqPairS_l0 l hl l.length 0 (by omega)
  refine Ev.bind h ?_
  simp only [if_true]
  exact Ev.now _

/-- The list bears the marks m, m+1, .. -/
def Marked (m : Int) (z : List Int) : Prop := ∀ j, j < z.length → z.getD j 0 = m + j
inductive MarkedSS : Nat → List (List Int) → Prop
  | nil (m : Nat) : MarkedSS m []
  | cons (m : Nat) (z : List Int) (Z : List (List Int)) : Marked (m : Int) z → MarkedSS (m + z.length) Z → MarkedSS m (z :: Z)
theorem heldIntS_l0 (m : Int) (z : List Int) (h0 : 0 ≤ m) (hm : m + z.length < 4611686018427387904) (hz : Marked m z) : ∀ (d i : Nat), i + d = z.length → Ev (fun k => laws_heldIntS.l0 k z (m + i) i) (m + z.length)
  | 0, i, hd => by
    refine Ev.one (fun k => ?_)
    rw [laws_heldIntS.l0, if_neg (by omega), show i = z.length by omega]
  | d + 1, i, hd => by
    refine Ev.step (fun k => ?_) (heldIntS_l0 m z h0 hm hz d (i + 1) (by omega))
    rw [laws_heldIntS.l0, if_pos (by omega), if_pos (by omega), if_pos (by exact hz i (by omega)), w1 (by omega), w64 (by omega) (by omega), show m + (i : Int) + 1 = m + ((i + 1 : Nat) : Int) by omega]
theorem heldIntS_ev (z : List Int) (m : Int) (h0 : 0 ≤ m) (hm : m + z.length < 4611686018427387904) (hz : Marked m z) : Ev (fun k => laws_heldIntS.f k z m) (m + z.length) := by
  unfold laws_heldIntS.f
  simpa using heldIntS_l0 m z h0 hm hz z.length 0 (by omega)

def sumLen : List (List Int) → Nat
  | [] => 0
  | x :: l => x.length + sumLen l
theorem heldSS_l0 (L : List (List Int)) (hb : L.length < 4611686018427387904) : ∀ (rest pre : List (List Int)) (m : Nat), L = pre ++ rest → MarkedSS m rest → m + sumLen rest < 4611686018427387904 → Ev (fun k => laws_heldIntSS.l0 k L (m : Int) (pre.length : Int)) ((m + sumLen rest : Nat) : Int)
  | [], pre, m, e, _, _ => by
    have e2 : L.length = pre.length := by rw [e]; simp
    refine Ev.one fun k => ?_
    rw [laws_heldIntSS.l0, if_neg (by omega)]; rfl
  | x :: rest, pre, m, e, hM, hs => by
    have e2 : L.length = pre.length + (rest.length + 1) := by rw [e]; simp
    have hx : rd_L8 L (pre.length : Int) = x := by rw [e]; exact rdL_mid pre rest x
    rw [sumLen] at hs
    cases hM with
    | cons _ _ _ hm hr =>
      have ih := heldSS_l0 L hb rest (pre ++ [x]) (m + x.length) (by rw [e]; simp) hr (by omega)
      rw [List.length_append, List.length_singleton] at ih
      have eN : (m : Int) + (x.length : Int) = ((m + x.length : Nat) : Int) := by omega
      have hh := heldIntS_ev x (m : Int) (by omega) (by omega) hm
      rw [eN] at hh
      refine Ev.step (f := fun k => (laws_heldIntS.f k x (m : Int)).bind fun t => if t < 0 then some (-1) else laws_heldIntSS.l0 k L t ((pre.length + 1 : Nat) : Int)) (fun k => ?_) (Ev.bind hh ?_)
      · rw [laws_heldIntSS.l0, if_pos (by omega), if_pos (by omega), hx, w1 (by omega)]
      · simp only [if_neg (show ¬ (((m + x.length : Nat) : Int) < 0) by omega)]
        rw [sumLen, ← Nat.add_assoc]; exact ih
theorem getD_set (l : List Int) (i j : Nat) (v : Int) (hi : i < l.length) : (l.set i v).getD j 0 = if i = j then v else l.getD j 0 := by
  rw [List.getD_eq_getElem?_getD, List.getElem?_set]
  by_cases h : i = j
  · subst h; simp [hi]
  · simp [h]
theorem markIntS_l0 (m : Int) (n : Nat) (h0 : 0 ≤ m) (hm : m + n < 4611686018427387904) : ∀ (d i : Nat) (y : List Int), i + d = n → y.length = n → (∀ j, j < i → y.getD j 0 = m + j) → ∃ z : List Int, z.length = n ∧ Marked m z ∧ Ev (fun k => laws_markIntS.l0 k y (m + i) i) (m + n, z)
  | 0, i, y, hd, hy, h => by
    refine ⟨y, hy, fun j hj => h j (by omega), Ev.one (fun k => ?_)⟩
    rw [laws_markIntS.l0, if_neg (by omega), show i = n by omega]
  | d + 1, i, y, hd, hy, h => by
    obtain ⟨z, hz, hj, hE⟩ := markIntS_l0 m n h0 hm d (i + 1) (y.set i (m + i)) (by omega) (by simpa using hy) (fun j hj => by
      rw [getD_set _ _ _ _ (by omega)]
      by_cases e : i = j
      · simp [e]
      · rw [if_neg e]; exact h j (by omega))
    refine ⟨z, hz, hj, Ev.step (fun k => ?_) hE⟩
    rw [laws_markIntS.l0, if_pos (by omega), if_pos (by omega), w1 (by omega), w64 (by omega) (by omega), show m + (i : Int) + 1 = m + ((i + 1 : Nat) : Int) by omega]
    rfl
theorem markIntS_ev (y : List Int) (m : Int) (h0 : 0 ≤ m) (hm : m + y.length < 4611686018427387904) : ∃ z : List Int, z.length = y.length ∧ Marked m z ∧ Ev (fun k => laws_markIntS.f k y m) (m + y.length, z) := by
  obtain ⟨z, hz, hj, hE⟩ := markIntS_l0 m y.length h0 hm y.length 0 y (by omega) rfl (fun j hj => absurd hj (Nat.not_lt_zero _))
  refine ⟨z, hz, hj, ?_⟩
  unfold laws_markIntS.f
  simpa using hE
theorem markSS_go : ∀ (L : List (List Int)) (m : Nat), m + sumLen L < 4611686018427387904 → ∃ Z : List (List Int), Z.length = L.length ∧ sumLen Z = sumLen L ∧ MarkedSS m Z ∧ Ev (fun k => laws_markIntSS.go k L (m : Int)) (((m + sumLen L : Nat) : Int), Z)
  | [], m, h => ⟨[], rfl, rfl, .nil m, Ev.now _⟩
  | x :: L, m, h => by
    rw [sumLen] at h
    obtain ⟨z, hz, hm, hE⟩ := markIntS_ev x (m : Int) (by omega) (by omega)
    obtain ⟨Z, h1, h2, h3, h4⟩ := markSS_go L (m + x.length) (by omega)
    refine ⟨z :: Z, by rw [List.length_cons, List.length_cons, h1], by rw [sumLen, sumLen, hz, h2], .cons m z Z hm (by rw [hz]; exact h3), ?_⟩
    unfold laws_markIntSS.go
    refine Ev.bind hE ?_
    have e : (m : Int) + (x.length : Int) = ((m + x.length : Nat) : Int) := by omega
    simp only [e]
    refine Ev.bind h4 ?_
    rw [sumLen, ← Nat.add_assoc]
    exact Ev.now _
theorem sumLen_le : ∀ (L : List (List Int)) (b : Nat), (∀ x ∈ L, x.length ≤ b) → sumLen L ≤ L.length * b
  | [], b, h => by simp [sumLen]
  | x :: l, b, h => by
    have h1 := h x (List.mem_cons_self ..)
    have h2 := sumLen_le l b (fun y hy => h y (List.mem_cons_of_mem _ hy))
    rw [sumLen, List.length_cons, Nat.succ_mul]; omega
theorem markIntSS_ev (L : List (List Int)) (h : smallSS L) : ∃ (Z : List (List Int)) (m : Int), 0 ≤ m ∧ Ev (fun k => laws_markIntSS.f k L 1) (m, Z) ∧ Ev (fun k => laws_heldIntSS.f k Z 1) m := by
  have hs := sumLen_le L 1000 h.2
  have hl := h.1
  have hs2 : sumLen L ≤ 100000000 := Nat.le_trans hs (by have := Nat.mul_le_mul_right 1000 hl; omega)
  obtain ⟨Z, h1, h2, h3, h4⟩ := markSS_go L 1 (by omega)
  refine ⟨Z, ((1 + sumLen L : Nat) : Int), by omega, ?_, ?_⟩
  · unfold laws_markIntSS.f
    simp only [if_pos (show L.length ≤ 1000000000 by omega)]
    exact h4
  · unfold laws_heldIntSS.f
    have := heldSS_l0 Z (by omega) Z [] 1 rfl h3 (by rw [h2]; omega)
    rw [h2] at this
    exact this

/-- The pairs bear the marks m, m+1, .. -/
def MarkedP (m : Int) (z : List S80) : Prop := ∀ j, j < z.length → z[j]? = some ⟨m + 2 * j, m + 2 * j + 1⟩
theorem getD_of_get {α : Type} (l : List α) (i : Nat) (d x : α) (h : l[i]? = some x) : l.getD i d = x := by rw [List.getD_eq_getElem?_getD, h]; rfl
theorem rdT_set (y : List S80) (i : Nat) (v : S80) (h : i < y.length) : rd_T80 (y.set i v) (i : Int) = v := getD_of_get _ i _ _ (by rw [List.getElem?_set]; simp [h])
theorem markPairS_l0 (m : Int) (n : Nat) (h0 : 0 ≤ m) (hm : m + 2 * n < 4611686018427387904) : ∀ (d i : Nat) (y : List S80), i + d = n → y.length = n → (∀ j, j < i → y[j]? = some ⟨m + 2 * j, m + 2 * j + 1⟩) → ∃ z : List S80, z.length = n ∧ MarkedP m z ∧ Ev (fun k => laws_markPairS.l0 k y (m + 2 * i) i) (m + 2 * n, z)
  | 0, i, y, hd, hy, h => by
    refine ⟨y, hy, fun j hj => h j (by omega), Ev.one (fun k => ?_)⟩
    rw [laws_markPairS.l0, if_neg (by omega), show i = n by omega]
  | d + 1, i, y, hd, hy, h => by
    have hi : i < y.length := by omega
    obtain ⟨z, hz, hj, hE⟩ := markPairS_l0 m n h0 hm d (i + 1) (y.set i ⟨m + 2 * i, m + 2 * i + 1⟩) (by omega) (by simpa using hy) (fun j hj => by
      rw [List.getElem?_set]
      by_cases e : i = j
      · subst e; simp [hi]
      · rw [if_neg e]; exact h j (by omega))
    refine ⟨z, hz, hj, Ev.step (fun k => ?_) hE⟩
    rw [laws_markPairS.l0, if_pos (by omega), if_pos (by omega)]
    simp only [Option.bind_some, Int.toNat_natCast]
    rw [rdT_set _ _ _ (by omega), List.set_set, w1 (by omega), w64 (i := m + 2 * (i : Int) + 1) (by omega) (by omega), w64 (by omega) (by omega), show m + 2 * (i : Int) + 1 + 1 = m + 2 * ((i + 1 : Nat) : Int) by omega]
theorem markParty_ev (a : Int) (y : List S80) (m : Int) (h0 : 0 ≤ m) (hm : m + 2 * y.length < 4611686018427387904) : ∃ z : List S80, z.length = y.length ∧ MarkedP m z ∧ Ev (fun k => laws_markParty.f k a y m) (m + 2 * y.length, z) := by
  obtain ⟨z, hz, hj, hE⟩ := markPairS_l0 m y.length h0 hm y.length 0 y (by omega) rfl (fun j hj => absurd hj (Nat.not_lt_zero _))
  refine ⟨z, hz, hj, ?_⟩
  unfold laws_markParty.f laws_markPairS.f
  have hE' : Ev (fun k => laws_markPairS.l0 k y m 0) (m + 2 * y.length, z) := by simpa using hE
  exact Ev.bind hE' (Ev.now _)
theorem szParty_f (a0 : Int) (l : List S94) (a1 : Int) (h0 : 0 ≤ a1) (h1 : a1 ≤ 1048576) (hl : l.length ≤ maxLen) : laws_szParty.f a0 l a1 = some (if a1 - l.length < 0 then -1 else a1 - l.length) := by
  unfold maxLen at hl
  unfold laws_szParty.f laws_szPairS.f
  rw [w64 (by omega) (by omega)]
  by_cases h : a1 - l.length < 0
  · simp [h]
  · simp [h]
theorem toPairS_l0 (l : List S94) (hl : l.length < 4611686018427387904) : ∀ (d i : Nat) (y : List S80), i + d = l.length → y.length = l.length → (∀ j, j < i → y[j]? = (conv l)[j]?) → Ev (fun k => laws_toPairS.l0 k l y i) (conv l)
  | 0, i, y, hd, hy, h => by
    refine Ev.one (fun k => ?_)
    have e : y = conv l := by
      apply List.ext_getElem?
      intro j
      by_cases hj : j < i
      · exact h j hj
      · rw [List.getElem?_eq_none (by omega), List.getElem?_eq_none (by rw [conv_len]; omega)]
    rw [laws_toPairS.l0, if_neg (by omega), e]
  | d + 1, i, y, hd, hy, h => by
    have hi : i < l.length := by omega
    have hx : rd_T94 l (i : Int) = l[i] := getD_of_get l i _ _ (List.getElem?_eq_getElem hi)
    refine Ev.step (fun k => ?_) (toPairS_l0 l hl d (i + 1) (y.set i ⟨l[i].f0, l[i].f1⟩) (by omega) (by simpa using hy) ?_)
    · rw [laws_toPairS.l0, if_pos (by omega), if_pos (by omega), hx, laws_toPair.f]
      simp only [Option.bind_some]
      rw [if_pos (by omega), w1 (by omega)]
      rfl
    · intro j hj
      rw [List.getElem?_set]
      by_cases e : i = j
      · subst e
        have hiy : i < y.length := by omega
        simp [conv, hi, hiy]
      · rw [if_neg e]; exact h j (by omega)
theorem toPairS_ev (l : List S94) (hl : l.length ≤ 17592186044416) : Ev (fun k => laws_toPairS.f k l) (conv l) := by
  unfold laws_toPairS.f
  simp only [if_pos (show (0 : Int) ≤ (l.length : Int) by omega), if_pos (show ((l.length : Int) : Int).toNat ≤ 17592186044416 by simpa using hl)]
  exact toPairS_l0 l (by omega) l.length 0 _ (by omega) (by simp) (fun j hj => absurd hj (Nat.not_lt_zero _))
theorem toParty_ev (a : Int) (l : List S94) (hl : l.length ≤ 17592186044416) : Ev (fun k => laws_toParty.f k a l) (a, conv l) := by
  unfold laws_toParty.f
  exact Ev.bind (toPairS_ev l hl) (Ev.now _)
theorem FnExactFriendThrees : ∀ (a0 : Int) (l0 : List S94), (Lit.int .i64 a0).wf = true → l0.length ≤ maxLen → (∀ x ∈ l0, ∃ m n : Int, x = ⟨m, n⟩ ∧ (Lit.int .i64 m).wf = true ∧ (Lit.int .i64 n).wf = true) → ∃ k, laws_FnExactFriendThrees.f k a0 l0 = some true := by
  intro a0 l0 w0 hm0 hw0
  refine Ev.rounds ?_
  unfold laws_FnExactFriendThrees.f
  simp only [szParty_f a0 l0 1048576 (by omega) (by omega) hm0, Option.bind_some]
  by_cases hg0 : 1048576 - (l0.length : Int) < 0
  · simp only [if_pos hg0, show ((-1 : Int) < 0) from by decide, if_true]; exact Ev.now _
  simp only [if_neg hg0]
  have hlen0 : l0.length ≤ 1048576 := by omega
  have hcl0 := conv_len l0
  obtain ⟨R, hs, hi, hr0⟩ := FriendThrees_common a0 (conv l0) w0 (by rw [conv_len]; omega)
  obtain ⟨zk1, hzk1, _, hEk1⟩ := markParty_ev a0 (conv l0) (1 : Int) (by omega) (by omega)
  obtain ⟨Z, m, hm, hEm, hEh⟩ := markIntSS_ev R.1 hr0
  refine Ev.bind (toParty_ev a0 l0 (by omega)) ?_
  refine Ev.bind hs ?_
  refine Ev.bind hi ?_
  refine Ev.bind (eqIntSS_self R.1 hr0) ?_
  refine Ev.bind (eqParty_self a0 (conv l0) (by omega)) ?_
  refine Ev.bind hEk1 ?_
  refine Ev.bind hEm ?_
  refine Ev.bind hEh ?_
  have h1 : (0 : Int) ≤ 1 + 2 * ((conv l0).length : Int) := by omega
  simp only [h1, hm, true_and, and_self, if_true]
  exact Ev.now _
end Go.Proofs.Ytialimbdkokdcaa.Pure
