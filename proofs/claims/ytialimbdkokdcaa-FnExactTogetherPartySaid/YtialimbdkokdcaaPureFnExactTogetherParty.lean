/- The program's TogetherParty returns what the reference's returns, for all arguments (the plain statement behind the printed walk); no condition. -/
import Derived.Test.YtialimbdkokdcaaPx0
import Derived.Test.YtialimbdkokdcaaPx1
import Derived.Test.YtialimbdkokdcaaPx15
import Derived.Test.YtialimbdkokdcaaPx16
import Derived.Test.YtialimbdkokdcaaPx18
import Derived.Test.YtialimbdkokdcaaPx19
import Derived.Test.YtialimbdkokdcaaPx20
import Derived.Test.YtialimbdkokdcaaPx3
import Derived.Test.YtialimbdkokdcaaPx9
namespace Go.Proofs.Ytialimbdkokdcaa.Pure
open Go.RowKit Go.Proofs.Ytialimbdkokdcaa.P Go.Proofs.YtialimbdkokdcaaW.PrintWords Go.Proofs.YtialimbdkokdcaaW.PrintLast
set_option linter.unusedSimpArgs false
set_option linter.unusedVariables false
def crowd (n : Int) : Bool := decide (0 ≤ n ∧ n ≤ 12)
def lt2 (p q : S80) : Bool := decide (p.f0 < q.f0) || (decide (p.f0 = q.f0) && decide (p.f1 < q.f1))
def okPrev : Option S80 → S80 → Bool
  | none, _ => true
  | some p, x => lt2 p x
def okFrom (n : Int) : Option S80 → List S80 → Bool
  | _, [] => true
  | prev, x :: xs => (decide (0 ≤ x.f0) && (decide (x.f0 < x.f1) && (decide (x.f1 < n) && okPrev prev x))) && okFrom n (some x) xs
def good (n : Int) (l : List S80) : Bool := crowd n && okFrom n none l
abbrev Rel := Nat → Nat → Bool
def hasP (l : List S80) : Rel := fun a b => l.any fun x => (x.f0 == (a : Int) && x.f1 == (b : Int)) || (x.f0 == (b : Int) && x.f1 == (a : Int))
/-- What the join comes to. -/
def joinR (n : Nat) (r s : Rel) (fr : Bool) : Rel := fun x y => if x < n then (if y < n then r x y else fr) else (if y < n then fr else s (x - n) (y - n))
/-! ### pairs listed -/
def rowFrom (r : Rel) (a : Nat) : Nat → Nat → List S80
  | _, 0 => []
  | b, d + 1 => (if r a b then [⟨(a : Int), (b : Int)⟩] else []) ++ rowFrom r a (b + 1) d
def pairsFrom (r : Rel) (m : Nat) : Nat → Nat → List S80
  | _, 0 => []
  | a, d + 1 => rowFrom r a (a + 1) (m - (a + 1)) ++ pairsFrom r m (a + 1) d
def pairsOf (m : Nat) (r : Rel) : List S80 := pairsFrom r m 0 m
def joinOut (n m : Nat) (l1 l2 : List S80) (fr : Bool) : Int × List S80 × Bool := (((n + m : Nat) : Int), pairsOf (n + m) (joinR n (hasP l1) (hasP l2) fr), true)
def joinRes (n m : Int) (l1 l2 : List S80) (fr : Bool) : Int × List S80 × Bool := if (good n l1 && (good m l2 && decide (n + m ≤ 12))) = true then joinOut n.toNat m.toNat l1 l2 fr else (0, [], false)
def natPairs (m : Nat) (l : List S80) : Prop := ∀ x ∈ l, ∃ a b : Nat, x = ⟨(a : Int), (b : Int)⟩ ∧ a < b ∧ b < m
theorem okFrom_nat (m : Nat) : ∀ (l : List S80) (p : Option S80), okFrom (m : Int) p l = true → natPairs m l
  | [], _, _ => fun x hx => by simp at hx
  | x :: xs, p, h => by
    simp only [okFrom, Bool.and_eq_true, decide_eq_true_eq] at h
    obtain ⟨⟨h0, h1, h2, _⟩, h3⟩ := h
    intro y hy
    rcases List.mem_cons.1 hy with rfl | hy
    · refine ⟨y.f0.toNat, y.f1.toNat, ?_, by omega, by omega⟩
      rw [Int.toNat_of_nonneg h0, Int.toNat_of_nonneg (by omega)]
    · exact okFrom_nat m xs _ h3 y hy
theorem good_nat {n : Int} {l : List S80} (h : good n l = true) : ∃ m : Nat, n = (m : Int) ∧ m ≤ 12 ∧ natPairs m l ∧ okFrom (m : Int) none l = true := by
  unfold good crowd at h
  simp only [Bool.and_eq_true, decide_eq_true_eq] at h
  obtain ⟨⟨h0, h1⟩, h2⟩ := h
  obtain ⟨m, rfl⟩ := Int.eq_ofNat_of_zero_le h0
  exact ⟨m, rfl, by omega, okFrom_nat m l none h2, h2⟩
theorem rowFrom_len (r : Rel) (a : Nat) : ∀ (d b : Nat), (rowFrom r a b d).length ≤ d
  | 0, _ => Nat.le_refl _
  | d + 1, b => by
    have := rowFrom_len r a d (b + 1)
    rw [rowFrom, List.length_append]
    split <;> simp <;> omega
theorem pairsFrom_len (r : Rel) (m : Nat) (hm : m ≤ 12) : ∀ (d a : Nat), (pairsFrom r m a d).length ≤ 12 * d
  | 0, _ => Nat.le_refl _
  | d + 1, a => by
    have := pairsFrom_len r m hm d (a + 1)
    have := rowFrom_len r a (m - (a + 1)) (a + 1)
    rw [pairsFrom, List.length_append]; omega
theorem pairsOf_len (m : Nat) (hm : m ≤ 12) (r : Rel) : (pairsOf m r).length ≤ 144 := by
  have := pairsFrom_len r m hm m 0
  unfold pairsOf; omega
theorem joinRes_len (n m : Int) (l1 l2 : List S80) (fr : Bool) : (joinRes n m l1 l2 fr).2.1.length ≤ 1048576 := by
  unfold joinRes
  by_cases h : (good n l1 && (good m l2 && decide (n + m ≤ 12))) = true
  · rw [if_pos h]
    simp only [Bool.and_eq_true, decide_eq_true_eq] at h
    obtain ⟨n, rfl, _⟩ := good_nat h.1
    obtain ⟨m, rfl, _⟩ := good_nat h.2.1
    have := pairsOf_len (n + m) (by omega) (joinR n (hasP l1) (hasP l2) fr)
    unfold joinOut
    simp only [Int.toNat_natCast]
    omega
  · rw [if_neg h]; simp
theorem Ev.one {α : Type} {g : Nat → Option α} {r : α} (h : ∀ k, g (k + 1) = some r) : Ev g r := Ev.step h (Ev.now r)
theorem hasP_nil : hasP [] = fun _ _ => false := by funext x y; rfl
theorem Ev.cast {α : Type} {g : Nat → Option α} {a b : α} (h : Ev g a) (e : a = b) : Ev g b := e ▸ h
theorem within_f (a lo hi : Int) : impl_within.f a lo hi = some (decide (lo ≤ a) && decide (a ≤ hi)) := by
  unfold impl_within.f
  by_cases h : lo ≤ a
  · rw [if_pos h]; simp [h]
  · rw [if_neg h]; simp [h]
theorem areCrowd_f (a : Int) : impl_areCrowd.f a = some (decide (0 ≤ a ∧ a ≤ 12)) := by
  unfold impl_areCrowd.f
  rw [within_f]; simp [Bool.decide_and]
def cmp3 (a b : Int) : Int := if a < b then -1 else if a > b then 1 else 0
def cmpP (p q : S80) : Int := if cmp3 p.f0 q.f0 = 0 then cmp3 p.f1 q.f1 else cmp3 p.f0 q.f0
theorem cmpP_neg (p q : S80) : decide (cmpP p q ≥ 0) = !lt2 p q := by
  unfold cmpP cmp3 lt2
  by_cases h1 : p.f0 < q.f0
  · simp [h1]
  · by_cases h2 : p.f0 > q.f0
    · have h3 : ¬ p.f0 = q.f0 := by omega
      simp [h1, h2, h3]
    · have h3 : p.f0 = q.f0 := by omega
      by_cases h4 : p.f1 < q.f1
      · simp [h3, h4]
      · by_cases h5 : p.f1 > q.f1
        · simp [h3, h4, h5]
        · simp [h3, h4, h5]
theorem cmpOr_ev (a b : Int) : Ev (fun k => cmp_Or_int.f k [a, b]) (if a = 0 then b else a) := by
  refine ⟨3, fun k hk => ?_⟩
  obtain ⟨k, rfl⟩ : ∃ m, k = m + 3 := ⟨k - 3, by omega⟩
  have e1 : wrap64 (0 + 1) = 1 := by unfold wrap64; omega
  have e2 : wrap64 (1 + 1) = 2 := by unfold wrap64; omega
  have r0 : rd [a, b] 0 = a := rfl
  have r1 : rd [a, b] 1 = b := rfl
  simp only [cmp_Or_int.f, cmp_Or_int.l0, List.length_cons, List.length_nil, r0, r1, e1, e2]
  by_cases h : a = 0
  · by_cases h2 : b = 0
    · simp [h, h2]
    · simp [h, h2]
  · simp [h]
theorem compare_f (a b : Int) : cmp_Compare_int.f a b = some (cmp3 a b) := by
  unfold cmp_Compare_int.f cmp_isNaN_int.f cmp3
  simp
  by_cases h : a < b
  · simp [h]
  · by_cases h2 : a > b
    · simp [h, h2]
    · simp [h, h2]
theorem comparePairs_ev (p q : S80) : Ev (fun k => impl_comparePairs.f k p.f0 p.f1 q.f0 q.f1) (cmpP p q) := by
  unfold impl_comparePairs.f
  simp only [compare_f, Option.bind_some]
  exact Ev.bind (cmpOr_ev _ _) (Ev.now _)
theorem rdT_mid (pre rest : List S80) (x : S80) : rd_T80 (pre ++ x :: rest) (pre.length : Int) = x := by
  unfold rd_T80
  simp [List.getD_eq_getElem?_getD]
theorem w1 {n : Nat} (h : n < 4611686018427387904) : wrap64 ((n : Int) + 1) = ((n + 1 : Nat) : Int) := by unfold wrap64; omega
theorem w64 {i : Int} (h0 : -9223372036854775808 ≤ i) (h : i ≤ 9223372036854775807) : wrap64 i = i := by unfold wrap64; omega
theorem implIsParty_l0 (n : Int) (l : List S80) (hl : l.length < 4611686018427387904) : ∀ (rest pre : List S80), l = pre ++ rest → Ev (fun k => impl_IsParty.l0 k l (l.length : Int) (pre.length : Int) n l) (okFrom n pre.getLast? rest && crowd n)
  | [], pre, h => by
    refine Ev.one (fun k => ?_)
    have e : l.length = pre.length := by rw [h]; simp
    rw [impl_IsParty.l0, if_neg (by omega), areCrowd_f]
    simp [okFrom, crowd]
  | x :: rest, pre, h => by
    have hlen : pre.length < l.length := by rw [h]; simp
    have hx : rd_T80 l (pre.length : Int) = x := by rw [h]; exact rdT_mid pre rest x
    have ih := implIsParty_l0 n l hl rest (pre ++ [x]) (by rw [h]; simp)
    rw [List.getLast?_concat, List.length_append, List.length_singleton] at ih
    by_cases c1 : x.f0 < 0
    · refine Ev.one (fun k => ?_)
      rw [impl_IsParty.l0, if_pos (by omega), if_pos (by omega), if_pos (by omega), hx, if_pos c1]
      have : decide (0 ≤ x.f0) = false := by simp; omega
      simp [okFrom, this]
    by_cases c2 : x.f0 ≥ x.f1
    · refine Ev.one (fun k => ?_)
      rw [impl_IsParty.l0, if_pos (by omega), if_pos (by omega), if_pos (by omega), hx, if_neg c1, if_pos c2]
      have : decide (x.f0 < x.f1) = false := by simp; omega
      simp [okFrom, this]
    by_cases c3 : x.f1 ≥ n
    · refine Ev.one (fun k => ?_)
      rw [impl_IsParty.l0, if_pos (by omega), if_pos (by omega), if_pos (by omega), hx, if_neg c1, if_neg c2, if_pos c3]
      have : decide (x.f1 < n) = false := by simp; omega
      simp [okFrom, this]
    have d1 : decide (0 ≤ x.f0) = true := by simp; omega
    have d2 : decide (x.f0 < x.f1) = true := by simp; omega
    have d3 : decide (x.f1 < n) = true := by simp; omega
    rcases List.eq_nil_or_concat pre with rfl | ⟨q, p, rfl⟩
    · refine Ev.cast (Ev.step (fun k => ?_) ih) ?_
      · rw [impl_IsParty.l0, if_pos (by omega), if_pos (by omega), if_pos (by omega), hx, if_neg c1, if_neg c2, if_neg c3, if_neg (by simp), w1 (by simp)]
      · simp [okFrom, d1, d2, d3, okPrev]
    · rw [List.concat_eq_append] at hlen hx ih h ⊢
      have hp : rd_T80 l (q.length : Int) = p := by rw [h, List.append_assoc]; exact rdT_mid q (x :: rest) p
      have hq : (q ++ [p]).length = q.length + 1 := by simp
      rw [hq] at hlen hx ih ⊢
      refine Ev.step (f := fun k => (impl_comparePairs.f k p.f0 p.f1 x.f0 x.f1).bind fun t => if t ≥ 0 then some false else impl_IsParty.l0 k l (l.length : Int) ((q.length + 1 + 1 : Nat) : Int) n l) (fun k => ?_) (Ev.bind (comparePairs_ev p x) ?_)
      · rw [impl_IsParty.l0, if_pos (by omega), if_pos (by omega), if_pos (by omega), hx, if_neg c1, if_neg c2, if_neg c3, if_pos (by omega), w64 (i := ((q.length + 1 : Nat) : Int) - 1) (by omega) (by omega), show ((q.length + 1 : Nat) : Int) - 1 = (q.length : Int) by omega, if_pos (by omega), if_pos (by omega), hp, w1 (by omega)]
      · have hc := cmpP_neg p x
        rw [List.getLast?_concat]
        by_cases hlt : lt2 p x = true
        · have c4 : ¬ cmpP p x ≥ 0 := by rw [hlt] at hc; simpa using hc
          simp only [if_neg c4]
          refine Ev.cast ih ?_
          simp [okFrom, d1, d2, d3, okPrev, hlt]
        · have hlt' : lt2 p x = false := by simpa using hlt
          have c4 : cmpP p x ≥ 0 := by rw [hlt'] at hc; simpa using hc
          simp only [if_pos c4]
          refine Ev.cast (Ev.now _) ?_
          simp [okFrom, okPrev, hlt']
theorem implIsParty_ev (n : Int) (l : List S80) (hl : l.length < 4611686018427387904) : Ev (fun k => impl_IsParty.f k n l) (good n l) := by
  unfold impl_IsParty.f
  have := implIsParty_l0 n l hl l [] rfl
  rw [Bool.and_comm] at this
  exact this
theorem hasP_app (l1 l2 : List S80) (x y : Nat) : hasP (l1 ++ l2) x y = (hasP l1 x y || hasP l2 x y) := by unfold hasP; rw [List.any_append]
theorem hasP_out (n : Nat) (l : List S80) (hn : natPairs n l) (x y : Nat) (h : n ≤ x ∨ n ≤ y) : hasP l x y = false := by
  unfold hasP
  rw [List.any_eq_false]
  intro z hz
  obtain ⟨a, b, rfl, hab, hb⟩ := hn z hz
  simp only [Bool.or_eq_true, Bool.and_eq_true, beq_iff_eq]
  omega
def shP (n : Nat) (l : List S80) : List S80 := l.map fun x => ⟨x.f0 + (n : Int), x.f1 + (n : Int)⟩
theorem hasP_sh (n m : Nat) (l : List S80) (hn : natPairs m l) (x y : Nat) : hasP (shP n l) x y = if n ≤ x ∧ n ≤ y then hasP l (x - n) (y - n) else false := by
  unfold hasP shP
  rw [List.any_map]
  by_cases h : n ≤ x ∧ n ≤ y
  · rw [if_pos h]
    congr 1
    funext z
    show ((z.f0 + (n : Int) == (x : Int) && z.f1 + (n : Int) == (y : Int)) || (z.f0 + (n : Int) == (y : Int) && z.f1 + (n : Int) == (x : Int))) = _
    have e : ∀ (u : Int) (v : Nat), n ≤ v → (u + (n : Int) == (v : Int)) = (u == ((v - n : Nat) : Int)) := fun u v hv => by
      rw [Bool.eq_iff_iff, beq_iff_eq, beq_iff_eq]
      omega
    rw [e _ _ h.1, e _ _ h.2, e _ _ h.1, e _ _ h.2]
  · rw [if_neg h, List.any_eq_false]
    intro z hz
    obtain ⟨a, b, rfl, hab, hb⟩ := hn z hz
    simp only [Function.comp, Bool.or_eq_true, Bool.and_eq_true, beq_iff_eq]
    omega
theorem rowFrom_congr (r s : Rel) (a : Nat) : ∀ (d b : Nat), (∀ y, b ≤ y → y < b + d → r a y = s a y) → rowFrom r a b d = rowFrom s a b d
  | 0, _, _ => rfl
  | d + 1, b, h => by
    rw [rowFrom, rowFrom, h b (Nat.le_refl _) (by omega), rowFrom_congr r s a d (b + 1) (fun y h1 h2 => h y (by omega) (by omega))]
theorem pairsFrom_congr (r s : Rel) (m : Nat) (h : ∀ x y, x < y → y < m → r x y = s x y) : ∀ (d a : Nat), a + d ≤ m → pairsFrom r m a d = pairsFrom s m a d
  | 0, _, _ => rfl
  | d + 1, a, hd => by
    rw [pairsFrom, pairsFrom, rowFrom_congr r s a _ _ (fun y h1 h2 => h a y (by omega) (by omega)), pairsFrom_congr r s m h d (a + 1) (by omega)]
theorem pairsOf_congr (m : Nat) (r s : Rel) (h : ∀ x y, x < y → y < m → r x y = s x y) : pairsOf m r = pairsOf m s := pairsFrom_congr r s m h m 0 (by omega)
theorem hasP_join (n m : Nat) (l1 l2 : List S80) (h1 : natPairs n l1) (h2 : natPairs m l2) : pairsOf (n + m) (hasP (l1 ++ shP n l2)) = pairsOf (n + m) (joinR n (hasP l1) (hasP l2) false) := pairsOf_congr _ _ _ fun x y hxy hy => by
  rw [hasP_app, hasP_sh n m l2 h2]
  unfold joinR
  by_cases h3 : x < n
  · rw [if_pos h3]
    by_cases h4 : y < n
    · rw [if_pos h4, if_neg (by omega), Bool.or_false]
    · rw [if_neg h4, if_neg (by omega), Bool.or_false, hasP_out n l1 h1 x y (by omega)]
  · rw [if_neg h3, if_pos (show n ≤ x ∧ n ≤ y by omega), if_neg (show ¬ y < n by omega), hasP_out n l1 h1 x y (by omega), Bool.false_or]
def jxR (n : Nat) (L : List S80) (a b : Nat) : Rel := fun x y => if x < n ∧ n ≤ y ∧ (x < a ∨ (x = a ∧ y < n + b)) then true else if y < n ∧ n ≤ x ∧ (y < a ∨ (y = a ∧ x < n + b)) then true else hasP L x y
/-! ### tables of bits -/
def bitsOf : Nat → (Nat → Bool) → Nat
  | 0, _ => 0
  | m + 1, f => bitsOf m f + (f m).toNat * 2 ^ m
def tab (m : Nat) (r : Rel) : List Int := (List.range m).map fun a => ((bitsOf m (r a) : Nat) : Int)
theorem tab_len (m : Nat) (r : Rel) : (tab m r).length = m := by simp [tab]
theorem bitsOf_lt : ∀ (m : Nat) (f : Nat → Bool), bitsOf m f < 2 ^ m
  | 0, _ => by simp [bitsOf]
  | m + 1, f => by
    have := bitsOf_lt m f
    have h2 : (f m).toNat * 2 ^ m ≤ 2 ^ m := by cases f m <;> simp
    rw [bitsOf, Nat.pow_succ]; omega
theorem testBit_bitsOf : ∀ (m : Nat) (f : Nat → Bool) (i : Nat), (bitsOf m f).testBit i = (decide (i < m) && f i)
  | 0, f, i => by simp [bitsOf]
  | m + 1, f, i => by
    have ih := testBit_bitsOf m f
    by_cases hi : i < m
    · have h1 : i < m + 1 := by omega
      cases hf : f m with
      | false => simp [bitsOf, hf, ih i, hi, h1]
      | true => rw [bitsOf, hf, Bool.toNat_true, Nat.one_mul, Nat.add_comm, Nat.testBit_two_pow_add_gt hi, ih i]; simp [hi, h1]
    · by_cases e : i = m
      · subst e
        cases hf : f i with
        | false => simp [bitsOf, hf, ih i]
        | true => rw [bitsOf, hf, Bool.toNat_true, Nat.one_mul, Nat.add_comm, Nat.testBit_two_pow_add_eq, ih i]; simp
      · have h1 : ¬ i < m + 1 := by omega
        rw [Nat.testBit_lt_two_pow (Nat.lt_of_lt_of_le (bitsOf_lt (m + 1) f) (Nat.pow_le_pow_right (by decide) (by omega)))]
        simp [h1]
theorem bitsOf_or (m : Nat) (f : Nat → Bool) (b : Nat) (hb : b < m) : bitsOf m f ||| 2 ^ b = bitsOf m fun j => if j = b then true else f j := by
  apply Nat.eq_of_testBit_eq
  intro i
  rw [Nat.testBit_or, testBit_bitsOf, testBit_bitsOf, Nat.testBit_two_pow]
  by_cases e : i = b
  · subst e; simp [hb]
  · have e' : ¬ b = i := fun h => e h.symm
    simp [e, e']
theorem bitsOf_u16 (m : Nat) (hm : m ≤ 12) (f : Nat → Bool) : bitsOf m f < 65536 :=
  Nat.lt_of_lt_of_le (bitsOf_lt m f) (Nat.le_trans (Nat.pow_le_pow_right (by decide) hm) (by decide))
theorem wraps_u16 (n : Int) (h0 : 0 ≤ n) (h1 : n < 2 ^ 16) : IntKind.u16.wrap n = n := by
  simp [IntKind.wrap, IntKind.bits, IntKind.signed]; omega
theorem or16 (x y : Nat) (hx : x < 65536) (hy : y < 65536) : Go.bits .or .u16 (x : Int) (y : Int) = ((x ||| y : Nat) : Int) := (bits_nat .u16 16 (by decide) wraps_u16 x y hx hy).2
theorem pow_u16 (b : Nat) (h : b ≤ 12) : 2 ^ b < 65536 := Nat.lt_of_le_of_lt (Nat.pow_le_pow_right (by decide) h) (by decide)
theorem shl1 (b : Nat) (h : b ≤ 12) : shl .u16 1 (b : Int) = ((2 ^ b : Nat) : Int) := by
  have : b = 0 ∨ b = 1 ∨ b = 2 ∨ b = 3 ∨ b = 4 ∨ b = 5 ∨ b = 6 ∨ b = 7 ∨ b = 8 ∨ b = 9 ∨ b = 10 ∨ b = 11 ∨ b = 12 := by omega
  rcases this with rfl | rfl | rfl | rfl | rfl | rfl | rfl | rfl | rfl | rfl | rfl | rfl | rfl <;> decide
theorem map_range_getD {α : Type} (m : Nat) (f : Nat → α) (d : α) (a : Nat) (h : a < m) : ((List.range m).map f).getD a d = f a := by simp [List.getD_eq_getElem?_getD, h]
theorem tab_at (m : Nat) (r : Rel) (a : Nat) (h : a < m) : rd (tab m r) (a : Int) = ((bitsOf m (r a) : Nat) : Int) := map_range_getD m _ _ a h
theorem bitsOf_congr (m : Nat) (f g : Nat → Bool) (h : ∀ i, i < m → f i = g i) : bitsOf m f = bitsOf m g := by
  apply Nat.eq_of_testBit_eq
  intro i
  rw [testBit_bitsOf, testBit_bitsOf]
  by_cases hi : i < m
  · simp [hi, h i hi]
  · simp [hi]
theorem map_range_congr {α : Type} (m : Nat) (f g : Nat → α) (h : ∀ a, a < m → f a = g a) : (List.range m).map f = (List.range m).map g := List.map_congr_left fun a ha => h a (List.mem_range.1 ha)
theorem tab_congr (m : Nat) (r s : Rel) (h : ∀ a b, a < m → b < m → r a b = s a b) : tab m r = tab m s := map_range_congr m _ _ fun a ha => by rw [bitsOf_congr m _ _ fun b hb => h a b ha hb]
theorem map_range_set {α : Type} (m : Nat) (f : Nat → α) (a : Nat) (v : α) : ((List.range m).map f).set a v = (List.range m).map fun i => if i = a then v else f i := by
  apply List.ext_getElem?
  intro j
  rw [List.getElem?_set]
  by_cases hj : j < m
  · by_cases e : a = j
    · subst e; simp [hj]
    · have e' : ¬ j = a := fun h => e h.symm
      simp [hj, e, e']
  · by_cases e : a = j
    · subst e; simp [hj]
    · simp [hj, e]
theorem tab_set (m : Nat) (r : Rel) (a : Nat) (f : Nat → Bool) : (tab m r).set a ((bitsOf m f : Nat) : Int) = tab m (fun x => if x = a then f else r x) := by
  unfold tab
  rw [map_range_set]
  refine map_range_congr m _ _ fun i hi => ?_
  by_cases e : i = a <;> simp [e]
def upd (r : Rel) (a b : Nat) (v : Bool) : Rel := fun x y => if x = a ∧ y = b then v else r x y
theorem tab_or (m : Nat) (hm : m ≤ 12) (r : Rel) (a b : Nat) (ha : a < m) (hb : b < m) : (tab m r).set a (Go.bits .or .u16 (rd (tab m r) (a : Int)) (shl .u16 1 (b : Int))) = tab m (upd r a b true) := by
  rw [tab_at m r a ha, shl1 b (by omega), or16 _ _ (bitsOf_u16 m hm _) (pow_u16 b (by omega)), bitsOf_or m _ b hb, tab_set]
  refine tab_congr m _ _ fun x y hx hy => ?_
  by_cases e : x = a
  · subst e; simp [upd]
  · simp [upd, e]
theorem put_f (m : Nat) (hm : m ≤ 12) (r : Rel) (a b : Nat) (ha : a < m) (hb : b < m) : impl_table_put.f (tab m r) (a : Int) (b : Int) = some (tab m (upd (upd r a b true) b a true)) := by
  unfold impl_table_put.f
  rw [if_pos (by omega), tab_len, if_pos (by omega), if_pos (by omega), Int.toNat_natCast, Int.toNat_natCast, tab_or m hm r a b ha hb]
  simp only [Option.bind_some]
  rw [if_pos (by omega), tab_or m hm _ b a hb ha]
theorem joined_l3 (n m : Nat) (hN : n + m ≤ 12) (L l1 l2 : List S80) (a : Nat) (ha : a < n) (R : Int × List S80 × Bool) (h : Ev (fun k => impl_joined.l2 k (tab (n + m) (jxR n L (a + 1) 0)) (n : Int) ((a + 1 : Nat) : Int) (n : Int) l1 (m : Int) l2) R) : ∀ (d b : Nat), b + d = m →
    Ev (fun k => impl_joined.l3 k (tab (n + m) (jxR n L a b)) (a : Int) (n : Int) (a : Int) (m : Int) (b : Int) (n : Int) l1 (m : Int) l2) R
  | 0, b, hd => by
    obtain rfl : b = m := by omega
    have e : tab (n + b) (jxR n L a b) = tab (n + b) (jxR n L (a + 1) 0) := tab_congr _ _ _ fun x y hx hy => by
      unfold jxR
      by_cases h1 : x < n ∧ n ≤ y ∧ (x < a ∨ (x = a ∧ y < n + b))
      · rw [if_pos h1, if_pos (by omega)]
      · rw [if_neg h1, if_neg (show ¬ (x < n ∧ n ≤ y ∧ (x < a + 1 ∨ (x = a + 1 ∧ y < n + 0))) by omega)]
        by_cases h2 : y < n ∧ n ≤ x ∧ (y < a ∨ (y = a ∧ x < n + b))
        · rw [if_pos h2, if_pos (by omega)]
        · rw [if_neg h2, if_neg (by omega)]
    refine Ev.step (fun k => ?_) h
    rw [impl_joined.l3, if_neg (by omega), e, w1 (by omega)]
  | d + 1, b, hd => by
    have e : tab (n + m) (upd (upd (jxR n L a b) a (b + n) true) (b + n) a true) = tab (n + m) (jxR n L a (b + 1)) := tab_congr _ _ _ fun x y hx hy => by
      unfold upd jxR
      by_cases e1 : x = b + n ∧ y = a
      · obtain ⟨rfl, rfl⟩ := e1
        rw [if_pos ⟨rfl, rfl⟩, if_neg (by omega), if_pos (by omega)]
      · rw [if_neg e1]
        by_cases e2 : x = a ∧ y = b + n
        · obtain ⟨rfl, rfl⟩ := e2
          rw [if_pos ⟨rfl, rfl⟩, if_pos (by omega)]
        · rw [if_neg e2]
          by_cases h1 : x < n ∧ n ≤ y ∧ (x < a ∨ (x = a ∧ y < n + b))
          · rw [if_pos h1, if_pos (by omega)]
          · rw [if_neg h1, if_neg (show ¬ (x < n ∧ n ≤ y ∧ (x < a ∨ (x = a ∧ y < n + (b + 1)))) by omega)]
            by_cases h2 : y < n ∧ n ≤ x ∧ (y < a ∨ (y = a ∧ x < n + b))
            · rw [if_pos h2, if_pos (by omega)]
            · rw [if_neg h2, if_neg (by omega)]
    refine Ev.step (fun k => ?_) (joined_l3 n m hN L l1 l2 a ha R h d (b + 1) (by omega))
    have ew : wrap64 ((b : Int) + (n : Int)) = ((b + n : Nat) : Int) := by rw [w64 (by omega) (by omega)]; omega
    rw [impl_joined.l3, if_pos (by omega), ew, put_f (n + m) hN _ a (b + n) (by omega) (by omega), Option.bind_some, e, w1 (by omega)]
theorem and16 (x y : Nat) (hx : x < 65536) (hy : y < 65536) : Go.bits .and .u16 (x : Int) (y : Int) = ((x &&& y : Nat) : Int) := (bits_nat .u16 16 (by decide) wraps_u16 x y hx hy).1
theorem has_f (m : Nat) (hm : m ≤ 12) (r : Rel) (a b : Nat) (ha : a < m) (hb : b < m) : impl_table_has.f (tab m r) (a : Int) (b : Int) = some (r a b) := by
  unfold impl_table_has.f
  rw [if_pos (by omega), if_pos (by rw [tab_len]; omega), if_pos (by omega), tab_at m r a ha]
  have hX := bitsOf_u16 m hm (r a)
  have hs : shr .u16 ((bitsOf m (r a) : Nat) : Int) (b : Int) = ((bitsOf m (r a) / 2 ^ b : Nat) : Int) := by
    unfold shr
    rw [Int.toNat_natCast, Nat.min_eq_left (show b ≤ IntKind.u16.bits from by show b ≤ 16; omega)]
    simp
  have hd : bitsOf m (r a) / 2 ^ b < 65536 := Nat.lt_of_le_of_lt (Nat.div_le_self _ _) hX
  have ht := testBit_bitsOf m (r a) b
  rw [Nat.testBit_eq_decide_div_mod_eq] at ht
  have e1 : Go.bits .and .u16 ((bitsOf m (r a) / 2 ^ b : Nat) : Int) 1 = ((bitsOf m (r a) / 2 ^ b % 2 : Nat) : Int) := by
    have := and16 (bitsOf m (r a) / 2 ^ b) 1 hd (by decide)
    rw [Nat.and_one_is_mod] at this
    exact this
  rw [hs, e1]
  simp only [hb, decide_true, Bool.true_and] at ht
  rw [← ht]
  congr 1
  by_cases h : bitsOf m (r a) / 2 ^ b % 2 = 1
  · simp [h]
  · have h0 : bitsOf m (r a) / 2 ^ b % 2 = 0 := by omega
    simp [h0]
theorem party_l1 (m : Nat) (hm : m ≤ 12) (r : Rel) (a : Nat) (ha : a < m) (n : Int) (R : Int × List S80) : ∀ (d b : Nat) (acc : List S80), b + d = m → acc.length ≤ 12 * a + b → Ev (fun k => impl_table_party.l0 k (tab m r) (m : Int) ((a + 1 : Nat) : Int) n (acc ++ rowFrom r a b d)) R → Ev (fun k => impl_table_party.l1 k (tab m r) (a : Int) (b : Int) (m : Int) (a : Int) n acc) R
  | 0, b, acc, hd, hacc, h => by
    refine Ev.step (fun k => ?_) h
    rw [impl_table_party.l1, tab_len, if_neg (by omega), w1 (by omega), rowFrom, List.append_nil]
  | d + 1, b, acc, hd, hacc, h => by
    have hb : b < m := by omega
    rw [rowFrom, ← List.append_assoc] at h
    cases hr : r a b with
    | true =>
      rw [hr, if_pos rfl] at h
      have ih := party_l1 m hm r a ha n R d (b + 1) (acc ++ [⟨(a : Int), (b : Int)⟩]) (by omega) (by simp; omega) h
      refine Ev.step (fun k => ?_) ih
      rw [impl_table_party.l1, tab_len, if_pos (by omega), has_f m hm r a b ha hb, hr]
      simp only [Option.bind_some, if_true]
      rw [if_pos (by omega), w1 (by omega)]
    | false =>
      rw [hr, if_neg (by decide), List.append_nil] at h
      have ih := party_l1 m hm r a ha n R d (b + 1) acc (by omega) (by omega) h
      refine Ev.step (fun k => ?_) ih
      rw [impl_table_party.l1, tab_len, if_pos (by omega), has_f m hm r a b ha hb, hr, w1 (by omega)]
      rfl
theorem party_l0 (m : Nat) (hm : m ≤ 12) (r : Rel) (n : Int) : ∀ (d a : Nat) (acc : List S80), a + d = m → acc.length ≤ 12 * a → Ev (fun k => impl_table_party.l0 k (tab m r) (m : Int) (a : Int) n acc) (n, acc ++ pairsFrom r m a d)
  | 0, a, acc, hd, hacc => by
    refine Ev.one (fun k => ?_)
    rw [impl_table_party.l0, if_neg (by omega), pairsFrom, List.append_nil]
  | d + 1, a, acc, hd, hacc => by
    have hl := rowFrom_len r a (m - (a + 1)) (a + 1)
    have ih := party_l0 m hm r n d (a + 1) (acc ++ rowFrom r a (a + 1) (m - (a + 1))) (by omega) (by rw [List.length_append]; omega)
    rw [List.append_assoc, ← pairsFrom] at ih
    have h := party_l1 m hm r a (by omega) n _ (m - (a + 1)) (a + 1) acc (by omega) (by omega) ih
    refine Ev.step (fun k => ?_) h
    rw [impl_table_party.l0, if_pos (by omega), w1 (by omega)]
theorem party_ev (m : Nat) (hm : m ≤ 12) (r : Rel) : Ev (fun k => impl_table_party.f k (tab m r)) ((m : Int), pairsOf m r) := by
  unfold impl_table_party.f
  rw [tab_len]
  exact party_l0 m hm r m m 0 [] (by omega) (by simp)

theorem joined_l2 (n m : Nat) (hN : n + m ≤ 12) (L l1 l2 : List S80) : ∀ (d a : Nat), a + d = n → Ev (fun k => impl_joined.l2 k (tab (n + m) (jxR n L a 0)) (n : Int) (a : Int) (n : Int) l1 (m : Int) l2) (((n + m : Nat) : Int), pairsOf (n + m) (jxR n L n 0), true)
  | 0, a, hd => by
    obtain rfl : a = n := by omega
    refine Ev.step (f := fun k => (impl_table_party.f k (tab (a + m) (jxR a L a 0))).bind fun bt => some (bt.1, bt.2, true)) (fun k => ?_) (Ev.bind (party_ev _ hN _) (Ev.now _))
    rw [impl_joined.l2, if_neg (by omega)]
  | d + 1, a, hd => by
    refine Ev.step (fun k => ?_) (joined_l3 n m hN L l1 l2 a (by omega) _ (joined_l2 n m hN L l1 l2 d (a + 1) (by omega)) m 0 (by omega))
    rw [impl_joined.l2, if_pos (by omega)]
    rfl
theorem jxR_none (n : Nat) (L : List S80) (N : Nat) : tab N (jxR n L 0 0) = tab N (hasP L) := tab_congr N _ _ fun x y hx hy => by
  unfold jxR
  rw [if_neg (by omega), if_neg (by omega)]
theorem jx_join (n m : Nat) (l1 l2 : List S80) (h1 : natPairs n l1) (h2 : natPairs m l2) : pairsOf (n + m) (jxR n (l1 ++ shP n l2) n 0) = pairsOf (n + m) (joinR n (hasP l1) (hasP l2) true) := pairsOf_congr _ _ _ fun x y hxy hy => by
  unfold jxR joinR
  rw [hasP_app, hasP_sh n m l2 h2]
  by_cases h3 : x < n
  · rw [if_pos h3]
    by_cases h4 : y < n
    · rw [if_neg (by omega), if_neg (by omega), if_pos h4, if_neg (by omega), Bool.or_false]
    · rw [if_pos (by omega), if_neg h4]
  · rw [if_neg (fun h => h3 h.1), if_neg (show ¬ (y < n ∧ n ≤ x ∧ (y < n ∨ y = n ∧ x < n + 0)) by omega), if_neg h3, if_neg (show ¬ y < n by omega), if_pos (show n ≤ x ∧ n ≤ y by omega), hasP_out n l1 h1 x y (by omega), Bool.false_or]
theorem hasP_snoc (pre : List S80) (a b x y : Nat) : hasP (pre ++ [⟨(a : Int), (b : Int)⟩]) x y = (hasP pre x y || ((decide (a = x) && decide (b = y)) || (decide (a = y) && decide (b = x)))) := by
  unfold hasP
  rw [List.any_append]
  congr 1
  simp only [List.any_cons, List.any_nil, Bool.or_false]
  have e : ∀ u v : Nat, ((u : Int) == (v : Int)) = decide (u = v) := fun u v => by
    by_cases h : u = v
    · simp [h]
    · have : ¬ (u : Int) = (v : Int) := by omega
      simp [h, this]
  rw [e, e, e, e]
theorem upd2_hasP (pre : List S80) (a b : Nat) : upd (upd (hasP pre) a b true) b a true = hasP (pre ++ [⟨(a : Int), (b : Int)⟩]) := by
  funext x y
  rw [hasP_snoc]
  unfold upd
  by_cases h1 : x = b ∧ y = a
  · simp [h1]
  · by_cases h2 : x = a ∧ y = b
    · simp [h2]
    · have e1 : (decide (a = x) && decide (b = y)) = false := by simp; intro h3 h4; exact h2 ⟨h3.symm, h4.symm⟩
      have e2 : (decide (a = y) && decide (b = x)) = false := by simp; intro h3 h4; exact h1 ⟨h4.symm, h3.symm⟩
      simp [h1, h2, e1, e2]
theorem joined_l1 (n m : Nat) (hN : n + m ≤ 12) (fr : Bool) (l1 l2 : List S80) (h1 : natPairs n l1) (h2 : natPairs m l2) (hl2 : l2.length ≤ 1048576) : ∀ (rest pre : List S80), l2 = pre ++ rest → Ev (fun k => impl_joined.l1 k fr (tab (n + m) (hasP (l1 ++ shP n pre))) l2 (l2.length : Int) (pre.length : Int) (n : Int) l1 (m : Int) l2) (joinOut n m l1 l2 fr)
  | [], pre, e => by
    rw [List.append_nil] at e
    subst e
    cases fr with
    | true =>
      have h3 := joined_l2 n m hN (l1 ++ shP n l2) l1 l2 n 0 (by omega)
      rw [jxR_none, jx_join n m l1 l2 h1 h2] at h3
      refine Ev.step (fun k => ?_) h3
      rw [impl_joined.l1, if_neg (by omega), if_pos rfl]
      rfl
    | false =>
      have h3 := party_ev (n + m) hN (hasP (l1 ++ shP n l2))
      rw [hasP_join n m l1 l2 h1 h2] at h3
      refine Ev.step (f := fun k => (impl_table_party.f k (tab (n + m) (hasP (l1 ++ shP n l2)))).bind fun bt => some (bt.1, bt.2, true)) (fun k => ?_) (Ev.bind h3 (Ev.now _))
      rw [impl_joined.l1, if_neg (by omega), if_neg (by decide)]
  | x :: rest, pre, e => by
    have hlen : l2.length = pre.length + (rest.length + 1) := by rw [e, List.length_append, List.length_cons]
    obtain ⟨a, b, rfl, hab, hb⟩ := h2 x (by rw [e]; simp)
    have hx : rd_T80 l2 (pre.length : Int) = ⟨(a : Int), (b : Int)⟩ := by rw [e]; exact rdT_mid pre rest _
    have ih := joined_l1 n m hN fr l1 l2 h1 h2 hl2 rest (pre ++ [⟨(a : Int), (b : Int)⟩]) (by rw [e, List.append_assoc]; rfl)
    have es : l1 ++ shP n (pre ++ [⟨(a : Int), (b : Int)⟩]) = (l1 ++ shP n pre) ++ [⟨((a + n : Nat) : Int), ((b + n : Nat) : Int)⟩] := by
      unfold shP
      rw [List.map_append, List.append_assoc]
      congr 2
    rw [List.length_append, List.length_singleton, es, ← upd2_hasP] at ih
    have ea : wrap64 ((a : Int) + (n : Int)) = ((a + n : Nat) : Int) := by rw [w64 (by omega) (by omega)]; omega
    have eb : wrap64 ((b : Int) + (n : Int)) = ((b + n : Nat) : Int) := by rw [w64 (by omega) (by omega)]; omega
    refine Ev.step (fun k => ?_) ih
    rw [impl_joined.l1, if_pos (by omega), if_pos (by omega), if_pos (by omega), hx]
    dsimp only
    rw [ea, eb, put_f (n + m) hN _ _ _ (by omega) (by omega), Option.bind_some, w1 (by omega)]
theorem joined_l0 (n m : Nat) (hN : n + m ≤ 12) (fr : Bool) (l1 l2 : List S80) (h1 : natPairs n l1) (h2 : natPairs m l2) (hl1 : l1.length ≤ 1048576) (hl2 : l2.length ≤ 1048576) : ∀ (rest pre : List S80), l1 = pre ++ rest → Ev (fun k => impl_joined.l0 k fr (tab (n + m) (hasP pre)) l1 (l1.length : Int) (pre.length : Int) (n : Int) l1 (m : Int) l2) (joinOut n m l1 l2 fr)
  | [], pre, e => by
    rw [List.append_nil] at e
    subst e
    have h3 := joined_l1 n m hN fr l1 l2 h1 h2 hl2 l2 [] rfl
    rw [show l1 ++ shP n [] = l1 from List.append_nil _] at h3
    refine Ev.step (fun k => ?_) h3
    rw [impl_joined.l0, if_neg (by omega)]
    rfl
  | x :: rest, pre, e => by
    have hlen : l1.length = pre.length + (rest.length + 1) := by rw [e, List.length_append, List.length_cons]
    obtain ⟨a, b, rfl, hab, hb⟩ := h1 x (by rw [e]; simp)
    have hx : rd_T80 l1 (pre.length : Int) = ⟨(a : Int), (b : Int)⟩ := by rw [e]; exact rdT_mid pre rest _
    have ih := joined_l0 n m hN fr l1 l2 h1 h2 hl1 hl2 rest (pre ++ [⟨(a : Int), (b : Int)⟩]) (by rw [e, List.append_assoc]; rfl)
    rw [List.length_append, List.length_singleton, ← upd2_hasP] at ih
    refine Ev.step (fun k => ?_) ih
    rw [impl_joined.l0, if_pos (by omega), if_pos (by omega), if_pos (by omega), hx]
    dsimp only
    rw [put_f (n + m) hN _ _ _ (by omega) (by omega), Option.bind_some, w1 (by omega)]
theorem map_range_const {α : Type} (c : α) : ∀ m : Nat, (List.range m).map (fun _ => c) = List.replicate m c
  | 0 => rfl
  | m + 1 => by rw [List.range_succ, List.map_append, map_range_const c m, List.replicate_succ']; rfl
theorem tab_false (m : Nat) : tab m (fun _ _ => false) = List.replicate m 0 := by
  unfold tab
  rw [← map_range_const (0 : Int) m]
  refine map_range_congr m _ _ fun i hi => ?_
  have : bitsOf m (fun _ => false) = 0 := by
    apply Nat.eq_of_testBit_eq
    intro i
    rw [testBit_bitsOf]; simp
  rw [this]; rfl
theorem joined_ev (n m : Int) (l1 l2 : List S80) (fr : Bool) (hl1 : l1.length ≤ 1048576) (hl2 : l2.length ≤ 1048576) : Ev (fun k => impl_joined.f k n l1 m l2 fr) (joinRes n m l1 l2 fr) := by
  unfold impl_joined.f joinRes
  refine Ev.bind (implIsParty_ev n l1 (by omega)) ?_
  cases h1 : good n l1 with
  | false =>
    simp only [Bool.false_eq_true, if_false, Bool.false_and]
    exact Ev.one fun k => by rw [impl_joined.j0, if_pos rfl]
  | true =>
    simp only [if_true, Bool.true_and]
    refine Ev.bind (implIsParty_ev m l2 (by omega)) ?_
    cases h2 : good m l2 with
    | false =>
      simp only [Bool.false_eq_true, if_false, Bool.false_and]
      exact Ev.one fun k => by rw [impl_joined.j0, if_pos rfl]
    | true =>
      obtain ⟨n, rfl, hn, hp1, _⟩ := good_nat h1
      obtain ⟨m, rfl, hm, hp2, _⟩ := good_nat h2
      have ew : wrap64 ((n : Int) + (m : Int)) = ((n + m : Nat) : Int) := by rw [w64 (by omega) (by omega)]; omega
      simp only [if_true, Bool.true_and, ew]
      by_cases hN : n + m ≤ 12
      · simp only [decide_eq_false (show ¬ ((n + m : Nat) : Int) > 12 by omega), decide_eq_true (show (n : Int) + (m : Int) ≤ 12 by omega), if_true, Int.toNat_natCast]
        have h3 := joined_l0 n m hN fr l1 l2 hp1 hp2 hl1 hl2 l1 [] rfl
        rw [hasP_nil, tab_false] at h3
        refine Ev.step (fun k => ?_) h3
        rw [impl_joined.j0, if_neg (by decide), ew, if_pos (by omega), if_pos (by omega), Int.toNat_natCast]
        rfl
      · simp only [decide_eq_true (show ((n + m : Nat) : Int) > 12 by omega), decide_eq_false (show ¬ (n : Int) + (m : Int) ≤ 12 by omega), Bool.false_eq_true, if_false]
        exact Ev.one fun k => by rw [impl_joined.j0, if_pos rfl]
def jrA (n : Nat) (r : Rel) (k : Nat) : Rel := fun x y => if x < k ∧ y < n then r x y else false
theorem map_range_get (m : Nat) (f : Nat → Bool) (i : Nat) : ((List.range m).map f)[i]? = if i < m then some (f i) else none := by
  by_cases h : i < m
  · rw [if_pos h, List.getElem?_map, List.getElem?_range h]; rfl
  · rw [if_neg h, List.getElem?_eq_none (by simp; omega)]
/-! ### matrices -/
def mat (m : Nat) (r : Rel) : List (List Bool) := (List.range m).map fun a => (List.range m).map fun b => r a b
theorem mat_congr (m : Nat) (r s : Rel) (h : ∀ a b, a < m → b < m → r a b = s a b) : mat m r = mat m s := map_range_congr m _ _ fun a ha => map_range_congr m _ _ fun b hb => h a b ha hb
theorem mat_len (m : Nat) (r : Rel) : (mat m r).length = m := by simp [mat]
theorem mat_row (m : Nat) (r : Rel) (a : Nat) (h : a < m) : rd_L4 (mat m r) (a : Int) = (List.range m).map fun b => r a b := map_range_getD m _ _ a h
theorem mat_row_set (m : Nat) (r : Rel) (a : Nat) (f : Nat → Bool) : (mat m r).set a ((List.range m).map f) = mat m fun x => if x = a then f else r x := by
  unfold mat
  rw [map_range_set]
  refine map_range_congr m _ _ fun i hi => ?_
  by_cases e : i = a
  · rw [if_pos e]; simp [e]
  · rw [if_neg e]; simp [e]
theorem jA_ev (n N : Nat) (hnN : n ≤ N) (r : Rel) : ∀ (d a : Nat), a + d = n → jA (mat n r) d a (mat N (jrA n r a)) = some (mat N (jrA n r n))
  | 0, a, h => by
    obtain rfl : a = n := by omega
    rfl
  | d + 1, a, h => by
    have hN : 0 < N := by omega
    have hlen : (rd_L4 (mat N (jrA n r a)) (a : Int)).length = N := by rw [mat_row _ _ _ (by omega)]; simp
    have hcp : cpyB (rd_L4 (mat N (jrA n r a)) (a : Int)) (rd_L4 (mat n r) (a : Int)) = (List.range N).map fun y => if y < n then r a y else jrA n r a a y := by
      rw [mat_row _ _ _ (by omega), mat_row n r a (by omega)]
      unfold cpyB
      apply List.ext_getElem?
      intro i
      rw [map_range_get]
      have hm : min ((List.range n).map fun b => r a b).length ((List.range N).map fun b => jrA n r a a b).length = n := by simp; omega
      rw [hm]
      by_cases hi : i < n
      · rw [List.getElem?_append_left (by simp; omega), List.getElem?_take, if_pos hi, map_range_get, if_pos hi, if_pos (by omega), if_pos hi]
      · rw [List.getElem?_append_right (by simp; omega), List.getElem?_drop, map_range_get]
        have : n + (i - (List.take n ((List.range n).map fun b => r a b)).length) = i := by simp; omega
        rw [this, if_neg hi]
    rw [jA, mat_len, hlen, if_pos ⟨by omega, hN⟩, hcp, mat_row_set]
    have ih := jA_ev n N hnN r d (a + 1) (by omega)
    rw [← ih]
    congr 1
    refine mat_congr N _ _ fun x y hx hy => ?_
    unfold jrA
    by_cases e : x = a
    · subst e
      simp only [if_true]
      by_cases h2 : y < n
      · rw [if_pos h2, if_pos (by omega)]
      · rw [if_neg h2, if_neg (by omega), if_neg (by omega)]
    · rw [if_neg e]
      by_cases h2 : x < a ∧ y < n
      · rw [if_pos h2, if_pos (by omega)]
      · rw [if_neg h2, if_neg (by omega)]
def jrB (n : Nat) (r s : Rel) (k : Nat) : Rel := fun x y => if x < n ∧ y < n then r x y else if n ≤ x ∧ x < n + k ∧ n ≤ y then s (x - n) (y - n) else false
theorem jB_ev (n m : Nat) (r s : Rel) : ∀ (d a : Nat), a + d = m → jB n (mat m s) d a (mat (n + m) (jrB n r s a)) = some (mat (n + m) (jrB n r s m))
  | 0, a, h => by
    obtain rfl : a = m := by omega
    rfl
  | d + 1, a, h => by
    have hlen : (rd_L4 (mat (n + m) (jrB n r s a)) ((n + a : Nat) : Int)).length = n + m := by rw [mat_row _ _ _ (by omega)]; simp
    have hcp : (rd_L4 (mat (n + m) (jrB n r s a)) ((n + a : Nat) : Int)).take n ++ cpyB ((rd_L4 (mat (n + m) (jrB n r s a)) ((n + a : Nat) : Int)).drop n) (rd_L4 (mat m s) (a : Int)) = (List.range (n + m)).map fun y => if n ≤ y then s a (y - n) else jrB n r s a (n + a) y := by
      rw [mat_row _ _ _ (by omega), mat_row m s a (by omega)]
      unfold cpyB
      apply List.ext_getElem?
      intro i
      rw [map_range_get]
      have hm : min ((List.range m).map fun b => s a b).length (((List.range (n + m)).map fun b => jrB n r s a (n + a) b).drop n).length = m := by simp
      rw [hm]
      have hl1 : (List.take n ((List.range (n + m)).map fun b => jrB n r s a (n + a) b)).length = n := by simp
      have hl2 : (List.take m ((List.range m).map fun b => s a b)).length = m := by simp
      by_cases hi : i < n
      · rw [List.getElem?_append_left (by omega), List.getElem?_take, if_pos hi, map_range_get, if_pos (by omega), if_pos (by omega), if_neg (by omega)]
      · rw [List.getElem?_append_right (by omega), hl1]
        by_cases h3 : i < n + m
        · rw [List.getElem?_append_left (by omega), List.getElem?_take, if_pos (by omega), map_range_get, if_pos (by omega), if_pos h3, if_pos (by omega)]
        · rw [List.getElem?_eq_none (by simp; omega), if_neg h3]
    rw [jB, mat_len, hlen, if_pos ⟨by omega, by omega⟩, hcp, mat_row_set]
    have ih := jB_ev n m r s d (a + 1) (by omega)
    rw [← ih]
    congr 1
    refine mat_congr _ _ _ fun x y hx hy => ?_
    unfold jrB
    by_cases e : x = n + a
    · subst e
      simp only [if_true]
      by_cases h2 : n ≤ y
      · rw [if_pos h2, if_neg (by omega), if_pos (by omega), show n + a - n = a by omega]
      · rw [if_neg h2, if_neg (by omega), if_neg (by omega), if_neg (by omega), if_neg (by omega)]
    · rw [if_neg e]
      by_cases h2 : x < n ∧ y < n
      · rw [if_pos h2, if_pos h2]
      · rw [if_neg h2, if_neg h2]
        by_cases h3 : n ≤ x ∧ x < n + a ∧ n ≤ y
        · rw [if_pos h3, if_pos (by omega)]
        · rw [if_neg h3, if_neg (by omega)]
def jrC (n m : Nat) (r s : Rel) (fr : Bool) (a b : Nat) : Rel := fun x y => if x < n ∧ n ≤ y ∧ (x < a ∨ (x = a ∧ y < b)) then fr else if y < n ∧ n ≤ x ∧ (y < a ∨ (y = a ∧ x < b)) then fr else jrB n r s m x y
theorem mat_set (m : Nat) (r : Rel) (a b : Nat) (v : Bool) (ha : a < m) : (mat m r).set a ((rd_L4 (mat m r) (a : Int)).set b v) = mat m (upd r a b v) := by
  rw [mat_row m r a ha, map_range_set]
  show ((List.range m).map fun a => (List.range m).map fun b => r a b).set a _ = _
  rw [map_range_set]
  refine map_range_congr m _ _ fun i hi => ?_
  by_cases e : i = a
  · subst e
    rw [if_pos rfl]
    refine map_range_congr m _ _ fun j hj => ?_
    simp [upd]
  · rw [if_neg e]
    refine map_range_congr m _ _ fun j hj => ?_
    simp [upd, e]
theorem jD_ev (n m : Nat) (r s : Rel) (fr : Bool) (a : Nat) (ha : a < n) : ∀ (d b : Nat), b + d = n + m → n ≤ b → jD fr a d b (mat (n + m) (jrC n m r s fr a b)) = some (mat (n + m) (jrC n m r s fr a (n + m)))
  | 0, b, h, hb => by
    obtain rfl : b = n + m := by omega
    rfl
  | d + 1, b, h, hb => by
    have hl1 : ∀ (R : Rel) (x : Nat), x < n + m → (rd_L4 (mat (n + m) R) (x : Int)).length = n + m := fun R x hx => by rw [mat_row _ _ _ hx]; simp
    rw [jD, mat_len, hl1 _ a (by omega), if_pos ⟨by omega, by omega⟩, mat_set _ _ a b fr (by omega), mat_len, hl1 _ b (by omega), if_pos ⟨by omega, by omega⟩, mat_set _ _ b a fr (by omega)]
    have ih := jD_ev n m r s fr a ha d (b + 1) (by omega) (by omega)
    rw [← ih]
    congr 1
    refine mat_congr _ _ _ fun x y hx hy => ?_
    unfold upd jrC
    by_cases e1 : x = b ∧ y = a
    · obtain ⟨rfl, rfl⟩ := e1
      rw [if_pos ⟨rfl, rfl⟩, if_neg (by omega), if_pos (by omega)]
    · rw [if_neg e1]
      by_cases e2 : x = a ∧ y = b
      · obtain ⟨rfl, rfl⟩ := e2
        rw [if_pos ⟨rfl, rfl⟩, if_pos (by omega)]
      · rw [if_neg e2]
        by_cases h1 : x < n ∧ n ≤ y ∧ (x < a ∨ (x = a ∧ y < b))
        · rw [if_pos h1, if_pos (by omega)]
        · rw [if_neg h1, if_neg (show ¬ (x < n ∧ n ≤ y ∧ (x < a ∨ (x = a ∧ y < b + 1))) by omega)]
          by_cases h2 : y < n ∧ n ≤ x ∧ (y < a ∨ (y = a ∧ x < b))
          · rw [if_pos h2, if_pos (by omega)]
          · rw [if_neg h2, if_neg (by omega)]
theorem jC_ev (n m : Nat) (r s : Rel) (fr : Bool) : ∀ (d a : Nat), a + d = n → jC fr n d a (mat (n + m) (jrC n m r s fr a n)) = some (mat (n + m) (jrC n m r s fr n n))
  | 0, a, h => by
    obtain rfl : a = n := by omega
    rfl
  | d + 1, a, h => by
    have h1 := jD_ev n m r s fr a (by omega) m n rfl (Nat.le_refl _)
    rw [jC, mat_len, show n + m - n = m by omega, h1, Option.bind_some, ← jC_ev n m r s fr d (a + 1) (by omega)]
    congr 1
    refine mat_congr _ _ _ fun x y hx hy => ?_
    unfold jrC
    by_cases h1 : x < n ∧ n ≤ y ∧ (x < a ∨ (x = a ∧ y < n + m))
    · rw [if_pos h1, if_pos (by omega)]
    · rw [if_neg h1, if_neg (show ¬ (x < n ∧ n ≤ y ∧ (x < a + 1 ∨ (x = a + 1 ∧ y < n))) by omega)]
      by_cases h2 : y < n ∧ n ≤ x ∧ (y < a ∨ (y = a ∧ x < n + m))
      · rw [if_pos h2, if_pos (by omega)]
      · rw [if_neg h2, if_neg (by omega)]
theorem jrC_join (n m : Nat) (r s : Rel) (fr : Bool) : pairsOf (n + m) (jrC n m r s fr n n) = pairsOf (n + m) (joinR n r s fr) := pairsOf_congr _ _ _ fun x y hxy hy => by
  unfold jrC joinR jrB
  by_cases h1 : x < n
  · rw [if_pos h1]
    by_cases h2 : y < n
    · rw [if_neg (by omega), if_neg (by omega), if_pos ⟨h1, h2⟩, if_pos h2]
    · rw [if_pos (by omega), if_neg h2]
  · rw [if_neg h1, if_neg (fun h => h1 h.1), if_neg (show ¬ (y < n ∧ n ≤ x ∧ (y < n ∨ y = n ∧ x < n)) by omega), if_neg (fun h => h1 h.1), if_pos (show n ≤ x ∧ x < n + m ∧ n ≤ y by omega), if_neg (show ¬ y < n by omega)]
/-! the number of pairs -/
def below (m : Nat) : Nat → Nat
  | 0 => 0
  | a + 1 => below m a + (m - 1 - a)
theorem below_all (m : Nat) (h : m ≤ 12) : Int.tdiv ((m : Int) * ((m : Int) - 1)) 2 = (below m m : Int) := by
  have : m = 0 ∨ m = 1 ∨ m = 2 ∨ m = 3 ∨ m = 4 ∨ m = 5 ∨ m = 6 ∨ m = 7 ∨ m = 8 ∨ m = 9 ∨ m = 10 ∨ m = 11 ∨ m = 12 := by omega
  rcases this with rfl | rfl | rfl | rfl | rfl | rfl | rfl | rfl | rfl | rfl | rfl | rfl | rfl <;> rfl
/-- where a pair stands among all pairs of m people -/
def rank (m : Nat) (x : S80) : Nat := below m x.f0.toNat + (x.f1.toNat - x.f0.toNat - 1)
theorem below_mono (m a : Nat) : ∀ d, below m a ≤ below m (a + d)
  | 0 => Nat.le_refl _
  | d + 1 => Nat.le_trans (below_mono m a d) (by show below m (a + d) ≤ below m (a + d) + _; omega)
theorem rank_lt (m : Nat) (p x : S80) (h : lt2 p x = true) (p0 : 0 ≤ p.f0) (p1 : p.f0 < p.f1) (p2 : p.f1 < m) (x0 : 0 ≤ x.f0) (x1 : x.f0 < x.f1) : rank m p < rank m x := by
  unfold lt2 at h
  unfold rank
  simp at h
  rcases h with h | ⟨h, h2⟩
  · have h1 := below_mono m (p.f0.toNat + 1) (x.f0.toNat - (p.f0.toNat + 1))
    rw [show p.f0.toNat + 1 + (x.f0.toNat - (p.f0.toNat + 1)) = x.f0.toNat by omega] at h1
    have h3 : below m (p.f0.toNat + 1) = below m p.f0.toNat + (m - 1 - p.f0.toNat) := rfl
    omega
  · rw [h]; omega
theorem rank_top (m : Nat) (x : S80) (x0 : 0 ≤ x.f0) (x1 : x.f0 < x.f1) (x2 : x.f1 < m) : rank m x < below m m := by
  unfold rank
  have h1 := below_mono m (x.f0.toNat + 1) (m - (x.f0.toNat + 1))
  rw [show x.f0.toNat + 1 + (m - (x.f0.toNat + 1)) = m by omega] at h1
  have h3 : below m (x.f0.toNat + 1) = below m x.f0.toNat + (m - 1 - x.f0.toNat) := rfl
  omega
theorem okFrom_len (m : Nat) : ∀ (l : List S80) (p : S80), 0 ≤ p.f0 → p.f0 < p.f1 → p.f1 < m → okFrom m (some p) l = true → rank m p + l.length < below m m
  | [], p, p0, p1, p2, _ => rank_top m p p0 p1 p2
  | x :: xs, p, p0, p1, p2, h => by
    simp [okFrom, okPrev] at h
    obtain ⟨⟨x0, x1, x2, hlt⟩, h⟩ := h
    have ih := okFrom_len m xs x x0 x1 x2 h
    have := rank_lt m p x hlt p0 p1 p2 x0 x1
    simp only [List.length_cons]
    omega
theorem good_len (m : Nat) (l : List S80) (h : okFrom m none l = true) : l.length ≤ below m m := by
  cases l with
  | nil => simp
  | cons x xs =>
    simp [okFrom, okPrev] at h
    obtain ⟨⟨x0, x1, x2⟩, h⟩ := h
    have := okFrom_len m xs x x0 x1 x2 h
    simp only [List.length_cons]
    omega
theorem l1In_f (a lo hi : Int) : spec_l1In.f a lo hi = some (decide (lo ≤ a) && decide (a ≤ hi)) := by
  unfold spec_l1In.f
  by_cases h : lo ≤ a
  · rw [if_pos h]; simp [h]
  · rw [if_neg h]; simp [h]
theorem paLess_f (p x : S80) : spec_paLess.f p.f0 p.f1 x.f0 x.f1 = some (lt2 p x) := by
  unfold spec_paLess.f lt2
  by_cases h : p.f0 < x.f0
  · simp [h]
  · by_cases h2 : p.f0 = x.f0
    · simp [h2]
    · simp [h, h2]
theorem paGood_l0 (m : Nat) (hm : m ≤ 12) (l : List S80) (hl : l.length < 4611686018427387904) : ∀ (rest pre : List S80), l = pre ++ rest → Ev (fun k => spec_paGood.l0 k l (l.length : Int) (pre.length : Int) (m : Int) l) (okFrom m pre.getLast? rest)
  | [], pre, h => by
    refine Ev.one (fun k => ?_)
    have e : l.length = pre.length := by rw [h]; simp
    rw [spec_paGood.l0, if_neg (by omega)]
    simp [okFrom]
  | x :: rest, pre, h => by
    have hlen : pre.length < l.length := by rw [h]; simp
    have hx : rd_T80 l (pre.length : Int) = x := by rw [h]; exact rdT_mid pre rest x
    have ih := paGood_l0 m hm l hl rest (pre ++ [x]) (by rw [h]; simp)
    rw [List.getLast?_concat, List.length_append, List.length_singleton] at ih
    have em : wrap64 ((m : Int) - 1) = (m : Int) - 1 := w64 (by omega) (by omega)
    by_cases c1 : 0 ≤ x.f0 ∧ x.f0 ≤ (m : Int) - 1
    · have e1 : wrap64 (x.f0 + 1) = x.f0 + 1 := w64 (by omega) (by omega)
      have b1 : (decide (0 ≤ x.f0) && decide (x.f0 ≤ (m : Int) - 1)) = true := by simp; exact c1
      by_cases c2 : x.f0 + 1 ≤ x.f1 ∧ x.f1 ≤ (m : Int) - 1
      · have b2 : (decide (x.f0 + 1 ≤ x.f1) && decide (x.f1 ≤ (m : Int) - 1)) = true := by simp; exact c2
        have d1 : decide (0 ≤ x.f0) = true := by simp; omega
        have d2 : decide (x.f0 < x.f1) = true := by simp; omega
        have d3 : decide (x.f1 < (m : Int)) = true := by simp; omega
        rcases List.eq_nil_or_concat pre with rfl | ⟨q, p, rfl⟩
        · refine Ev.cast (Ev.step (fun k => ?_) ih) ?_
          · rw [spec_paGood.l0, if_pos (by omega), if_pos (by omega), if_pos (by omega), hx, em, e1, l1In_f, l1In_f, b1, b2]
            simp only [Option.bind_some, if_true]
            rw [if_neg (by simp), w1 (by simp)]
          · simp [okFrom, d1, d2, d3, okPrev]
        · rw [List.concat_eq_append] at hlen hx ih h ⊢
          have hp : rd_T80 l (q.length : Int) = p := by rw [h, List.append_assoc]; exact rdT_mid q (x :: rest) p
          have hq : (q ++ [p]).length = q.length + 1 := by simp
          rw [hq] at hlen hx ih ⊢
          rw [List.getLast?_concat]
          cases hlt : lt2 p x with
          | true =>
            refine Ev.cast (Ev.step (fun k => ?_) ih) ?_
            · rw [spec_paGood.l0, if_pos (by omega), if_pos (by omega), if_pos (by omega), hx, em, e1, l1In_f, l1In_f, b1, b2]
              simp only [Option.bind_some, if_true]
              rw [if_pos (by omega), w64 (i := ((q.length + 1 : Nat) : Int) - 1) (by omega) (by omega), show ((q.length + 1 : Nat) : Int) - 1 = (q.length : Int) by omega, if_pos (by omega), if_pos (by omega), hp, paLess_f, hlt, w1 (by omega)]
              rfl
            · simp [okFrom, d1, d2, d3, okPrev, hlt]
          | false =>
            refine Ev.one (fun k => ?_)
            rw [spec_paGood.l0, if_pos (by omega), if_pos (by omega), if_pos (by omega), hx, em, e1, l1In_f, l1In_f, b1, b2]
            simp only [Option.bind_some, if_true]
            rw [if_pos (by omega), w64 (i := ((q.length + 1 : Nat) : Int) - 1) (by omega) (by omega), show ((q.length + 1 : Nat) : Int) - 1 = (q.length : Int) by omega, if_pos (by omega), if_pos (by omega), hp, paLess_f, hlt]
            simp [okFrom, okPrev, hlt]
      · refine Ev.one (fun k => ?_)
        have b2 : (decide (x.f0 + 1 ≤ x.f1) && decide (x.f1 ≤ (m : Int) - 1)) = false := by simp; omega
        rw [spec_paGood.l0, if_pos (by omega), if_pos (by omega), if_pos (by omega), hx, em, e1, l1In_f, l1In_f, b1, b2]
        have : (decide (x.f0 < x.f1) && decide (x.f1 < (m : Int))) = false := by simp; omega
        simp only [okFrom, ← Bool.and_assoc (decide (x.f0 < x.f1)), this]
        simp
    · refine Ev.one (fun k => ?_)
      have b1 : (decide (0 ≤ x.f0) && decide (x.f0 ≤ (m : Int) - 1)) = false := by simp; omega
      rw [spec_paGood.l0, if_pos (by omega), if_pos (by omega), if_pos (by omega), hx, em, l1In_f, b1]
      have : (decide (0 ≤ x.f0) && (decide (x.f0 < x.f1) && (decide (x.f1 < (m : Int)) && okPrev pre.getLast? x))) = false := by
        by_cases z0 : 0 ≤ x.f0
        · by_cases z1 : x.f0 < x.f1
          · have : ¬ x.f1 < (m : Int) := by omega
            simp [this]
          · simp [z1]
        · simp [z0]
      simp [okFrom, this]
theorem paPeople_f (a : Int) : spec_paPeople.f a = some (decide (0 ≤ a ∧ a ≤ 12)) := by
  unfold spec_paPeople.f
  rw [l1In_f]; simp [Bool.decide_and]
theorem paGood_ev (n : Int) (l : List S80) (hl : l.length < 4611686018427387904) : Ev (fun k => spec_paGood.f k n l) (good n l) := by
  unfold spec_paGood.f
  rw [paPeople_f]
  by_cases h : 0 ≤ n ∧ n ≤ 12
  · obtain ⟨m, rfl⟩ := Int.eq_ofNat_of_zero_le h.1
    have hm : m ≤ 12 := by omega
    have hc : crowd (m : Int) = true := by unfold crowd; simp; omega
    have hmul : (m : Int) * ((m : Int) - 1) ≤ 144 := by
      have : m = 0 ∨ m = 1 ∨ m = 2 ∨ m = 3 ∨ m = 4 ∨ m = 5 ∨ m = 6 ∨ m = 7 ∨ m = 8 ∨ m = 9 ∨ m = 10 ∨ m = 11 ∨ m = 12 := by omega
      rcases this with rfl | rfl | rfl | rfl | rfl | rfl | rfl | rfl | rfl | rfl | rfl | rfl | rfl <;> decide
    have hmul0 : 0 ≤ (m : Int) * ((m : Int) - 1) := by
      have : m = 0 ∨ m = 1 ∨ m = 2 ∨ m = 3 ∨ m = 4 ∨ m = 5 ∨ m = 6 ∨ m = 7 ∨ m = 8 ∨ m = 9 ∨ m = 10 ∨ m = 11 ∨ m = 12 := by omega
      rcases this with rfl | rfl | rfl | rfl | rfl | rfl | rfl | rfl | rfl | rfl | rfl | rfl | rfl <;> decide
    have hb : (below m m : Int) ≤ 144 := by
      have : m = 0 ∨ m = 1 ∨ m = 2 ∨ m = 3 ∨ m = 4 ∨ m = 5 ∨ m = 6 ∨ m = 7 ∨ m = 8 ∨ m = 9 ∨ m = 10 ∨ m = 11 ∨ m = 12 := by omega
      rcases this with rfl | rfl | rfl | rfl | rfl | rfl | rfl | rfl | rfl | rfl | rfl | rfl | rfl <;> decide
    have e : wrap64 (Int.tdiv (wrap64 ((m : Int) * (wrap64 ((m : Int) - 1)))) 2) = (below m m : Int) := by
      rw [w64 (i := (m : Int) - 1) (by omega) (by omega), w64 (i := (m : Int) * ((m : Int) - 1)) (by omega) (by omega), below_all m hm, w64 (by omega) (by omega)]
    simp only [h, decide_true, Option.bind_some, if_true, e, and_self]
    unfold good
    rw [hc, Bool.true_and]
    by_cases hlen : l.length ≤ below m m
    · refine Ev.step (fun k => ?_) (paGood_l0 m hm l hl l [] rfl)
      have : decide ((l.length : Int) > (below m m : Int)) = false := by simp; omega
      rw [this, spec_paGood.j0, if_neg (by decide)]
      rfl
    · refine Ev.one (fun k => ?_)
      have : decide ((l.length : Int) > (below m m : Int)) = true := by simp; omega
      rw [this, spec_paGood.j0, if_pos rfl]
      have hn : okFrom (m : Int) none l = false := by
        cases hok : okFrom (m : Int) none l with
        | false => rfl
        | true => exact absurd (good_len m l hok) hlen
      rw [hn]
  · have hc : crowd n = false := by unfold crowd; simp; omega
    simp only [h, decide_false, Option.bind_some]
    unfold good
    rw [hc]
    refine Ev.one (fun k => ?_)
    rw [if_neg (by decide), spec_paGood.j0]; simp

theorem mat_at (m : Nat) (r : Rel) (a b : Nat) (h : a < m) (h2 : b < m) : rdOf false (rd_L4 (mat m r) (a : Int)) (b : Int) = r a b := by
  rw [mat_row m r a h]; exact map_range_getD m _ _ b h2
theorem paOf_l1 (m : Nat) (hm : m ≤ 12) (r : Rel) (a : Nat) (ha : a < m) (n : Int) (R : Int × List S80) : ∀ (d b : Nat) (acc : List S80), b + d = m → acc.length ≤ 12 * a + b → Ev (fun k => spec_paOf.l0 k (mat m r) (m : Int) ((a + 1 : Nat) : Int) n (acc ++ rowFrom r a b d)) R → Ev (fun k => spec_paOf.l1 k (mat m r) (a : Int) (b : Int) (m : Int) (a : Int) n acc) R
  | 0, b, acc, hd, hacc, h => by
    refine Ev.step (fun k => ?_) h
    rw [spec_paOf.l1, mat_len, if_neg (by omega), w1 (by omega), rowFrom, List.append_nil]
  | d + 1, b, acc, hd, hacc, h => by
    have hb : b < m := by omega
    rw [rowFrom, ← List.append_assoc] at h
    have hrow : (rd_L4 (mat m r) (a : Int)).length = m := by rw [mat_row m r a ha]; simp
    cases hr : r a b with
    | true =>
      rw [hr, if_pos rfl] at h
      have ih := paOf_l1 m hm r a ha n R d (b + 1) (acc ++ [⟨(a : Int), (b : Int)⟩]) (by omega) (by simp; omega) h
      refine Ev.step (fun k => ?_) ih
      rw [spec_paOf.l1, mat_len, if_pos (by omega), if_pos (by omega), if_pos (by omega), if_pos (by omega), hrow, if_pos (by omega), mat_at m r a b ha hb, hr, if_pos rfl, if_pos (by omega), w1 (by omega)]
    | false =>
      rw [hr, if_neg (by decide), List.append_nil] at h
      have ih := paOf_l1 m hm r a ha n R d (b + 1) acc (by omega) (by omega) h
      refine Ev.step (fun k => ?_) ih
      rw [spec_paOf.l1, mat_len, if_pos (by omega), if_pos (by omega), if_pos (by omega), if_pos (by omega), hrow, if_pos (by omega), mat_at m r a b ha hb, hr, if_neg (by decide), w1 (by omega)]
theorem paOf_l0 (m : Nat) (hm : m ≤ 12) (r : Rel) (n : Int) : ∀ (d a : Nat) (acc : List S80), a + d = m → acc.length ≤ 12 * a → Ev (fun k => spec_paOf.l0 k (mat m r) (m : Int) (a : Int) n acc) (n, acc ++ pairsFrom r m a d)
  | 0, a, acc, hd, hacc => by
    refine Ev.one (fun k => ?_)
    rw [spec_paOf.l0, if_neg (by omega), pairsFrom, List.append_nil]
  | d + 1, a, acc, hd, hacc => by
    have hl := rowFrom_len r a (m - (a + 1)) (a + 1)
    have ih := paOf_l0 m hm r n d (a + 1) (acc ++ rowFrom r a (a + 1) (m - (a + 1))) (by omega) (by rw [List.length_append]; omega)
    rw [List.append_assoc, ← pairsFrom] at ih
    have h := paOf_l1 m hm r a (by omega) n _ (m - (a + 1)) (a + 1) acc (by omega) (by omega) ih
    refine Ev.step (fun k => ?_) h
    rw [spec_paOf.l0, if_pos (by omega), w1 (by omega)]
theorem paOf_ev (m : Nat) (hm : m ≤ 12) (r : Rel) : Ev (fun k => spec_paOf.f k (mat m r)) ((m : Int), pairsOf m r) := by
  unfold spec_paOf.f
  rw [mat_len]
  exact paOf_l0 m hm r m m 0 [] (by omega) (by simp)
theorem mat_false (m : Nat) : mat m (fun _ _ => false) = List.replicate m (List.replicate m false) := by
  unfold mat; rw [map_range_const, map_range_const]
theorem paTable_l1 (m : Nat) (l : List S80) (hl : l.length < 4611686018427387904) (hn : natPairs m l) : ∀ (rest pre : List S80), l = pre ++ rest → Ev (fun k => spec_paTable.l1 k (mat m (hasP pre)) l (l.length : Int) (pre.length : Int)) (mat m (hasP l))
  | [], pre, h => by
    refine Ev.one (fun k => ?_)
    have e : l = pre := by rw [h]; simp
    rw [spec_paTable.l1, if_neg (by rw [e]; omega), e]
  | x :: rest, pre, h => by
    have hlen : pre.length < l.length := by rw [h]; simp
    obtain ⟨a, b, rfl, hab, hb⟩ := hn x (by rw [h]; simp)
    have hx : rd_T80 l (pre.length : Int) = ⟨(a : Int), (b : Int)⟩ := by rw [h]; exact rdT_mid pre rest _
    have ih := paTable_l1 m l hl hn rest (pre ++ [⟨(a : Int), (b : Int)⟩]) (by rw [h]; simp)
    rw [List.length_append, List.length_singleton, ← upd2_hasP] at ih
    refine Ev.step (fun k => ?_) ih
    have hrow : (rd_L4 (mat m (hasP pre)) (a : Int)).length = m := by rw [mat_row _ _ _ (by omega)]; simp
    have hrow2 : (rd_L4 (mat m (upd (hasP pre) a b true)) (b : Int)).length = m := by rw [mat_row _ _ _ (by omega)]; simp
    rw [spec_paTable.l1, if_pos (by omega), if_pos (by omega), if_pos (by omega), hx]
    dsimp only
    rw [mat_len, hrow, if_pos (by omega), if_pos (by omega), if_pos (by omega), if_pos (by omega), Int.toNat_natCast, Int.toNat_natCast, mat_set _ _ _ _ _ (by omega)]
    simp only [Option.bind_some]
    rw [if_pos (by omega), hrow2, if_pos (by omega), mat_set _ _ _ _ _ (by omega), w1 (by omega)]
theorem paTable_l0 (m : Nat) (hm : m ≤ 12) (l : List S80) (hl : l.length < 4611686018427387904) (hn : natPairs m l) : ∀ (d i : Nat), i + d = m → Ev (fun k => spec_paTable.l0 k (List.replicate i (List.replicate m false)) (i : Int) (m : Int) l) (mat m (hasP l))
  | 0, i, hd => by
    refine Ev.step (fun k => ?_) (paTable_l1 m l hl hn l [] rfl)
    obtain rfl : i = m := by omega
    rw [spec_paTable.l0, if_neg (by omega), hasP_nil, mat_false]
    rfl
  | d + 1, i, hd => by
    refine Ev.step (fun k => ?_) (paTable_l0 m hm l hl hn d (i + 1) (by omega))
    rw [spec_paTable.l0, if_pos (by omega), if_pos (by omega), if_pos (by omega), if_pos (by simp; omega), w1 (by omega), Int.toNat_natCast, List.replicate_succ']
theorem paTable_ev (m : Nat) (hm : m ≤ 12) (l : List S80) (hl : l.length < 4611686018427387904) (hn : natPairs m l) : Ev (fun k => spec_paTable.f k (m : Int) l) (mat m (hasP l)) := by
  unfold spec_paTable.f
  exact paTable_l0 m hm l hl hn m 0 (by omega)
theorem paJoin_ev (n m : Int) (l1 l2 : List S80) (fr : Bool) (hl1 : l1.length ≤ 1048576) (hl2 : l2.length ≤ 1048576) : Ev (fun k => spec_paJoin.f k n l1 m l2 fr) (joinRes n m l1 l2 fr) := by
  unfold spec_paJoin.f joinRes
  refine Ev.bind (paGood_ev n l1 (by omega)) ?_
  cases h1 : good n l1 with
  | false => simp only [Bool.false_eq_true, if_false, Bool.false_and]; exact Ev.now _
  | true =>
    simp only [if_true, Bool.true_and]
    refine Ev.bind (paGood_ev m l2 (by omega)) ?_
    cases h2 : good m l2 with
    | false => simp only [Bool.false_eq_true, if_false, Bool.false_and]; exact Ev.now _
    | true =>
      obtain ⟨n, rfl, hn, hp1, _⟩ := good_nat h1
      obtain ⟨m, rfl, hm, hp2, _⟩ := good_nat h2
      simp only [if_true, Bool.true_and, if_pos (show (0 ≤ (n : Int) ∧ (n : Int) ≤ 1000) ∧ 0 ≤ (m : Int) ∧ (m : Int) ≤ 1000 by omega), paPeople_f, Option.bind_some]
      by_cases hN : n + m ≤ 12
      · simp only [decide_eq_true (show 0 ≤ (n : Int) + (m : Int) ∧ (n : Int) + (m : Int) ≤ 12 by omega), decide_eq_true (show (n : Int) + (m : Int) ≤ 12 by omega), if_true, Int.toNat_natCast]
        rw [show (n : Int) + (m : Int) = ((n + m : Nat) : Int) by omega]
        refine Ev.bind (paTable_ev (n + m) hN [] (by simp) (fun x hx => by cases hx)) ?_
        refine Ev.bind (paTable_ev n hn l1 (by omega) hp1) ?_
        have eA : mat (n + m) (hasP []) = mat (n + m) (jrA n (hasP l1) 0) := mat_congr _ _ _ fun x y hx hy => by
          rw [hasP_nil]; unfold jrA; rw [if_neg (by omega)]
        have eB : mat (n + m) (jrA n (hasP l1) n) = mat (n + m) (jrB n (hasP l1) (hasP l2) 0) := mat_congr _ _ _ fun x y hx hy => by
          unfold jrA jrB
          by_cases h : x < n ∧ y < n
          · rw [if_pos h, if_pos h]
          · rw [if_neg h, if_neg h, if_neg (by omega)]
        have eC : mat (n + m) (jrB n (hasP l1) (hasP l2) m) = mat (n + m) (jrC n m (hasP l1) (hasP l2) fr 0 n) := mat_congr _ _ _ fun x y hx hy => by
          unfold jrC
          rw [if_neg (by omega), if_neg (by omega)]
        simp only [mat_len]
        rw [eA, jA_ev n (n + m) (by omega) (hasP l1) n 0 (by omega), eB]
        simp only [Option.bind_some]
        refine Ev.bind (paTable_ev m hm l2 (by omega) hp2) ?_
        simp only [mat_len]
        simp only [jB_ev n m (hasP l1) (hasP l2) m 0 (Nat.zero_add m), eC, jC_ev n m (hasP l1) (hasP l2) fr n 0 (Nat.zero_add n), Option.bind_some]
        simp only [if_pos (show (n ≤ 1000 ∧ m ≤ 1000) ∧ n + m ≤ 1000 by omega)]
        refine Ev.bind (paOf_ev (n + m) hN _) ?_
        rw [jrC_join]
        exact Ev.now _
      · simp only [decide_eq_false (show ¬ (0 ≤ (n : Int) + (m : Int) ∧ (n : Int) + (m : Int) ≤ 12) by omega), decide_eq_false (show ¬ (n : Int) + (m : Int) ≤ 12 by omega), Bool.false_eq_true, if_false]
        exact Ev.now _
theorem TogetherParty_common (n m : Int) (l1 l2 : List S80) (hl1 : l1.length ≤ 1048576) (hl2 : l2.length ≤ 1048576) : ∃ R : Int × List S80 × Bool, Ev (fun k => spec_TogetherParty.f k n l1 m l2) R ∧ Ev (fun k => impl_TogetherParty.f k n l1 m l2) R ∧ R.2.1.length ≤ 1048576 := by
  refine ⟨joinRes n m l1 l2 true, ?_, ?_, joinRes_len n m l1 l2 true⟩
  · unfold spec_TogetherParty.f; exact Ev.bind (paJoin_ev n m l1 l2 true hl1 hl2) (Ev.now _)
  · unfold impl_TogetherParty.f; exact Ev.bind (joined_ev n m l1 l2 true hl1 hl2) (Ev.now _)

def conv (l : List S94) : List S80 := l.map fun x => ⟨x.f0, x.f1⟩
theorem conv_len (l : List S94) : (conv l).length = l.length := by simp [conv]
theorem eqPairS_l0 (l : List S80) (hl : l.length < 4611686018427387904) : ∀ (d i : Nat), i + d = l.length → Ev (fun k => laws_eqPairS.l0 k l l i) true
  | 0, i, hd => by
    refine Ev.one (fun k => ?_)
    rw [laws_eqPairS.l0, if_neg (by omega)]
  | d + 1, i, hd => by
    refine Ev.step (fun k => ?_) (eqPairS_l0 l hl d (i + 1) (by omega))
    rw [laws_eqPairS.l0, if_pos (by omega), if_pos (by omega), if_pos (by omega), laws_eqPair.f, if_pos rfl, if_pos rfl, w1 (by omega)]
    rfl
theorem eqParty_self (a : Int) (l : List S80) (hl : l.length < 4611686018427387904) : Ev (fun k => laws_eqParty.f k a l a l) true := by
  unfold laws_eqParty.f laws_eqPairS.f
  simp only [if_true]
  have h : Ev (fun k => laws_eqPairS.l0 k l l 0) true := by simpa using eqPairS_l0 l hl l.length 0 (by omega)
  refine Ev.bind h ?_
  simp only [if_true]
  exact Ev.now _

/-- The pairs bear the marks m, m+1, .. -/
def MarkedP (m : Int) (z : List S80) : Prop := ∀ j, j < z.length → z[j]? = some ⟨m + 2 * j, m + 2 * j + 1⟩
theorem getD_of_get {α : Type} (l : List α) (i : Nat) (d x : α) (h : l[i]? = some x) : l.getD i d = x := by rw [List.getD_eq_getElem?_getD, h]; rfl
theorem heldPairS_l0 (m : Int) (z : List S80) (h0 : 0 ≤ m) (hm : m + 2 * z.length < 4611686018427387904) (hz : MarkedP m z) : ∀ (d i : Nat), i + d = z.length → Ev (fun k => laws_heldPairS.l0 k z (m + 2 * i) i) (m + 2 * z.length)
  | 0, i, hd => by
    refine Ev.one (fun k => ?_)
    rw [laws_heldPairS.l0, if_neg (by omega), show i = z.length by omega]
  | d + 1, i, hd => by
    have hx : rd_T80 z (i : Int) = ⟨m + 2 * i, m + 2 * i + 1⟩ := getD_of_get z i _ _ (hz i (by omega))
    refine Ev.step (fun k => ?_) (heldPairS_l0 m z h0 hm hz d (i + 1) (by omega))
    rw [laws_heldPairS.l0, if_pos (by omega), if_pos (by omega), hx, if_pos rfl, w64 (i := m + 2 * (i : Int) + 1) (by omega) (by omega), if_pos rfl, w1 (by omega), w64 (by omega) (by omega), show m + 2 * (i : Int) + 1 + 1 = m + 2 * ((i + 1 : Nat) : Int) by omega]
theorem heldParty_ev (a : Int) (z : List S80) (m : Int) (h0 : 0 ≤ m) (hm : m + 2 * z.length < 4611686018427387904) (hz : MarkedP m z) : Ev (fun k => laws_heldParty.f k a z m) (m + 2 * z.length) := by
  unfold laws_heldParty.f laws_heldPairS.f
  have hE : Ev (fun k => laws_heldPairS.l0 k z m 0) (m + 2 * z.length) := by simpa using heldPairS_l0 m z h0 hm hz z.length 0 (by omega)
  refine Ev.bind hE ?_
  simp only [if_neg (show ¬ (m + 2 * (z.length : Int) < 0) by omega)]
  exact Ev.now _

theorem rdT_set (y : List S80) (i : Nat) (v : S80) (h : i < y.length) : rd_T80 (y.set i v) (i : Int) = v := getD_of_get _ i _ _ (by rw [List.getElem?_set]; simp [h])
theorem markPairS_l0 (m : Int) (n : Nat) (h0 : 0 ≤ m) (hm : m + 2 * n < 4611686018427387904) : ∀ (d i : Nat) (y : List S80), i + d = n → y.length = n → (∀ j, j < i → y[j]? = some ⟨m + 2 * j, m + 2 * j + 1⟩) → ∃ z : List S80, z.length = n ∧ MarkedP m z ∧ Ev (fun k => laws_markPairS.l0 k y (m + 2 * i) i) (m + 2 * n, z)
  | 0, i, y, hd, hy, h => by
    refine ⟨y, hy, fun j hj => h j (by omega), Ev.one (fun k => ?_)⟩
    rw [laws_markPairS.l0, if_neg (by omega), show i = n by omega]
  | d + 1, i, y, hd, hy, h => by
    have hi : i < y.length := by omega
    obtain ⟨z, hz, hj, hE⟩ := markPairS_l0 m n h0 hm d (i + 1) (y.set i ⟨m + 2 * i, m + 2 * i + 1⟩) (by omega) (by simpa using hy) (fun j hj => by
      rw [List.getElem?_set]
      by_cases e : i = j
      · subst e; simp [hi]
      · rw [if_neg e]; exact h j (by omega))
    refine ⟨z, hz, hj, Ev.step (fun k => ?_) hE⟩
    rw [laws_markPairS.l0, if_pos (by omega), if_pos (by omega)]
    simp only [Option.bind_some, Int.toNat_natCast]
    rw [rdT_set _ _ _ (by omega), List.set_set, w1 (by omega), w64 (i := m + 2 * (i : Int) + 1) (by omega) (by omega), w64 (by omega) (by omega), show m + 2 * (i : Int) + 1 + 1 = m + 2 * ((i + 1 : Nat) : Int) by omega]
theorem markParty_ev (a : Int) (y : List S80) (m : Int) (h0 : 0 ≤ m) (hm : m + 2 * y.length < 4611686018427387904) : ∃ z : List S80, z.length = y.length ∧ MarkedP m z ∧ Ev (fun k => laws_markParty.f k a y m) (m + 2 * y.length, z) := by
  obtain ⟨z, hz, hj, hE⟩ := markPairS_l0 m y.length h0 hm y.length 0 y (by omega) rfl (fun j hj => absurd hj (Nat.not_lt_zero _))
  refine ⟨z, hz, hj, ?_⟩
  unfold laws_markParty.f laws_markPairS.f
  have hE' : Ev (fun k => laws_markPairS.l0 k y m 0) (m + 2 * y.length, z) := by simpa using hE
  exact Ev.bind hE' (Ev.now _)
theorem szParty_f (a0 : Int) (l : List S94) (a1 : Int) (h0 : 0 ≤ a1) (h1 : a1 ≤ 1048576) (hl : l.length ≤ maxLen) : laws_szParty.f a0 l a1 = some (if a1 - l.length < 0 then -1 else a1 - l.length) := by
  unfold maxLen at hl
  unfold laws_szParty.f laws_szPairS.f
  rw [w64 (by omega) (by omega)]
  by_cases h : a1 - l.length < 0
  · simp [h]
  · simp [h]
theorem toPairS_l0 (l : List S94) (hl : l.length < 4611686018427387904) : ∀ (d i : Nat) (y : List S80), i + d = l.length → y.length = l.length → (∀ j, j < i → y[j]? = (conv l)[j]?) → Ev (fun k => laws_toPairS.l0 k l y i) (conv l)
  | 0, i, y, hd, hy, h => by
    refine Ev.one (fun k => ?_)
    have e : y = conv l := by
      apply List.ext_getElem?
      intro j
      by_cases hj : j < i
      · exact h j hj
      · rw [List.getElem?_eq_none (by omega), List.getElem?_eq_none (by rw [conv_len]; omega)]
    rw [laws_toPairS.l0, if_neg (by omega), e]
  | d + 1, i, y, hd, hy, h => by
    have hi : i < l.length := by omega
    have hx : rd_T94 l (i : Int) = l[i] := getD_of_get l i _ _ (List.getElem?_eq_getElem hi)
    refine Ev.step (fun k => ?_) (toPairS_l0 l hl d (i + 1) (y.set i ⟨l[i].f0, l[i].f1⟩) (by omega) (by simpa using hy) ?_)
    · rw [laws_toPairS.l0, if_pos (by omega), if_pos (by omega), hx, laws_toPair.f]
      simp only [Option.bind_some]
      rw [if_pos (by omega), w1 (by omega)]
      rfl
    · intro j hj
      rw [List.getElem?_set]
      by_cases e : i = j
      · subst e
        have hiy : i < y.length := by omega
        simp [conv, hi, hiy]
      · rw [if_neg e]; exact h j (by omega)
theorem toPairS_ev (l : List S94) (hl : l.length ≤ 17592186044416) : Ev (fun k => laws_toPairS.f k l) (conv l) := by
  unfold laws_toPairS.f
  simp only [if_pos (show (0 : Int) ≤ (l.length : Int) by omega), if_pos (show ((l.length : Int) : Int).toNat ≤ 17592186044416 by simpa using hl)]
  exact toPairS_l0 l (by omega) l.length 0 _ (by omega) (by simp) (fun j hj => absurd hj (Nat.not_lt_zero _))
theorem toParty_ev (a : Int) (l : List S94) (hl : l.length ≤ 17592186044416) : Ev (fun k => laws_toParty.f k a l) (a, conv l) := by
  unfold laws_toParty.f
  exact Ev.bind (toPairS_ev l hl) (Ev.now _)
theorem FnExactTogetherParty : ∀ (a0 : Int) (l0 : List S94) (a1 : Int) (l1 : List S94), (Lit.int .i64 a0).wf = true → l0.length ≤ maxLen → (∀ x ∈ l0, ∃ m n : Int, x = ⟨m, n⟩ ∧ (Lit.int .i64 m).wf = true ∧ (Lit.int .i64 n).wf = true) → (Lit.int .i64 a1).wf = true → l1.length ≤ maxLen → (∀ x ∈ l1, ∃ m n : Int, x = ⟨m, n⟩ ∧ (Lit.int .i64 m).wf = true ∧ (Lit.int .i64 n).wf = true) → ∃ k, laws_FnExactTogetherParty.f k a0 l0 a1 l1 = some true := by
  intro a0 l0 a1 l1 w0 hm0 hw0 w1 hm1 hw1
  refine Ev.rounds ?_
  unfold laws_FnExactTogetherParty.f
  simp only [szParty_f a0 l0 1048576 (by omega) (by omega) hm0, Option.bind_some]
  by_cases hg0 : 1048576 - (l0.length : Int) < 0
  · simp only [if_pos hg0, show ((-1 : Int) < 0) from by decide, if_true]; exact Ev.now _
  simp only [if_neg hg0]
  simp only [szParty_f a1 l1 (1048576 - (l0.length : Int)) (by omega) (by omega) hm1, Option.bind_some]
  by_cases hg1 : 1048576 - (l0.length : Int) - (l1.length : Int) < 0
  · simp only [if_pos hg1, show ((-1 : Int) < 0) from by decide, if_true]; exact Ev.now _
  simp only [if_neg hg1]
  have hlen0 : l0.length ≤ 1048576 := by omega
  have hcl0 := conv_len l0
  have hlen1 : l1.length ≤ 1048576 := by omega
  have hcl1 := conv_len l1
  obtain ⟨R, hs, hi, hr0⟩ := TogetherParty_common a0 a1 (conv l0) (conv l1) (by rw [conv_len]; omega) (by rw [conv_len]; omega)
  obtain ⟨zk1, hzk1, _, hEk1⟩ := markParty_ev a0 (conv l0) (1 : Int) (by omega) (by omega)
  obtain ⟨zk2, hzk2, _, hEk2⟩ := markParty_ev a1 (conv l1) ((1 : Int) + 2 * ((conv l0).length : Int)) (by omega) (by omega)
  obtain ⟨zm, hzm, hmm, hEm⟩ := markParty_ev R.1 R.2.1 1 (by omega) (by omega)
  refine Ev.bind (toParty_ev a0 l0 (by omega)) ?_
  refine Ev.bind (toParty_ev a1 l1 (by omega)) ?_
  refine Ev.bind hs ?_
  refine Ev.bind hi ?_
  refine Ev.bind (eqParty_self R.1 R.2.1 (by omega)) ?_
  refine Ev.bind (eqParty_self a0 (conv l0) (by omega)) ?_
  refine Ev.bind (eqParty_self a1 (conv l1) (by omega)) ?_
  refine Ev.bind hEk1 ?_
  refine Ev.bind hEk2 ?_
  refine Ev.bind hEm ?_
  refine Ev.bind (heldParty_ev R.1 zm 1 (by omega) (by omega) hmm) ?_
  rw [if_pos ⟨⟨rfl, rfl, rfl, rfl⟩, by first | omega | (dsimp only; omega), by first | omega | (dsimp only; omega), by first | omega | (dsimp only; omega)⟩]
  exact Ev.now _
end Go.Proofs.Ytialimbdkokdcaa.Pure
