/- The program's ParseParty returns what the reference's returns, for all arguments (the plain statement behind the printed walk); no condition. -/
import Derived.Lib.FieldsP
import Derived.Laws.RangeString
import Derived.Lib.Join
import Derived.Lib.AtoiAll
import Derived.Lib.ItoaNum
import Derived.Test.YtoedkkoafidalaaDoorPx0
import Derived.Test.YtoedkkoafidalaaDoorPx1
import Derived.Test.YtoedkkoafidalaaDoorPx2
import Derived.Test.YtoedkkoafidalaaDoorPx3
import Derived.Test.YtoedkkoafidalaaDoorPx4
namespace Go.Proofs.YtoedkkoafidalaaDoor.Pure
open Go.RowKit Go.Proofs.YtoedkkoafidalaaDoor.P Go.Proofs.YtoedkkoafidalaaDoorW.PrintWords Go.Proofs.YtoedkkoafidalaaDoorW.PrintLast
set_option linter.unusedSimpArgs false
set_option linter.unusedVariables false
theorem Ev.one {α : Type} {g : Nat → Option α} {r : α} (h : ∀ k, g (k + 1) = some r) : Ev g r := Ev.step h (Ev.now r)
theorem w1 {n : Nat} (h : n < 4611686018427387904) : wrap64 ((n : Int) + 1) = ((n + 1 : Nat) : Int) := by unfold wrap64; omega
theorem eqPairS_l0 (l : List S50) (hl : l.length < 4611686018427387904) : ∀ (d i : Nat), i + d = l.length → Ev (fun k => laws_eqPairS.l0 k l l i) true
  | 0, i, hd => by
    refine Ev.one (fun k => ?_)
    rw [laws_eqPairS.l0, if_neg (by omega)]
  | d + 1, i, hd => by
    refine Ev.step (fun k => ?_) (eqPairS_l0 l hl d (i + 1) (by omega))
    rw [laws_eqPairS.l0, if_pos (by omega), if_pos (by omega), if_pos (by omega), laws_eqPair.f, if_pos rfl, if_pos rfl, w1 (by omega)]
    rfl
theorem eqParty_self (a : Int) (l : List S50) (hl : l.length < 4611686018427387904) : Ev (fun k => laws_eqParty.f k a l a l) true := by
  unfold laws_eqParty.f laws_eqPairS.f
  simp only [if_true]
  have h : Ev (fun k => laws_eqPairS.l0 k l l 0) true := by simpa using eqPairS_l0 l hl l.length 0 (by omega)
  refine Ev.bind h ?_
  simp only [if_true]
  exact Ev.now _

/-- The pairs bear the marks m, m+1, .. -/
def MarkedP (m : Int) (z : List S50) : Prop := ∀ j, j < z.length → z[j]? = some ⟨m + 2 * j, m + 2 * j + 1⟩
theorem getD_of_get {α : Type} (l : List α) (i : Nat) (d x : α) (h : l[i]? = some x) : l.getD i d = x := by rw [List.getD_eq_getElem?_getD, h]; rfl
theorem w64 {i : Int} (h0 : -9223372036854775808 ≤ i) (h : i ≤ 9223372036854775807) : wrap64 i = i := by unfold wrap64; omega
theorem heldPairS_l0 (m : Int) (z : List S50) (h0 : 0 ≤ m) (hm : m + 2 * z.length < 4611686018427387904) (hz : MarkedP m z) : ∀ (d i : Nat), i + d = z.length → Ev (fun k => laws_heldPairS.l0 k z (m + 2 * i) i) (m + 2 * z.length)
  | 0, i, hd => by
    refine Ev.one (fun k => ?_)
    rw [laws_heldPairS.l0, if_neg (by omega), show i = z.length by omega]
  | d + 1, i, hd => by
    have hx : rd_T50 z (i : Int) = ⟨m + 2 * i, m + 2 * i + 1⟩ := getD_of_get z i _ _ (hz i (by omega))
    refine Ev.step (fun k => ?_) (heldPairS_l0 m z h0 hm hz d (i + 1) (by omega))
    rw [laws_heldPairS.l0, if_pos (by omega), if_pos (by omega), hx, if_pos rfl, w64 (i := m + 2 * (i : Int) + 1) (by omega) (by omega), if_pos rfl, w1 (by omega), w64 (by omega) (by omega), show m + 2 * (i : Int) + 1 + 1 = m + 2 * ((i + 1 : Nat) : Int) by omega]
theorem heldParty_ev (a : Int) (z : List S50) (m : Int) (h0 : 0 ≤ m) (hm : m + 2 * z.length < 4611686018427387904) (hz : MarkedP m z) : Ev (fun k => laws_heldParty.f k a z m) (m + 2 * z.length) := by
  unfold laws_heldParty.f laws_heldPairS.f
  have hE : Ev (fun k => laws_heldPairS.l0 k z m 0) (m + 2 * z.length) := by simpa using heldPairS_l0 m z h0 hm hz z.length 0 (by omega)
  refine Ev.bind hE ?_
  simp only [if_neg (show ¬ (m + 2 * (z.length : Int) < 0) by omega)]
  exact Ev.now _

def crowd (n : Int) : Bool := decide (0 ≤ n ∧ n ≤ 12)
def lt2 (p q : S50) : Bool := decide (p.f0 < q.f0) || (decide (p.f0 = q.f0) && decide (p.f1 < q.f1))
def okPrev : Option S50 → S50 → Bool
  | none, _ => true
  | some p, x => lt2 p x
def okFrom (n : Int) : Option S50 → List S50 → Bool
  | _, [] => true
  | prev, x :: xs => (decide (0 ≤ x.f0) && (decide (x.f0 < x.f1) && (decide (x.f1 < n) && okPrev prev x))) && okFrom n (some x) xs
def good (n : Int) (l : List S50) : Bool := crowd n && okFrom n none l
def natPairs (m : Nat) (l : List S50) : Prop := ∀ x ∈ l, ∃ a b : Nat, x = ⟨(a : Int), (b : Int)⟩ ∧ a < b ∧ b < m
theorem okFrom_nat (m : Nat) : ∀ (l : List S50) (p : Option S50), okFrom (m : Int) p l = true → natPairs m l
  | [], _, _ => fun x hx => by simp at hx
  | x :: xs, p, h => by
    simp only [okFrom, Bool.and_eq_true, decide_eq_true_eq] at h
    obtain ⟨⟨h0, h1, h2, _⟩, h3⟩ := h
    intro y hy
    rcases List.mem_cons.1 hy with rfl | hy
    · refine ⟨y.f0.toNat, y.f1.toNat, ?_, by omega, by omega⟩
      rw [Int.toNat_of_nonneg h0, Int.toNat_of_nonneg (by omega)]
    · exact okFrom_nat m xs _ h3 y hy
theorem good_nat {n : Int} {l : List S50} (h : good n l = true) : ∃ m : Nat, n = (m : Int) ∧ m ≤ 12 ∧ natPairs m l ∧ okFrom (m : Int) none l = true := by
  unfold good crowd at h
  simp only [Bool.and_eq_true, decide_eq_true_eq] at h
  obtain ⟨⟨h0, h1⟩, h2⟩ := h
  obtain ⟨m, rfl⟩ := Int.eq_ofNat_of_zero_le h0
  exact ⟨m, rfl, by omega, okFrom_nat m l none h2, h2⟩
theorem ba_size (a b : ByteArray) : (a ++ b).size = a.size + b.size := ByteArray.size_append
def num (n : Nat) : ByteArray := ⟨(Lib.decDigits n).toArray⟩
theorem itoa_f (n : Nat) (h : n < 20) : strconv_Itoa_33.f (n : Int) = some (num n) := by
  unfold strconv_Itoa_33.f
  rw [if_pos (by omega), Int.toNat_natCast]; rfl
def lis (x : ByteArray) : List UInt8 := x.data.toList
theorem lis_len (x : ByteArray) : (lis x).length = x.size := by
  unfold lis
  rw [Array.length_toList]; rfl
def piece (x : S50) : ByteArray := (num x.f0.toNat ++ (⟨#[45]⟩ : ByteArray)) ++ num x.f1.toNat
/-- The text behind the colon, as far as a list of pairs goes. -/
def txt (l : List S50) : ByteArray := ⟨(Lib.join ((l.map piece).map lis) [44]).toArray⟩
theorem lis_txt (l : List S50) : lis (txt l) = Lib.join ((l.map piece).map lis) [44] := by unfold lis txt; rfl
theorem num_one (n : Nat) (h : n < 10) : num n = ⟨#[UInt8.ofNat (48 + n)]⟩ := by
  unfold num
  rw [Lib.decDigits, dif_pos h]
theorem num_two (n : Nat) (h : 10 ≤ n) (h2 : n < 20) : num n = ⟨#[49]⟩ ++ ⟨#[UInt8.ofNat (48 + n % 10)]⟩ := by
  unfold num
  rw [Lib.decDigits, dif_neg (by omega), Lib.decDigits, dif_pos (by omega), show n / 10 = 1 by omega]
  rfl
theorem num_size (n : Nat) (h : n < 20) : (num n).size ≤ 2 := by
  by_cases h1 : n < 10
  · rw [num_one n h1]; show 1 ≤ 2; omega
  · rw [num_two n (by omega) h]; show 2 ≤ 2; omega
theorem rdT_mid (pre rest : List S50) (x : S50) : rd_T50 (pre ++ x :: rest) (pre.length : Int) = x := by
  unfold rd_T50
  simp [List.getD_eq_getElem?_getD]
theorem piece_size (m : Nat) (hm : m ≤ 12) (x : S50) (l : List S50) (hn : natPairs m l) (hx : x ∈ l) : (piece x).size ≤ 5 := by
  obtain ⟨a, b, rfl, h1, h2⟩ := hn x hx
  unfold piece
  have e1 := num_size a (by omega)
  have e2 := num_size b (by omega)
  have e3 : (⟨#[45]⟩ : ByteArray).size = 1 := rfl
  rw [ba_size, ba_size, e3]
  simp only [Int.toNat_natCast]
  omega
theorem txt_size (m : Nat) (hm : m ≤ 12) (l0 : List S50) (hn : natPairs m l0) : ∀ l : List S50, (∀ x ∈ l, x ∈ l0) → (txt l).size ≤ 6 * l.length := by
  intro l
  rw [← lis_len, lis_txt]
  cases l with
  | nil => intro _; simp [Lib.join_nil]
  | cons x r =>
    intro h
    have hs : ∀ r : List S50, (∀ x ∈ r, x ∈ l0) → Lib.lens ((r.map piece).map lis) ≤ 5 * r.length := by
      intro r
      induction r with
      | nil => intro _; simp [Lib.lens]
      | cons y r ih =>
        intro h
        have := ih (fun z hz => h z (List.mem_cons_of_mem _ hz))
        have h2 := piece_size m hm y l0 hn (h y (List.mem_cons_self ..))
        rw [← lis_len] at h2
        simp only [Lib.lens, List.map_cons, List.sum_cons, List.length_cons] at this ⊢
        omega
    rw [List.map_cons, List.map_cons, Lib.join_length]
    have := hs (x :: r) h
    rw [List.map_cons, List.map_cons] at this
    simp only [List.length_map, List.length_cons, List.length_nil] at this ⊢
    omega
theorem iText_l0 (m : Nat) (hm : m ≤ 12) (l : List S50) (hn : natPairs m l) (hl : l.length ≤ 1000) : ∀ (rest pre : List S50), l = pre ++ rest → Ev (fun k => impl_partyText.l0 k (pre.map piece) l (l.length : Int) (pre.length : Int) (m : Int) l) ((num m ++ (⟨#[58]⟩ : ByteArray)) ++ txt l)
  | [], pre, e => by
    have e2 : l = pre := by rw [e]; simp
    have s0 := num_size m (by omega)
    have s1 : (⟨#[58]⟩ : ByteArray).size = 1 := rfl
    have hsz := txt_size m hm l hn l (fun z hz => hz)
    have hj : (Lib.join ((l.map piece).map lis) [44]).length ≤ 6 * l.length := by rw [← lis_txt, lis_len]; exact hsz
    refine Ev.one fun k => ?_
    rw [impl_partyText.l0, if_neg (by rw [e2]; omega), itoa_f m (by omega), Option.bind_some, if_pos (by omega), ← e2]
    have hJ : strings_Join.f (l.map piece) (⟨#[44]⟩ : ByteArray) = some (txt l) := by
      unfold strings_Join.f
      rw [if_pos ⟨by rw [List.length_map]; omega, by show (Lib.join ((l.map piece).map lis) [44]).length ≤ _; omega⟩]
      rfl
    rw [hJ, Option.bind_some, if_pos (by rw [ba_size, s1]; omega)]
  | x :: rest, pre, e => by
    have hlen : l.length = pre.length + (rest.length + 1) := by rw [e]; simp
    obtain ⟨a, b, rfl, hab, hbm⟩ := hn x (by rw [e]; simp)
    have hx : rd_T50 l (pre.length : Int) = ⟨(a : Int), (b : Int)⟩ := by rw [e]; exact rdT_mid pre rest _
    have ih := iText_l0 m hm l hn hl rest (pre ++ [⟨(a : Int), (b : Int)⟩]) (by rw [e]; simp)
    have hw : wrap64 ((pre.length : Int) + 1) = ((pre ++ [(⟨(a : Int), (b : Int)⟩ : S50)]).length : Int) := by rw [List.length_append, List.length_singleton]; unfold wrap64; omega
    have sa := num_size a (by omega)
    have sb := num_size b (by omega)
    have s1 : (⟨#[45]⟩ : ByteArray).size = 1 := rfl
    have hp : piece (⟨(a : Int), (b : Int)⟩ : S50) = (num a ++ (⟨#[45]⟩ : ByteArray)) ++ num b := by unfold piece; simp only [Int.toNat_natCast]
    rw [List.map_append, List.map_cons, List.map_nil, hp, ← hw] at ih
    refine Ev.step (fun k => ?_) ih
    rw [impl_partyText.l0, if_pos (by omega), if_pos (by omega), if_pos (by omega), hx]
    dsimp only
    rw [itoa_f a (by omega), Option.bind_some, if_pos (by omega), itoa_f b (by omega), Option.bind_some, if_pos (by rw [ba_size, s1]; omega), if_pos (by rw [List.length_map]; omega)]
theorem Ev.cast {α : Type} {g : Nat → Option α} {a b : α} (h : Ev g a) (e : a = b) : Ev g b := e ▸ h
theorem within_f (a lo hi : Int) : impl_within.f a lo hi = some (decide (lo ≤ a) && decide (a ≤ hi)) := by
  unfold impl_within.f
  by_cases h : lo ≤ a
  · rw [if_pos h]; simp [h]
  · rw [if_neg h]; simp [h]
theorem areCrowd_f (a : Int) : impl_areCrowd.f a = some (decide (0 ≤ a ∧ a ≤ 12)) := by
  unfold impl_areCrowd.f
  rw [within_f]; simp [Bool.decide_and]
def cmp3 (a b : Int) : Int := if a < b then -1 else if a > b then 1 else 0
def cmpP (p q : S50) : Int := if cmp3 p.f0 q.f0 = 0 then cmp3 p.f1 q.f1 else cmp3 p.f0 q.f0
theorem cmpP_neg (p q : S50) : decide (cmpP p q ≥ 0) = !lt2 p q := by
  unfold cmpP cmp3 lt2
  by_cases h1 : p.f0 < q.f0
  · simp [h1]
  · by_cases h2 : p.f0 > q.f0
    · have h3 : ¬ p.f0 = q.f0 := by omega
      simp [h1, h2, h3]
    · have h3 : p.f0 = q.f0 := by omega
      by_cases h4 : p.f1 < q.f1
      · simp [h3, h4]
      · by_cases h5 : p.f1 > q.f1
        · simp [h3, h4, h5]
        · simp [h3, h4, h5]
theorem cmpOr_ev (a b : Int) : Ev (fun k => cmp_Or_int.f k [a, b]) (if a = 0 then b else a) := by
  refine ⟨3, fun k hk => ?_⟩
  obtain ⟨k, rfl⟩ : ∃ m, k = m + 3 := ⟨k - 3, by omega⟩
  have e1 : wrap64 (0 + 1) = 1 := by unfold wrap64; omega
  have e2 : wrap64 (1 + 1) = 2 := by unfold wrap64; omega
  have r0 : rd [a, b] 0 = a := rfl
  have r1 : rd [a, b] 1 = b := rfl
  simp only [cmp_Or_int.f, cmp_Or_int.l0, List.length_cons, List.length_nil, r0, r1, e1, e2]
  by_cases h : a = 0
  · by_cases h2 : b = 0
    · simp [h, h2]
    · simp [h, h2]
  · simp [h]
theorem compare_f (a b : Int) : cmp_Compare_int.f a b = some (cmp3 a b) := by
  unfold cmp_Compare_int.f cmp_isNaN_int.f cmp3
  simp
  by_cases h : a < b
  · simp [h]
  · by_cases h2 : a > b
    · simp [h, h2]
    · simp [h, h2]
theorem comparePairs_ev (p q : S50) : Ev (fun k => impl_comparePairs.f k p.f0 p.f1 q.f0 q.f1) (cmpP p q) := by
  unfold impl_comparePairs.f
  simp only [compare_f, Option.bind_some]
  exact Ev.bind (cmpOr_ev _ _) (Ev.now _)
theorem implIsParty_l0 (n : Int) (l : List S50) (hl : l.length < 4611686018427387904) : ∀ (rest pre : List S50), l = pre ++ rest → Ev (fun k => impl_IsParty.l0 k l (l.length : Int) (pre.length : Int) n l) (okFrom n pre.getLast? rest && crowd n)
  | [], pre, h => by
    refine Ev.one (fun k => ?_)
    have e : l.length = pre.length := by rw [h]; simp
    rw [impl_IsParty.l0, if_neg (by omega), areCrowd_f]
    simp [okFrom, crowd]
  | x :: rest, pre, h => by
    have hlen : pre.length < l.length := by rw [h]; simp
    have hx : rd_T50 l (pre.length : Int) = x := by rw [h]; exact rdT_mid pre rest x
    have ih := implIsParty_l0 n l hl rest (pre ++ [x]) (by rw [h]; simp)
    rw [List.getLast?_concat, List.length_append, List.length_singleton] at ih
    by_cases c1 : x.f0 < 0
    · refine Ev.one (fun k => ?_)
      rw [impl_IsParty.l0, if_pos (by omega), if_pos (by omega), if_pos (by omega), hx, if_pos c1]
      have : decide (0 ≤ x.f0) = false := by simp; omega
      simp [okFrom, this]
    by_cases c2 : x.f0 ≥ x.f1
    · refine Ev.one (fun k => ?_)
      rw [impl_IsParty.l0, if_pos (by omega), if_pos (by omega), if_pos (by omega), hx, if_neg c1, if_pos c2]
      have : decide (x.f0 < x.f1) = false := by simp; omega
      simp [okFrom, this]
    by_cases c3 : x.f1 ≥ n
    · refine Ev.one (fun k => ?_)
      rw [impl_IsParty.l0, if_pos (by omega), if_pos (by omega), if_pos (by omega), hx, if_neg c1, if_neg c2, if_pos c3]
      have : decide (x.f1 < n) = false := by simp; omega
      simp [okFrom, this]
    have d1 : decide (0 ≤ x.f0) = true := by simp; omega
    have d2 : decide (x.f0 < x.f1) = true := by simp; omega
    have d3 : decide (x.f1 < n) = true := by simp; omega
    rcases List.eq_nil_or_concat pre with rfl | ⟨q, p, rfl⟩
    · refine Ev.cast (Ev.step (fun k => ?_) ih) ?_
      · rw [impl_IsParty.l0, if_pos (by omega), if_pos (by omega), if_pos (by omega), hx, if_neg c1, if_neg c2, if_neg c3, if_neg (by simp), w1 (by simp)]
      · simp [okFrom, d1, d2, d3, okPrev]
    · rw [List.concat_eq_append] at hlen hx ih h ⊢
      have hp : rd_T50 l (q.length : Int) = p := by rw [h, List.append_assoc]; exact rdT_mid q (x :: rest) p
      have hq : (q ++ [p]).length = q.length + 1 := by simp
      rw [hq] at hlen hx ih ⊢
      refine Ev.step (f := fun k => (impl_comparePairs.f k p.f0 p.f1 x.f0 x.f1).bind fun t => if t ≥ 0 then some false else impl_IsParty.l0 k l (l.length : Int) ((q.length + 1 + 1 : Nat) : Int) n l) (fun k => ?_) (Ev.bind (comparePairs_ev p x) ?_)
      · rw [impl_IsParty.l0, if_pos (by omega), if_pos (by omega), if_pos (by omega), hx, if_neg c1, if_neg c2, if_neg c3, if_pos (by omega), w64 (i := ((q.length + 1 : Nat) : Int) - 1) (by omega) (by omega), show ((q.length + 1 : Nat) : Int) - 1 = (q.length : Int) by omega, if_pos (by omega), if_pos (by omega), hp, w1 (by omega)]
      · have hc := cmpP_neg p x
        rw [List.getLast?_concat]
        by_cases hlt : lt2 p x = true
        · have c4 : ¬ cmpP p x ≥ 0 := by rw [hlt] at hc; simpa using hc
          simp only [if_neg c4]
          refine Ev.cast ih ?_
          simp [okFrom, d1, d2, d3, okPrev, hlt]
        · have hlt' : lt2 p x = false := by simpa using hlt
          have c4 : cmpP p x ≥ 0 := by rw [hlt'] at hc; simpa using hc
          simp only [if_pos c4]
          refine Ev.cast (Ev.now _) ?_
          simp [okFrom, okPrev, hlt']
theorem implIsParty_ev (n : Int) (l : List S50) (hl : l.length < 4611686018427387904) : Ev (fun k => impl_IsParty.f k n l) (good n l) := by
  unfold impl_IsParty.f
  have := implIsParty_l0 n l hl l [] rfl
  rw [Bool.and_comm] at this
  exact this
abbrev PRes : Type := Int × List S50 × Bool
def text (m : Nat) (l : List S50) : ByteArray := (num m ++ (⟨#[58]⟩ : ByteArray)) ++ txt l
def zeroP : PRes := (0, [], false)
def implV (s : ByteArray) : PRes := match numsV 12 (Lib.goFieldsP isSep s) with
  | some (n :: l) => if l.length % 2 = 0 ∧ good n (psL l) = true ∧ text n.toNat (psL l) = s then (n, psL l, true) else zeroP
  | _ => zeroP
/-! the number of pairs -/
def below (m : Nat) : Nat → Nat
  | 0 => 0
  | a + 1 => below m a + (m - 1 - a)
theorem below_66 : ∀ m : Nat, m < 13 → below m m ≤ 66 := by decide
/-- where a pair stands among all pairs of m people -/
def rank (m : Nat) (x : S50) : Nat := below m x.f0.toNat + (x.f1.toNat - x.f0.toNat - 1)
theorem below_mono (m a : Nat) : ∀ d, below m a ≤ below m (a + d)
  | 0 => Nat.le_refl _
  | d + 1 => Nat.le_trans (below_mono m a d) (by show below m (a + d) ≤ below m (a + d) + _; omega)
theorem rank_lt (m : Nat) (p x : S50) (h : lt2 p x = true) (p0 : 0 ≤ p.f0) (p1 : p.f0 < p.f1) (p2 : p.f1 < m) (x0 : 0 ≤ x.f0) (x1 : x.f0 < x.f1) : rank m p < rank m x := by
  unfold lt2 at h
  unfold rank
  simp at h
  rcases h with h | ⟨h, h2⟩
  · have h1 := below_mono m (p.f0.toNat + 1) (x.f0.toNat - (p.f0.toNat + 1))
    rw [show p.f0.toNat + 1 + (x.f0.toNat - (p.f0.toNat + 1)) = x.f0.toNat by omega] at h1
    have h3 : below m (p.f0.toNat + 1) = below m p.f0.toNat + (m - 1 - p.f0.toNat) := rfl
    omega
  · rw [h]; omega
theorem rank_top (m : Nat) (x : S50) (x0 : 0 ≤ x.f0) (x1 : x.f0 < x.f1) (x2 : x.f1 < m) : rank m x < below m m := by
  unfold rank
  have h1 := below_mono m (x.f0.toNat + 1) (m - (x.f0.toNat + 1))
  rw [show x.f0.toNat + 1 + (m - (x.f0.toNat + 1)) = m by omega] at h1
  have h3 : below m (x.f0.toNat + 1) = below m x.f0.toNat + (m - 1 - x.f0.toNat) := rfl
  omega
theorem okFrom_len (m : Nat) : ∀ (l : List S50) (p : S50), 0 ≤ p.f0 → p.f0 < p.f1 → p.f1 < m → okFrom m (some p) l = true → rank m p + l.length < below m m
  | [], p, p0, p1, p2, _ => rank_top m p p0 p1 p2
  | x :: xs, p, p0, p1, p2, h => by
    simp [okFrom, okPrev] at h
    obtain ⟨⟨x0, x1, x2, hlt⟩, h⟩ := h
    have ih := okFrom_len m xs x x0 x1 x2 h
    have := rank_lt m p x hlt p0 p1 p2 x0 x1
    simp only [List.length_cons]
    omega
theorem good_len (m : Nat) (l : List S50) (h : okFrom m none l = true) : l.length ≤ below m m := by
  cases l with
  | nil => simp
  | cons x xs =>
    simp [okFrom, okPrev] at h
    obtain ⟨⟨x0, x1, x2⟩, h⟩ := h
    have := okFrom_len m xs x x0 x1 x2 h
    simp only [List.length_cons]
    omega
theorem text_size (m : Nat) (l : List S50) (hm : m ≤ 12) (hn : natPairs m l) (ho : okFrom (m : Int) none l = true) : l.length ≤ 66 ∧ (text m l).size ≤ 500 := by
  have h1 := good_len m l ho
  have h2 := below_66 m (by omega)
  have h3 := txt_size m hm l hn l (fun x hx => hx)
  have h4 := num_size m (by omega)
  have s1 : (⟨#[58]⟩ : ByteArray).size = 1 := rfl
  refine ⟨by omega, ?_⟩
  unfold text
  rw [ba_size, ba_size, s1]
  omega
theorem implParse_ev (s : ByteArray) (hs : s.size ≤ 1048576) : Ev (fun k => impl_ParseParty.f k s) (implV s) := by
  unfold impl_ParseParty.f implV
  simp only [if_pos hs]
  match hn : numsV 12 (Lib.goFieldsP isSep s) with
  | none => exact Ev.now _
  | some [] => exact Ev.now _
  | some (n :: l) =>
    dsimp only
    have h1 := numsV_len 12 _ _ hn
    have h2 := fields_le isSep s
    simp only [List.length_cons] at h1
    by_cases he : l.length % 2 = 0
    · simp only [if_pos he]
      have hpl := psL_len l (l.length / 2) (by omega)
      refine Ev.bind (implIsParty_ev n (psL l) (by omega)) ?_
      by_cases hg : good n (psL l) = true
      · simp only [hg, if_true]
        obtain ⟨m, hm, hm2, hnp, ho⟩ := good_nat hg
        subst hm
        obtain ⟨hl, _⟩ := text_size m (psL l) hm2 hnp ho
        have ht := iText_l0 m hm2 (psL l) hnp (by omega) (psL l) [] rfl
        refine Ev.bind (show Ev (fun k => impl_partyText.f k (m : Int) (psL l)) (text m (psL l)) from ht) ?_
        rw [Int.toNat_natCast]
        by_cases hts : text m (psL l) = s
        · simp only [if_pos hts]
          rw [if_pos ⟨he, trivial, hts⟩]
          exact Ev.now _
        · simp only [if_neg hts]
          rw [if_neg (fun h => hts h.2.2)]
          exact Ev.now _
      · simp only [if_neg hg]
        rw [if_neg (fun h => hg h.2.1)]
        exact Ev.now _
    · simp only [if_neg he]
      rw [if_neg (fun h => he h.1)]
      exact Ev.now _
theorem implV_some (s : ByteArray) : implV s = zeroP ∨ ∃ (m : Nat) (l : List S50), good (m : Int) l = true ∧ s = text m l := by
  unfold implV
  match hn : numsV 12 (Lib.goFieldsP isSep s) with
  | none => exact .inl rfl
  | some [] => exact .inl rfl
  | some (n :: l) =>
    dsimp only
    by_cases h : l.length % 2 = 0 ∧ good n (psL l) = true ∧ text n.toNat (psL l) = s
    · obtain ⟨m, hm, _⟩ := good_nat h.2.1
      subst hm
      exact .inr ⟨m, psL l, h.2.1, by have := h.2.2; rw [Int.toNat_natCast] at this; exact this.symm⟩
    · rw [if_neg h]; exact .inl rfl
def curOf (s : ByteArray) (pos : Nat) : Option Nat → List UInt8
  | none => []
  | some a => (s.data.toList.drop a).take (pos - a)
theorem lis_at (s : ByteArray) (i : Nat) (h : i < s.size) : s.data.toList.drop i = s[i]'h :: s.data.toList.drop (i + 1) := by
  have h2 : i < s.data.toList.length := by rw [Array.length_toList]; exact h
  rw [List.drop_eq_getElem_cons h2]
  congr 1
theorem lis_up (s : ByteArray) (a i : Nat) (h : i < s.size) (ha : a ≤ i) : (s.data.toList.drop a).take (i + 1 - a) = (s.data.toList.drop a).take (i - a) ++ [s[i]'h] := by
  have h2 : i - a < (s.data.toList.drop a).length := by
    rw [List.length_drop, Array.length_toList]
    have : i < s.data.size := h
    omega
  rw [show i + 1 - a = (i - a) + 1 by omega, List.take_succ_eq_append_getElem h2]
  congr 2
  rw [List.getElem_drop]
  have : a + (i - a) = i := by omega
  simp only [this]
  rfl
theorem lisx (s : ByteArray) (a e : Nat) : (s.extract a e).data.toList = (s.data.toList.drop a).take (e - a) := by
  rw [ByteArray.data_extract, Array.toList_extract]
/-- The words of bytes between separators, the empty ones left out; cur: the word under way. -/
def wordsB (p : UInt8 → Bool) : List UInt8 → List UInt8 → List (List UInt8)
  | cur, [] => if cur = [] then [] else [cur]
  | cur, c :: r => if p c = true then (if cur = [] then wordsB p [] r else cur :: wordsB p [] r) else wordsB p (cur ++ [c]) r
theorem spans_words (p : Nat → Bool) (s : ByteArray) (hs : ∀ i (h : i < s.size), (s[i]'h).toNat < 128) : ∀ (f pos : Nat) (st : Option Nat) (acc : List (Nat × Nat)), pos ≤ s.size → s.size ≤ pos + f → (∀ a, st = some a → a < pos) →
    ((Lib.closeSpans s (Lib.spansFromP p s f pos st acc)).map fun x => (s.extract x.1 x.2).data.toList) = (acc.map fun x => (s.extract x.1 x.2).data.toList) ++ wordsB (fun c => p c.toNat) (curOf s pos st) (s.data.toList.drop pos) := by
  intro f
  induction f with
  | zero =>
    intro pos st acc h1 h2 h3
    have hp : pos = s.size := by omega
    subst hp
    have hd : s.data.toList.drop s.size = [] := List.drop_eq_nil_of_le (by rw [Array.length_toList]; exact Nat.le_refl _)
    rw [hd]
    show (Lib.closeSpans s (acc, st)).map _ = _
    cases st with
    | none => simp [Lib.closeSpans, curOf, wordsB]
    | some a =>
      have ha := h3 a rfl
      have hne : curOf s s.size (some a) ≠ [] := by
        intro h
        have := congrArg List.length h
        simp only [curOf, List.length_take, List.length_drop, Array.length_toList, List.length_nil] at this
        have e : s.data.size = s.size := rfl
        omega
      show (acc ++ [(a, s.size)]).map _ = _ ++ (if curOf s s.size (some a) = [] then [] else [curOf s s.size (some a)])
      rw [if_neg hne, List.map_append, List.map_cons, List.map_nil, lisx]
      rfl
  | succ f ih =>
    intro pos st acc h1 h2 h3
    by_cases hlt : pos < s.size
    · have hc := hs pos hlt
      obtain ⟨c, hcv⟩ : ∃ c, s[pos]'hlt = c := ⟨_, rfl⟩
      have hdec : Utf8.decode s pos = (c.toNat, 1) := by rw [decode_ascii s pos hlt hc, hcv]
      have hdrop := lis_at s pos hlt
      rw [hcv] at hdrop
      have hsp : Lib.spansFromP p s (f + 1) pos st acc = (if p c.toNat = true then (match st with | some a => Lib.spansFromP p s f (pos + 1) none (acc ++ [(a, pos)]) | none => Lib.spansFromP p s f (pos + 1) none acc) else (match st with | some a => Lib.spansFromP p s f (pos + 1) (some a) acc | none => Lib.spansFromP p s f (pos + 1) (some pos) acc)) := by
        have h9 : Lib.spansFromP p s (f + 1) pos st acc = (if pos < s.size then (if p (Utf8.decode s pos).1 then (match st with | some a => Lib.spansFromP p s f (pos + (Utf8.decode s pos).2) none (acc ++ [(a, pos)]) | none => Lib.spansFromP p s f (pos + (Utf8.decode s pos).2) none acc) else (match st with | some a => Lib.spansFromP p s f (pos + (Utf8.decode s pos).2) (some a) acc | none => Lib.spansFromP p s f (pos + (Utf8.decode s pos).2) (some pos) acc)) else (acc, st)) := by cases st <;> rfl
        rw [h9, if_pos hlt, hdec]
      rw [hsp, hdrop]
      rw [show wordsB (fun c => p c.toNat) (curOf s pos st) (c :: s.data.toList.drop (pos + 1)) = (if p c.toNat = true then (if curOf s pos st = [] then wordsB (fun c => p c.toNat) [] (s.data.toList.drop (pos + 1)) else curOf s pos st :: wordsB (fun c => p c.toNat) [] (s.data.toList.drop (pos + 1))) else wordsB (fun c => p c.toNat) (curOf s pos st ++ [c]) (s.data.toList.drop (pos + 1))) from rfl]
      by_cases hp : p c.toNat = true
      · rw [if_pos hp, if_pos hp]
        cases st with
        | none =>
          dsimp only
          rw [ih (pos + 1) none acc (by omega) (by omega) (fun a h => by cases h)]
          rfl
        | some a =>
          have ha := h3 a rfl
          have hne : curOf s pos (some a) ≠ [] := by
            intro h
            have := congrArg List.length h
            simp only [curOf, List.length_take, List.length_drop, Array.length_toList, List.length_nil] at this
            have e : s.data.size = s.size := rfl
            omega
          dsimp only
          rw [if_neg hne, ih (pos + 1) none (acc ++ [(a, pos)]) (by omega) (by omega) (fun a h => by cases h), List.map_append, List.map_cons, List.map_nil, lisx, List.append_assoc]
          rfl
      · rw [if_neg hp, if_neg hp]
        cases st with
        | none =>
          dsimp only
          rw [ih (pos + 1) (some pos) acc (by omega) (by omega) (fun a h => by cases h; omega)]
          have := lis_up s pos pos hlt (Nat.le_refl _)
          rw [hcv] at this
          have e2 : curOf s (pos + 1) (some pos) = [] ++ [c] := by
            show (s.data.toList.drop pos).take (pos + 1 - pos) = _
            rw [this]; simp
          rw [e2]
          rfl
        | some a =>
          have ha := h3 a rfl
          dsimp only
          rw [ih (pos + 1) (some a) acc (by omega) (by omega) (fun b h => by cases h; omega)]
          have := lis_up s a pos hlt (by omega)
          rw [hcv] at this
          have e2 : curOf s (pos + 1) (some a) = curOf s pos (some a) ++ [c] := this
          rw [e2]
    · have hp : pos = s.size := by omega
      rw [Lib.spansFromP_end p s (f + 1) pos st acc hlt]
      have := ih pos st acc h1 (by omega) h3
      rw [Lib.spansFromP_end p s f pos st acc hlt] at this
      exact this
theorem fields_words (p : Nat → Bool) (s : ByteArray) (hs : ∀ i (h : i < s.size), (s[i]'h).toNat < 128) : (Lib.goFieldsP p s).map (fun x => x.data.toList) = wordsB (fun c => p c.toNat) [] s.data.toList := by
  have := spans_words p s hs s.size 0 none [] (Nat.zero_le _) (by omega) (fun a h => by cases h)
  unfold Lib.goFieldsP Lib.spansOfP
  rw [List.map_map]
  exact this

/-- The numerals of 0 to 12. -/
def numL (n : Nat) : List UInt8 := if n < 10 then [UInt8.ofNat (48 + n)] else [49, UInt8.ofNat (48 + n % 10)]
theorem ba_list (a b : ByteArray) : (a ++ b).data.toList = a.data.toList ++ b.data.toList := by
  rw [ByteArray.data_append, Array.toList_append]
theorem lis_app (a b : ByteArray) : lis (a ++ b) = lis a ++ lis b := ba_list a b
theorem lis_lit (c : UInt8) : lis (⟨#[c]⟩ : ByteArray) = [c] := rfl
theorem numL_dec (n : Nat) (h : n < 20) : Lib.decDigits n = numL n := by
  unfold numL
  by_cases h1 : n < 10
  · rw [if_pos h1, Lib.decDigits, dif_pos h1]
  · rw [if_neg h1, Lib.decDigits, dif_neg h1, Lib.decDigits, dif_pos (by omega), show n / 10 = 1 by omega]
    rfl
theorem lis_num (n : Nat) (h : n < 20) : lis (num n) = numL n := by
  rw [← numL_dec n h]; unfold lis num; rfl
theorem lis_piece (a b : Nat) (ha : a < 20) (hb : b < 20) : lis (piece (⟨(a : Int), (b : Int)⟩ : S50)) = numL a ++ 45 :: numL b := by
  unfold piece
  simp only [Int.toNat_natCast]
  rw [lis_app, lis_app, lis_num a ha, lis_num b hb, lis_lit]
  simp
theorem lis_text (m : Nat) (hm : m < 20) (l : List S50) : lis (text m l) = numL m ++ 58 :: lis (txt l) := by
  unfold text
  rw [lis_app, lis_app, lis_num m hm, lis_lit]
  simp
theorem joinTail_cons (s y : List UInt8) (r : List (List UInt8)) : Lib.joinTail s (y :: r) = s ++ y ++ Lib.joinTail s r := by simp [Lib.joinTail]
theorem join_ne (x : List UInt8) (r : List (List UInt8)) (s : List UInt8) (hr : r ≠ []) : Lib.join (x :: r) s = x ++ s ++ Lib.join r s := by
  cases r with
  | nil => exact absurd rfl hr
  | cons y r => rw [Lib.join_cons, Lib.join_cons, joinTail_cons]; simp [List.append_assoc]
theorem mem_join (s : UInt8) : ∀ (ps : List (List UInt8)) (x : UInt8), x ∈ Lib.join ps [s] → x = s ∨ ∃ p ∈ ps, x ∈ p
  | [], x, h => by rw [Lib.join_nil] at h; cases h
  | [p], x, h => by rw [Lib.join_one] at h; exact .inr ⟨p, by simp, h⟩
  | p :: q :: r, x, h => by
    rw [join_ne p (q :: r) [s] (by simp)] at h
    rcases List.mem_append.1 h with h | h
    · rcases List.mem_append.1 h with h | h
      · exact .inr ⟨p, by simp, h⟩
      · exact .inl (by simpa using h)
    · rcases mem_join s (q :: r) x h with h | ⟨z, hz, hx⟩
      · exact .inl h
      · exact .inr ⟨z, List.mem_cons_of_mem _ hz, hx⟩
theorem numL_digit : ∀ n : Nat, n < 13 → ∀ c ∈ numL n, 48 ≤ c.toNat ∧ c.toNat ≤ 57 := by decide
theorem text_ascii (m : Nat) (hm : m ≤ 12) (l : List S50) (hn : natPairs m l) : ∀ x ∈ lis (text m l), x.toNat < 128 := by
  intro x hx
  rw [lis_text m (by omega)] at hx
  rcases List.mem_append.1 hx with h | h
  · have := numL_digit m (by omega) x h; omega
  · rcases List.mem_cons.1 h with h | h
    · subst h; decide
    · rw [lis_txt] at h
      rcases mem_join 44 _ x h with h | ⟨p, hp, hx⟩
      · subst h; decide
      · obtain ⟨w, hw, rfl⟩ := List.mem_map.1 hp
        obtain ⟨y, hy, rfl⟩ := List.mem_map.1 hw
        obtain ⟨a, b, hab, h1, h2⟩ := hn y hy
        subst hab
        rw [lis_piece a b (by omega) (by omega)] at hx
        rcases List.mem_append.1 hx with h | h
        · have := numL_digit a (by omega) x h; omega
        · rcases List.mem_cons.1 h with h | h
          · subst h; decide
          · have := numL_digit b (by omega) x h; omega
def toBA (l : List UInt8) : ByteArray := ⟨l.toArray⟩
theorem ba_ext {a b : ByteArray} (h : lis a = lis b) : a = b := by
  obtain ⟨a⟩ := a
  obtain ⟨b⟩ := b
  unfold lis at h
  exact congrArg ByteArray.mk (Array.toList_inj.1 h)
theorem lis_toBA (l : List UInt8) : lis (toBA l) = l := by unfold lis toBA; simp
theorem toBA_lis (x : ByteArray) : toBA (lis x) = x := ba_ext (lis_toBA (lis x))
def wordsP (l : List S50) : List (List UInt8) := l.flatMap fun x => [numL x.f0.toNat, numL x.f1.toNat]
theorem numL_ne : ∀ n : Nat, n < 13 → numL n ≠ [] := by decide
def sepB (c : UInt8) : Bool := isSep c.toNat
theorem sepB_digit (n : Nat) (h : n < 13) : ∀ x ∈ numL n, sepB x = false := by
  intro x hx
  have := numL_digit n h x hx
  unfold sepB isSep
  rw [decide_eq_false_iff_not]
  omega
theorem wordsB_run (p : UInt8 → Bool) : ∀ (w cur r : List UInt8), (∀ x ∈ w, p x = false) → wordsB p cur (w ++ r) = wordsB p (cur ++ w) r
  | [], cur, r, _ => by simp
  | c :: w, cur, r, h => by
    rw [List.cons_append]
    rw [show wordsB p cur (c :: (w ++ r)) = (if p c = true then (if cur = [] then wordsB p [] (w ++ r) else cur :: wordsB p [] (w ++ r)) else wordsB p (cur ++ [c]) (w ++ r)) from rfl]
    rw [if_neg (by rw [h c (List.mem_cons_self ..)]; simp), wordsB_run p w (cur ++ [c]) r (fun x hx => h x (List.mem_cons_of_mem _ hx))]
    simp
theorem wordsB_sep (p : UInt8 → Bool) (w r : List UInt8) (c : UInt8) (hw : w ≠ []) (h : ∀ x ∈ w, p x = false) (hc : p c = true) : wordsB p [] (w ++ c :: r) = w :: wordsB p [] r := by
  rw [wordsB_run p w [] (c :: r) h, List.nil_append]
  rw [show wordsB p w (c :: r) = (if p c = true then (if w = [] then wordsB p [] r else w :: wordsB p [] r) else wordsB p (w ++ [c]) r) from rfl]
  rw [if_pos hc, if_neg hw]
theorem wordsB_one (p : UInt8 → Bool) (w : List UInt8) (hw : w ≠ []) (h : ∀ x ∈ w, p x = false) : wordsB p [] w = [w] := by
  have := wordsB_run p w [] [] h
  simp only [List.append_nil, List.nil_append] at this
  rw [this]
  show (if w = [] then [] else [w]) = _
  rw [if_neg hw]

theorem words_tail (m : Nat) (hm : m ≤ 12) : ∀ (l : List S50) (a b : Nat), natPairs m l → a < 13 → b < 13 → wordsB sepB [] (numL a ++ 45 :: (numL b ++ Lib.joinTail [44] ((l.map piece).map lis))) = numL a :: numL b :: wordsP l
  | [], a, b, _, ha, hb => by
    rw [wordsB_sep sepB (numL a) _ 45 (numL_ne a ha) (sepB_digit a ha) (by decide)]
    have e : Lib.joinTail [44] (([] : List S50).map piece |>.map lis) = [] := rfl
    rw [e, List.append_nil, wordsB_one sepB (numL b) (numL_ne b hb) (sepB_digit b hb)]
    rfl
  | x :: l, a, b, hn, ha, hb => by
    obtain ⟨c, d, hcd, h1, h2⟩ := hn x (List.mem_cons_self ..)
    subst hcd
    have ih := words_tail m hm l c d (fun y hy => hn y (List.mem_cons_of_mem _ hy)) (by omega) (by omega)
    rw [wordsB_sep sepB (numL a) _ 45 (numL_ne a ha) (sepB_digit a ha) (by decide), List.map_cons, List.map_cons, joinTail_cons, lis_piece c d (by omega) (by omega)]
    have e : numL b ++ ([44] ++ (numL c ++ 45 :: numL d) ++ Lib.joinTail [44] ((l.map piece).map lis)) = numL b ++ 44 :: (numL c ++ 45 :: (numL d ++ Lib.joinTail [44] ((l.map piece).map lis))) := by simp
    rw [e, wordsB_sep sepB (numL b) _ 44 (numL_ne b hb) (sepB_digit b hb) (by decide), ih]
    simp [wordsP]
theorem words_text (m : Nat) (hm : m ≤ 12) (l : List S50) (hn : natPairs m l) : wordsB sepB [] (lis (text m l)) = numL m :: wordsP l := by
  rw [lis_text m (by omega), wordsB_sep sepB (numL m) _ 58 (numL_ne m (by omega)) (sepB_digit m (by omega)) (by decide), lis_txt]
  congr 1
  cases l with
  | nil => rfl
  | cons x l =>
    obtain ⟨c, d, hcd, h1, h2⟩ := hn x (List.mem_cons_self ..)
    subst hcd
    rw [List.map_cons, List.map_cons, Lib.join_cons, lis_piece c d (by omega) (by omega)]
    have e : numL c ++ 45 :: numL d ++ Lib.joinTail [44] ((l.map piece).map lis) = numL c ++ 45 :: (numL d ++ Lib.joinTail [44] ((l.map piece).map lis)) := by simp
    rw [e, words_tail m hm l c d (fun y hy => hn y (List.mem_cons_of_mem _ hy)) (by omega) (by omega)]
    simp [wordsP]
theorem fields_text (m : Nat) (hm : m ≤ 12) (l : List S50) (hn : natPairs m l) : Lib.goFieldsP isSep (text m l) = (numL m :: wordsP l).map toBA := by
  have h := fields_words isSep (text m l) (fun i hi => text_ascii m hm l hn _ (by
    have : i < (lis (text m l)).length := by rw [lis_len]; exact hi
    exact List.getElem_mem (l := lis (text m l)) this))
  have hw : wordsB (fun c => isSep c.toNat) [] (text m l).data.toList = numL m :: wordsP l := words_text m hm l hn
  rw [hw] at h
  rw [← h, List.map_map]
  have : (toBA ∘ fun x : ByteArray => x.data.toList) = id := by funext x; exact toBA_lis x
  rw [this, List.map_id]
def flatP (l : List S50) : List Int := l.flatMap fun x => [x.f0, x.f1]
theorem flatP_cons (x : S50) (l : List S50) : flatP (x :: l) = x.f0 :: x.f1 :: flatP l := by simp [flatP]
theorem flatP_len : ∀ l : List S50, (flatP l).length = 2 * l.length
  | [] => rfl
  | x :: l => by rw [flatP_cons, List.length_cons, List.length_cons, flatP_len l, List.length_cons]; omega
theorem numL_atoi : ∀ n : Nat, n < 13 → Lib.atoiAll (numL n) = .ok (n : Int) := by decide
theorem numV_num (n : Nat) (h : n < 13) : numV (toBA (numL n)) 12 = some (n : Int) := by
  have e1 : (toBA (numL n)).data.toList = numL n := lis_toBA (numL n)
  have e2 : (⟨(Lib.itoa (n : Int)).toArray⟩ : ByteArray) = toBA (numL n) := by
    have : Lib.itoa (n : Int) = numL n := by
      unfold Lib.itoa
      rw [if_neg (by omega), Int.toNat_natCast, numL_dec n (by omega)]
    rw [this]; rfl
  unfold numV
  rw [e1, numL_atoi n h]
  dsimp only
  rw [if_pos ⟨e2, by omega, by omega⟩]
theorem numsV_words (m : Nat) (hm : m ≤ 12) : ∀ l : List S50, natPairs m l → numsV 12 ((wordsP l).map toBA) = some (flatP l)
  | [], _ => rfl
  | x :: l, hn => by
    obtain ⟨a, b, hab, h1, h2⟩ := hn x (List.mem_cons_self ..)
    subst hab
    have e : wordsP ((⟨(a : Int), (b : Int)⟩ : S50) :: l) = numL a :: numL b :: wordsP l := by simp [wordsP]
    rw [e, List.map_cons, List.map_cons, numsV, numV_num a (by omega)]
    dsimp only
    rw [numsV, numV_num b (by omega)]
    dsimp only
    rw [numsV_words m hm l (fun y hy => hn y (List.mem_cons_of_mem _ hy)), flatP_cons]
    rfl
theorem psL_flat : ∀ l : List S50, psL (flatP l) = l
  | [] => rfl
  | x :: l => by rw [flatP_cons, psL, psL_flat l]
theorem implV_text (m : Nat) (l : List S50) (hg : good (m : Int) l = true) : implV (text m l) = ((m : Int), l, true) := by
  obtain ⟨m', he, hm, hn, ho⟩ := good_nat hg
  obtain rfl : m = m' := by omega
  have h : numsV 12 (Lib.goFieldsP isSep (text m l)) = some ((m : Int) :: flatP l) := by
    rw [fields_text m hm l hn, List.map_cons, numsV, numV_num m (by omega)]
    dsimp only
    rw [numsV_words m hm l hn]
    rfl
  unfold implV
  rw [h]
  dsimp only
  rw [psL_flat, Int.toNat_natCast, if_pos ⟨by rw [flatP_len]; omega, hg, rfl⟩]
theorem implV_len (s : ByteArray) (hs : s.size ≤ 1048576) : (implV s).2.1.length ≤ 1048576 := by
  rcases implV_some s with h | ⟨m, l, hg, hs2⟩
  · rw [h]; simp [zeroP]
  · subst hs2
    rw [implV_text m l hg]
    obtain ⟨m', he, hm, hn, ho⟩ := good_nat hg
    obtain rfl : m = m' := by omega
    have := (text_size m l hm hn ho).1
    dsimp only
    omega

theorem rdT_set (y : List S50) (i : Nat) (v : S50) (h : i < y.length) : rd_T50 (y.set i v) (i : Int) = v := getD_of_get _ i _ _ (by rw [List.getElem?_set]; simp [h])
theorem markPairS_l0 (m : Int) (n : Nat) (h0 : 0 ≤ m) (hm : m + 2 * n < 4611686018427387904) : ∀ (d i : Nat) (y : List S50), i + d = n → y.length = n → (∀ j, j < i → y[j]? = some ⟨m + 2 * j, m + 2 * j + 1⟩) → ∃ z : List S50, z.length = n ∧ MarkedP m z ∧ Ev (fun k => laws_markPairS.l0 k y (m + 2 * i) i) (m + 2 * n, z)
  | 0, i, y, hd, hy, h => by
    refine ⟨y, hy, fun j hj => h j (by omega), Ev.one (fun k => ?_)⟩
    rw [laws_markPairS.l0, if_neg (by omega), show i = n by omega]
  | d + 1, i, y, hd, hy, h => by
    have hi : i < y.length := by omega
    obtain ⟨z, hz, hj, hE⟩ := markPairS_l0 m n h0 hm d (i + 1) (y.set i ⟨m + 2 * i, m + 2 * i + 1⟩) (by omega) (by simpa using hy) (fun j hj => by
      rw [List.getElem?_set]
      by_cases e : i = j
      · subst e; simp [hi]
      · rw [if_neg e]; exact h j (by omega))
    refine ⟨z, hz, hj, Ev.step (fun k => ?_) hE⟩
    rw [laws_markPairS.l0, if_pos (by omega), if_pos (by omega)]
    simp only [Option.bind_some, Int.toNat_natCast]
    rw [rdT_set _ _ _ (by omega), List.set_set, w1 (by omega), w64 (i := m + 2 * (i : Int) + 1) (by omega) (by omega), w64 (by omega) (by omega), show m + 2 * (i : Int) + 1 + 1 = m + 2 * ((i + 1 : Nat) : Int) by omega]
theorem markParty_ev (a : Int) (y : List S50) (m : Int) (h0 : 0 ≤ m) (hm : m + 2 * y.length < 4611686018427387904) : ∃ z : List S50, z.length = y.length ∧ MarkedP m z ∧ Ev (fun k => laws_markParty.f k a y m) (m + 2 * y.length, z) := by
  obtain ⟨z, hz, hj, hE⟩ := markPairS_l0 m y.length h0 hm y.length 0 y (by omega) rfl (fun j hj => absurd hj (Nat.not_lt_zero _))
  refine ⟨z, hz, hj, ?_⟩
  unfold laws_markParty.f laws_markPairS.f
  have hE' : Ev (fun k => laws_markPairS.l0 k y m 0) (m + 2 * y.length, z) := by simpa using hE
  exact Ev.bind hE' (Ev.now _)
/-- What l1Read makes of digits: the number, or -1. -/
def readFrom : Int → List UInt8 → Int
  | acc, [] => acc
  | acc, c :: r => if (c.toNat : Int) < 48 then -1 else if (c.toNat : Int) > 57 then -1 else readFrom (10 * acc + ((c.toNat : Int) - 48)) r
def readV (x : List UInt8) : Int := if 1 ≤ x.length ∧ x.length ≤ 6 ∧ ¬ (x.head? = some 48 ∧ 1 < x.length) then readFrom 0 x else -1
/-- The pieces of cur followed by the rest, parted at each b. -/
def partB (b : UInt8) : List UInt8 → List UInt8 → List (List UInt8)
  | cur, [] => [cur]
  | cur, c :: r => if c = b then cur :: partB b [] r else partB b (cur ++ [c]) r
def splitV (b : UInt8) (s : ByteArray) : List ByteArray := (partB b [] (lis s)).map toBA
def loopV : List ByteArray → Int → List S50 → PRes
  | [], n, acc => if good n acc = true then (n, acc, true) else zeroP
  | w :: ws, n, acc => match splitV 45 w with
    | [u, v] => loopV ws n (acc ++ [⟨readV (lis u), readV (lis v)⟩])
    | _ => zeroP
def specV (s : ByteArray) : PRes :=
  if s.size > 500 then zeroP else match splitV 58 s with
    | [p, q] => if lis q = [] then (if good (readV (lis p)) [] = true then (readV (lis p), [], true) else zeroP) else loopV (splitV 44 q) (readV (lis p)) []
    | _ => zeroP
/-- The words are those of the pairs. -/
def RelW : List ByteArray → List S50 → Prop
  | [], [] => True
  | w :: ws, x :: l => (∃ u v, splitV 45 w = [u, v] ∧ x = ⟨readV (lis u), readV (lis v)⟩) ∧ RelW ws l
  | _, _ => False
theorem loopV_some (n : Int) : ∀ (ws : List ByteArray) (acc : List S50), loopV ws n acc = zeroP ∨ ∃ l, RelW ws l ∧ good n (acc ++ l) = true
  | [], acc => by
    unfold loopV
    by_cases h : good n acc = true
    · exact .inr ⟨[], trivial, by simpa using h⟩
    · rw [if_neg h]; exact .inl rfl
  | w :: ws, acc => by
    unfold loopV
    match hm : splitV 45 w with
    | [u, v] =>
      rcases loopV_some n ws (acc ++ [⟨readV (lis u), readV (lis v)⟩]) with h | ⟨l, h1, h2⟩
      · exact .inl h
      · exact .inr ⟨⟨readV (lis u), readV (lis v)⟩ :: l, ⟨⟨u, v, hm, rfl⟩, h1⟩, by simpa using h2⟩
    | [] => exact .inl rfl
    | [u] => exact .inl rfl
    | u :: v :: z :: r => exact .inl rfl
theorem readFrom_ge : ∀ (r : List UInt8) (acc : Int), 0 ≤ acc → readFrom acc r = -1 ∨ acc ≤ readFrom acc r
  | [], acc, _ => .inr (Int.le_refl _)
  | c :: r, acc, h => by
    unfold readFrom
    by_cases h1 : (c.toNat : Int) < 48
    · rw [if_pos h1]; exact .inl rfl
    · rw [if_neg h1]
      by_cases h2 : (c.toNat : Int) > 57
      · rw [if_pos h2]; exact .inl rfl
      · rw [if_neg h2]
        rcases readFrom_ge r (10 * acc + ((c.toNat : Int) - 48)) (by omega) with h3 | h3
        · exact .inl h3
        · exact .inr (by omega)
theorem u8_of (c : UInt8) (k : Nat) (h : c.toNat = k) : c = UInt8.ofNat k := by
  subst h
  exact (UInt8.ofNat_toNat).symm
/-- A word that l1Read reads as a number up to 12 is that number's numeral. -/
theorem readV_small (x : List UInt8) (n : Nat) (hn : n < 13) (h : readV x = (n : Int)) : x = numL n := by
  unfold readV at h
  by_cases hc : 1 ≤ x.length ∧ x.length ≤ 6 ∧ ¬ (x.head? = some 48 ∧ 1 < x.length)
  case neg => rw [if_neg hc] at h; omega
  rw [if_pos hc] at h
  obtain ⟨h1, h6, hz⟩ := hc
  match x, h1, h6, hz, h with
  | [c], _, _, _, h =>
    unfold readFrom at h
    by_cases c1 : (c.toNat : Int) < 48
    · rw [if_pos c1] at h; omega
    rw [if_neg c1] at h
    by_cases c2 : (c.toNat : Int) > 57
    · rw [if_pos c2] at h; omega
    rw [if_neg c2] at h
    unfold readFrom at h
    have e : c.toNat = 48 + n := by omega
    unfold numL
    rw [if_pos (by omega), u8_of c _ e]
  | [c, d], _, _, hz, h =>
    unfold readFrom at h
    by_cases c1 : (c.toNat : Int) < 48
    · rw [if_pos c1] at h; omega
    rw [if_neg c1] at h
    by_cases c2 : (c.toNat : Int) > 57
    · rw [if_pos c2] at h; omega
    rw [if_neg c2] at h
    unfold readFrom at h
    by_cases d1 : (d.toNat : Int) < 48
    · rw [if_pos d1] at h; omega
    rw [if_neg d1] at h
    by_cases d2 : (d.toNat : Int) > 57
    · rw [if_pos d2] at h; omega
    rw [if_neg d2] at h
    unfold readFrom at h
    have hc48 : c.toNat ≠ 48 := fun e => hz ⟨by rw [u8_of c _ e]; rfl, by simp⟩
    have ec : c.toNat = 49 := by omega
    have ed : d.toNat = 48 + n % 10 := by omega
    unfold numL
    rw [if_neg (by omega), u8_of c _ ec, u8_of d _ ed]
    rfl
  | c :: d :: e :: r, _, _, hz, h =>
    exfalso
    unfold readFrom at h
    by_cases c1 : (c.toNat : Int) < 48
    · rw [if_pos c1] at h; omega
    rw [if_neg c1] at h
    by_cases c2 : (c.toNat : Int) > 57
    · rw [if_pos c2] at h; omega
    rw [if_neg c2] at h
    unfold readFrom at h
    by_cases d1 : (d.toNat : Int) < 48
    · rw [if_pos d1] at h; omega
    rw [if_neg d1] at h
    by_cases d2 : (d.toNat : Int) > 57
    · rw [if_pos d2] at h; omega
    rw [if_neg d2] at h
    unfold readFrom at h
    by_cases e1 : (e.toNat : Int) < 48
    · rw [if_pos e1] at h; omega
    rw [if_neg e1] at h
    by_cases e2 : (e.toNat : Int) > 57
    · rw [if_pos e2] at h; omega
    rw [if_neg e2] at h
    have hc48 : c.toNat ≠ 48 := fun e => hz ⟨by rw [u8_of c _ e]; rfl, by simp⟩
    rcases readFrom_ge r (10 * (10 * (10 * 0 + ((c.toNat : Int) - 48)) + ((d.toNat : Int) - 48)) + ((e.toNat : Int) - 48)) (by omega) with h3 | h3
    · rw [h3] at h; omega
    · rw [h] at h3; omega

theorem partB_ne (b : UInt8) : ∀ (r cur : List UInt8), partB b cur r ≠ []
  | [], cur => by simp [partB]
  | c :: r, cur => by
    unfold partB
    by_cases h : c = b
    · rw [if_pos h]; simp
    · rw [if_neg h]; exact partB_ne b r _
theorem join_partB (b : UInt8) : ∀ (r cur : List UInt8), Lib.join (partB b cur r) [b] = cur ++ r
  | [], cur => by unfold partB; rw [Lib.join_one]; simp
  | c :: r, cur => by
    unfold partB
    by_cases h : c = b
    · rw [if_pos h, join_ne _ _ _ (partB_ne b r []), join_partB b r [], h]; simp
    · rw [if_neg h, join_partB b r (cur ++ [c])]; simp
theorem splitV_lis (b : UInt8) (s : ByteArray) : (splitV b s).map lis = partB b [] (lis s) := by
  unfold splitV
  rw [List.map_map]
  have : (lis ∘ toBA) = id := by funext x; exact lis_toBA x
  rw [this, List.map_id]
theorem splitV_two (b : UInt8) (s u v : ByteArray) (h : splitV b s = [u, v]) : lis s = lis u ++ b :: lis v := by
  have h1 := splitV_lis b s
  rw [h] at h1
  have h2 := join_partB b (lis s) []
  rw [← h1, List.nil_append] at h2
  rw [← h2, List.map_cons, List.map_cons, List.map_nil, join_ne _ _ _ (by simp), Lib.join_one]
  simp
theorem relW_piece (m : Nat) (hm : m ≤ 12) : ∀ (ws : List ByteArray) (l : List S50), natPairs m l → RelW ws l → ws = l.map piece
  | [], [], _, _ => rfl
  | w :: ws, [], _, h => h.elim
  | [], x :: l, _, h => h.elim
  | w :: ws, x :: l, hn, h => by
    obtain ⟨⟨u, v, hsp, hx⟩, hr⟩ := h
    have ih := relW_piece m hm ws l (fun y hy => hn y (List.mem_cons_of_mem _ hy)) hr
    obtain ⟨a, b, hab, h1, h2⟩ := hn x (List.mem_cons_self ..)
    subst hab
    injection hx with ha hb
    have eu := readV_small (lis u) a (by omega) ha.symm
    have ev := readV_small (lis v) b (by omega) hb.symm
    have hw := splitV_two 45 w u v hsp
    have : w = piece (⟨(a : Int), (b : Int)⟩ : S50) := ba_ext (by rw [hw, lis_piece a b (by omega) (by omega), eu, ev])
    rw [List.map_cons, ← ih, this]
theorem splitV_join (b : UInt8) (s : ByteArray) : lis s = Lib.join ((splitV b s).map lis) [b] := by
  rw [splitV_lis, join_partB, List.nil_append]
theorem specV_some (s : ByteArray) : specV s = zeroP ∨ ∃ (m : Nat) (l : List S50), good (m : Int) l = true ∧ s = text m l := by
  unfold specV
  by_cases h5 : s.size > 500
  · rw [if_pos h5]; exact .inl rfl
  rw [if_neg h5]
  match hm : splitV 58 s with
  | [] => exact .inl rfl
  | [u] => exact .inl rfl
  | u :: v :: z :: r => exact .inl rfl
  | [p, q] =>
    dsimp only
    have hs := splitV_two 58 s p q hm
    by_cases hq : lis q = []
    · rw [if_pos hq]
      by_cases hg : good (readV (lis p)) [] = true
      · obtain ⟨m, he, hm2, hn, ho⟩ := good_nat hg
        rw [he] at hg
        refine .inr ⟨m, [], hg, ba_ext ?_⟩
        rw [hs, hq, lis_text m (by omega), readV_small (lis p) m (by omega) he, lis_txt]
        rfl
      · rw [if_neg hg]; exact .inl rfl
    · rw [if_neg hq]
      rcases loopV_some (readV (lis p)) (splitV 44 q) [] with h | ⟨l, h1, h2⟩
      · exact .inl h
      · rw [List.nil_append] at h2
        obtain ⟨m, he, hm2, hn, ho⟩ := good_nat h2
        rw [he] at h2
        refine .inr ⟨m, l, h2, ba_ext ?_⟩
        have hw := relW_piece m hm2 _ _ hn h1
        have hj := splitV_join 44 q
        rw [hw, ← lis_txt] at hj
        rw [hs, lis_text m (by omega), readV_small (lis p) m (by omega) he, hj]

theorem digits_ne (n : Nat) (hn : n < 13) (c : UInt8) (hc : c.toNat < 48 ∨ 57 < c.toNat) : ∀ x ∈ numL n, x ≠ c := by
  intro x hx e
  have := numL_digit n hn x hx
  subst e
  omega
theorem readV_num : ∀ n : Nat, n < 13 → readV (numL n) = (n : Int) := by decide
theorem partB_run (b : UInt8) : ∀ (p cur r : List UInt8), (∀ x ∈ p, x ≠ b) → partB b cur (p ++ r) = partB b (cur ++ p) r
  | [], cur, r, _ => by simp
  | c :: p, cur, r, h => by
    rw [List.cons_append]
    rw [show partB b cur (c :: (p ++ r)) = (if c = b then cur :: partB b [] (p ++ r) else partB b (cur ++ [c]) (p ++ r)) from rfl]
    rw [if_neg (h c (List.mem_cons_self ..)), partB_run b p (cur ++ [c]) r (fun x hx => h x (List.mem_cons_of_mem _ hx))]
    simp
theorem partB_one (b : UInt8) (p : List UInt8) (h : ∀ x ∈ p, x ≠ b) : partB b [] p = [p] := by
  have := partB_run b p [] [] h
  simp only [List.append_nil, List.nil_append] at this
  rw [this]; rfl
theorem partB_sep (b : UInt8) (p r : List UInt8) (h : ∀ x ∈ p, x ≠ b) : partB b [] (p ++ b :: r) = p :: partB b [] r := by
  rw [partB_run b p [] (b :: r) h, List.nil_append]
  show (if b = b then p :: partB b [] r else _) = _
  rw [if_pos rfl]
theorem partB_join (b : UInt8) : ∀ (r : List (List UInt8)) (p : List UInt8), (∀ q ∈ p :: r, ∀ x ∈ q, x ≠ b) → partB b [] (Lib.join (p :: r) [b]) = p :: r
  | [], p, h => by rw [Lib.join_one]; exact partB_one b p (h p (List.mem_cons_self ..))
  | q :: r, p, h => by
    rw [join_ne p (q :: r) [b] (by simp), List.append_assoc, List.singleton_append, partB_sep b p _ (h p (List.mem_cons_self ..)), partB_join b r q (fun z hz => h z (List.mem_cons_of_mem _ hz))]
theorem splitV_of (b : UInt8) (s : ByteArray) (p : ByteArray) (r : List ByteArray) (hs : lis s = Lib.join ((p :: r).map lis) [b]) (h : ∀ q ∈ p :: r, ∀ x ∈ lis q, x ≠ b) : splitV b s = p :: r := by
  unfold splitV
  rw [hs, List.map_cons, partB_join b (r.map lis) (lis p) (fun q hq x hx => by
    rw [← List.map_cons] at hq
    obtain ⟨z, hz, rfl⟩ := List.mem_map.1 hq
    exact h z hz x hx), ← List.map_cons, List.map_map]
  have : (toBA ∘ lis) = id := by funext x; exact toBA_lis x
  rw [this, List.map_id]
theorem loopV_text (m : Nat) (hm : m ≤ 12) (l : List S50) (hn : natPairs m l) (hg : good (m : Int) l = true) : ∀ (rest acc : List S50), l = acc ++ rest → loopV (rest.map piece) (m : Int) acc = ((m : Int), l, true)
  | [], acc, e => by
    have e2 : l = acc := by rw [e]; simp
    rw [List.map_nil, loopV, ← e2, if_pos hg]
  | x :: rest, acc, e => by
    obtain ⟨a, b, rfl, h1, h2⟩ := hn x (by rw [e]; simp)
    have hsp : splitV 45 (piece (⟨(a : Int), (b : Int)⟩ : S50)) = [num a, num b] := by
      refine splitV_of 45 _ (num a) [num b] ?_ ?_
      · rw [List.map_cons, List.map_cons, List.map_nil, join_ne _ _ _ (by simp), Lib.join_one, lis_piece a b (by omega) (by omega), lis_num a (by omega), lis_num b (by omega)]
        simp
      · intro q hq z hz
        rcases List.mem_cons.1 hq with rfl | hq
        · rw [lis_num a (by omega)] at hz; exact digits_ne a (by omega) 45 (by decide) z hz
        · rcases List.mem_cons.1 hq with rfl | hq
          · rw [lis_num b (by omega)] at hz; exact digits_ne b (by omega) 45 (by decide) z hz
          · cases hq
    have ih := loopV_text m hm l hn hg rest (acc ++ [⟨(a : Int), (b : Int)⟩]) (by rw [e]; simp)
    rw [List.map_cons, loopV, hsp]
    dsimp only
    rw [lis_num a (by omega), lis_num b (by omega), readV_num a (by omega), readV_num b (by omega)]
    exact ih
theorem piece_ne (m : Nat) (hm : m ≤ 12) (l : List S50) (hn : natPairs m l) (c : UInt8) (hc : c.toNat < 45 ∨ 57 < c.toNat) : ∀ x ∈ l, ∀ z ∈ lis (piece x), z ≠ c := by
  intro x hx z hz
  obtain ⟨a, b, rfl, h1, h2⟩ := hn x hx
  rw [lis_piece a b (by omega) (by omega)] at hz
  rcases List.mem_append.1 hz with h | h
  · exact digits_ne a (by omega) c (by omega) z h
  · rcases List.mem_cons.1 h with h | h
    · intro e; subst e; rw [h] at hc; revert hc; decide
    · exact digits_ne b (by omega) c (by omega) z h
theorem txt_ne (m : Nat) (hm : m ≤ 12) (l : List S50) (hn : natPairs m l) : ∀ z ∈ lis (txt l), z ≠ 58 := by
  intro z hz
  rw [lis_txt] at hz
  rcases mem_join 44 _ z hz with h | ⟨p, hp, hx⟩
  · subst h; decide
  · obtain ⟨w, hw, rfl⟩ := List.mem_map.1 hp
    obtain ⟨x, hx2, rfl⟩ := List.mem_map.1 hw
    exact piece_ne m hm l hn 58 (by decide) x hx2 z hx
theorem specV_text (m : Nat) (l : List S50) (hg : good (m : Int) l = true) : specV (text m l) = ((m : Int), l, true) := by
  obtain ⟨m', he, hm, hn, ho⟩ := good_nat hg
  obtain rfl : m = m' := by omega
  obtain ⟨hl, hs⟩ := text_size m l hm hn ho
  have hsp : splitV 58 (text m l) = [num m, txt l] := by
    refine splitV_of 58 _ (num m) [txt l] ?_ ?_
    · rw [List.map_cons, List.map_cons, List.map_nil, join_ne _ _ _ (by simp), Lib.join_one, lis_text m (by omega), lis_num m (by omega)]
      simp
    · intro q hq z hz
      rcases List.mem_cons.1 hq with rfl | hq
      · rw [lis_num m (by omega)] at hz; exact digits_ne m (by omega) 58 (by decide) z hz
      · rcases List.mem_cons.1 hq with rfl | hq
        · exact txt_ne m hm l hn z hz
        · cases hq
  unfold specV
  rw [if_neg (by omega), hsp]
  dsimp only
  rw [lis_num m (by omega), readV_num m (by omega)]
  cases l with
  | nil =>
    rw [if_pos (show lis (txt []) = [] by rw [lis_txt]; rfl), if_pos hg]
  | cons x r =>
    have hsp2 : splitV 44 (txt (x :: r)) = (x :: r).map piece := by
      rw [List.map_cons]
      refine splitV_of 44 _ (piece x) (r.map piece) ?_ ?_
      · rw [lis_txt, List.map_cons]
      · intro q hq z hz
        rw [← List.map_cons] at hq
        obtain ⟨y, hy, rfl⟩ := List.mem_map.1 hq
        exact piece_ne m hm (x :: r) hn 44 (by decide) y hy z hz
    have hne : lis (txt (x :: r)) ≠ [] := by
      intro h
      have h2 := splitV_lis 44 (txt (x :: r))
      rw [h, hsp2] at h2
      have h3 : partB 44 [] [] = [[]] := rfl
      rw [h3, List.map_cons, List.map_cons] at h2
      have h4 := (List.cons.inj h2).1
      obtain ⟨a, b, rfl, h5, h6⟩ := hn x (by simp)
      rw [lis_piece a b (by omega) (by omega)] at h4
      have := congrArg List.length h4
      simp at this
    rw [if_neg hne, hsp2]
    exact loopV_text m hm (x :: r) hn hg (x :: r) [] rfl
theorem parse_same (s : ByteArray) : specV s = implV s := by
  have hz : ∀ (m : Nat) (l : List S50), zeroP ≠ ((m : Int), l, true) := fun m l h => by
    have := congrArg (fun z : PRes => z.2.2) h
    cases this
  rcases specV_some s with h1 | ⟨m, l, hg, hs⟩
  · rcases implV_some s with h2 | ⟨m, l, hg, hs⟩
    · rw [h1, h2]
    · subst hs
      rw [specV_text m l hg] at h1
      exact absurd h1.symm (hz m l)
  · subst hs
    rw [specV_text m l hg, implV_text m l hg]
theorem bt_nat (s : ByteArray) (i : Nat) (h : i < s.size) : bt s (i : Int) = ((s[i]'h).toNat : Int) := by
  unfold bt
  rw [dif_pos (show ((i : Nat) : Int).toNat < s.size by omega)]
  rfl
theorem l1In_f (a lo hi : Int) : spec_l1In.f a lo hi = some (decide (lo ≤ a) && decide (a ≤ hi)) := by
  unfold spec_l1In.f
  by_cases h : lo ≤ a
  · rw [if_pos h]; simp [h]
  · rw [if_neg h]; simp [h]
theorem l1Read_l0 (x : ByteArray) (hx : x.size ≤ 6) : ∀ (d i : Nat) (acc : Int), i + d = x.size → 0 ≤ acc → acc < ((10 ^ i : Nat) : Int) → Ev (fun k => spec_l1Read.l0 k x acc (i : Int)) (readFrom acc ((lis x).drop i))
  | 0, i, acc, hd, h0, h1 => by
    have e : (lis x).drop i = [] := List.drop_eq_nil_of_le (by rw [lis_len]; omega)
    refine Ev.one fun k => ?_
    rw [spec_l1Read.l0, if_neg (by omega), e]
    rfl
  | d + 1, i, acc, hd, h0, h1 => by
    have hi : i < x.size := by omega
    obtain ⟨c, hc⟩ : ∃ c, x[i]'hi = c := ⟨_, rfl⟩
    have hdr : (lis x).drop i = c :: (lis x).drop (i + 1) := by rw [← hc]; exact lis_at x i hi
    have hb : bt x (i : Int) = (c.toNat : Int) := by rw [bt_nat x i hi, hc]
    have hw : wrap64 ((i : Int) + 1) = ((i + 1 : Nat) : Int) := by unfold wrap64; omega
    have hp1 : (10 : Nat) ^ (i + 1) = 10 * 10 ^ i := by rw [Nat.pow_succ]; omega
    have hp2 : (10 : Nat) ^ i ≤ 10 ^ 6 := Nat.pow_le_pow_right (by omega) (by omega)
    rw [hdr]
    unfold readFrom
    by_cases c1 : (c.toNat : Int) < 48
    · rw [if_pos c1]
      refine Ev.one fun k => ?_
      rw [spec_l1Read.l0, if_pos (by omega), if_pos (by omega), hb, if_pos c1]
    rw [if_neg c1]
    by_cases c2 : (c.toNat : Int) > 57
    · rw [if_pos c2]
      refine Ev.one fun k => ?_
      rw [spec_l1Read.l0, if_pos (by omega), if_pos (by omega), hb, if_neg c1, if_pos c2]
    rw [if_neg c2]
    have hv : wrap64 ((wrap64 (10 * acc)) + (((c.toNat : Int) - 48) % 256)) = 10 * acc + ((c.toNat : Int) - 48) := by
      unfold wrap64; omega
    refine Ev.step (fun k => ?_) (l1Read_l0 x hx d (i + 1) (10 * acc + ((c.toNat : Int) - 48)) (by omega) (by omega) (by rw [hp1]; omega))
    rw [spec_l1Read.l0, if_pos (by omega), if_pos (by omega), hb, if_neg c1, if_neg c2, hv, hw]
theorem l1Read_ev (x : ByteArray) : Ev (fun k => spec_l1Read.f k x) (readV (lis x)) := by
  have hlen := lis_len x
  unfold spec_l1Read.f
  rw [l1In_f]
  simp only [Option.bind_some]
  by_cases h1 : 1 ≤ x.size ∧ x.size ≤ 6
  · have e : (decide ((1 : Int) ≤ (x.size : Int)) && decide ((x.size : Int) ≤ 6)) = true := by
      rw [Bool.and_eq_true, decide_eq_true_eq, decide_eq_true_eq]; omega
    simp only [e, if_true]
    simp only [if_pos (show (0 : Int) < (x.size : Int) by omega)]
    have hb : bt x 0 = ((x[0]'(by omega)).toNat : Int) := bt_nat x 0 (by omega)
    have hl0 : lis x = x[0]'(by omega) :: (lis x).drop 1 := lis_at x 0 (by omega)
    have hh : (lis x).head? = some (x[0]'(by omega)) := by rw [hl0]; rfl
    have hz := l1Read_l0 x h1.2 x.size 0 0 (by omega) (Int.le_refl _) (by simp)
    rw [List.drop_zero] at hz
    unfold readV
    rw [hh, hlen]
    by_cases h48 : (x[0]'(by omega)).toNat = 48
    · have h48' : x[0]'(by omega) = 48 := u8_of _ 48 h48
      simp only [hb, h48, if_pos (show (((48 : Nat) : Int)) = 48 from rfl)]
      by_cases hs : 1 < x.size
      · rw [if_neg (show ¬ (1 ≤ x.size ∧ x.size ≤ 6 ∧ ¬ (some (x[0]'(by omega)) = some 48 ∧ 1 < x.size)) from fun h => h.2.2 ⟨by rw [h48'], hs⟩)]
        refine Ev.one fun k => ?_
        rw [spec_l1Read.j0, if_pos (by rw [decide_eq_true_eq]; omega)]
      · rw [if_pos (show 1 ≤ x.size ∧ x.size ≤ 6 ∧ ¬ (some (x[0]'(by omega)) = some 48 ∧ 1 < x.size) from ⟨h1.1, h1.2, fun h => hs h.2⟩)]
        refine Ev.step (fun k => ?_) hz
        rw [spec_l1Read.j0, if_neg (by rw [decide_eq_true_eq]; omega)]
        rfl
    · have h48' : ¬ some (x[0]'(by omega)) = some 48 := fun h => h48 (by rw [Option.some.inj h]; rfl)
      simp only [hb, if_neg (show ¬ ((x[0]'(by omega)).toNat : Int) = 48 by omega)]
      rw [if_pos (show 1 ≤ x.size ∧ x.size ≤ 6 ∧ ¬ (some (x[0]'(by omega)) = some 48 ∧ 1 < x.size) from ⟨h1.1, h1.2, fun h => h48' h.1⟩)]
      refine Ev.step (fun k => ?_) hz
      rw [spec_l1Read.j0, if_neg (by simp)]
      rfl
  · have e : (decide ((1 : Int) ≤ (x.size : Int)) && decide ((x.size : Int) ≤ 6)) = false := by
      rw [Bool.and_eq_false_iff, decide_eq_false_iff_not, decide_eq_false_iff_not]; omega
    simp only [e, Bool.false_eq_true, if_false]
    unfold readV
    rw [hlen, if_neg (fun h => h1 ⟨h.1, h.2.1⟩)]
    refine Ev.one fun k => ?_
    rw [spec_l1Read.j0, if_pos rfl]

theorem ext_toBA (s : ByteArray) (a e : Nat) : s.extract a e = toBA (((lis s).drop a).take (e - a)) := by
  apply ba_ext
  rw [lis_toBA]
  unfold lis
  exact lisx s a e
theorem l1Split_l0 (s : ByteArray) (hs : s.size ≤ 1048576) (b : UInt8) : ∀ (d i from' : Nat) (acc : List ByteArray), i + d = s.size → from' ≤ i → acc.length ≤ i → Ev (fun k => spec_l1Split.l0 k s (b.toNat : Int) acc (from' : Int) (i : Int)) (acc ++ (partB b (((lis s).drop from').take (i - from')) ((lis s).drop i)).map toBA)
  | 0, i, from', acc, hd, hf, ha => by
    refine Ev.one fun k => ?_
    have hi : i = s.size := by omega
    have e : (lis s).drop i = [] := List.drop_eq_nil_of_le (by rw [lis_len]; omega)
    rw [spec_l1Split.l0, if_neg (by omega), if_pos (by omega), if_pos (by omega), if_pos (by omega), e]
    show some (acc ++ [_]) = some (acc ++ [_])
    rw [ext_toBA, Int.toNat_natCast, hi]
  | d + 1, i, from', acc, hd, hf, ha => by
    have hi : i < s.size := by omega
    obtain ⟨c, hc⟩ : ∃ c, s[i]'hi = c := ⟨_, rfl⟩
    have hdr : (lis s).drop i = c :: (lis s).drop (i + 1) := by rw [← hc]; exact lis_at s i hi
    have hb : bt s (i : Int) = (c.toNat : Int) := by rw [bt_nat s i hi, hc]
    have hw : wrap64 ((i : Int) + 1) = ((i + 1 : Nat) : Int) := by unfold wrap64; omega
    rw [hdr]
    by_cases h : c = b
    · have hp : partB b (((lis s).drop from').take (i - from')) (c :: (lis s).drop (i + 1)) = (((lis s).drop from').take (i - from')) :: partB b [] ((lis s).drop (i + 1)) := by
        show (if c = b then _ else _) = _
        rw [if_pos h]
      have ih := l1Split_l0 s hs b d (i + 1) (i + 1) (acc ++ [s.extract from' i]) (by omega) (Nat.le_refl _) (by rw [List.length_append]; simp; omega)
      rw [Nat.sub_self, List.take_zero] at ih
      refine Ev.cast (Ev.step (fun k => ?_) ih) ?_
      · rw [spec_l1Split.l0, if_pos (by omega), if_pos (by omega), hb, if_pos (by rw [h]), if_pos (by omega), if_pos (by omega), if_pos (by omega), if_pos (by omega), hw, Int.toNat_natCast, Int.toNat_natCast]
      · rw [hp, List.map_cons, ext_toBA, List.append_assoc]; rfl
    · have hne : ¬ (c.toNat : Int) = (b.toNat : Int) := fun e => h (by
        have : c.toNat = b.toNat := by omega
        exact UInt8.toNat_inj.1 this)
      have hp : partB b (((lis s).drop from').take (i - from')) (c :: (lis s).drop (i + 1)) = partB b ((((lis s).drop from').take (i - from')) ++ [c]) ((lis s).drop (i + 1)) := by
        show (if c = b then _ else _) = _
        rw [if_neg h]
      have ih := l1Split_l0 s hs b d (i + 1) from' acc (by omega) (by omega) (by omega)
      have hu : ((lis s).drop from').take (i + 1 - from') = ((lis s).drop from').take (i - from') ++ [c] := by rw [← hc]; exact lis_up s from' i hi hf
      rw [hu] at ih
      refine Ev.cast (Ev.step (fun k => ?_) ih) ?_
      · rw [spec_l1Split.l0, if_pos (by omega), if_pos (by omega), hb, if_neg hne, hw]
      · rw [hp]
theorem l1Split_ev (s : ByteArray) (hs : s.size ≤ 1048576) (b : UInt8) (n : Int) (hn : n = (b.toNat : Int)) : Ev (fun k => spec_l1Split.f k s n) (splitV b s) := by
  subst hn
  have := l1Split_l0 s hs b s.size 0 0 [] (by omega) (Nat.le_refl _) (Nat.le_refl _)
  unfold spec_l1Split.f
  exact this
theorem below_all (m : Nat) (h : m ≤ 12) : Int.tdiv ((m : Int) * ((m : Int) - 1)) 2 = (below m m : Int) := by
  have : m = 0 ∨ m = 1 ∨ m = 2 ∨ m = 3 ∨ m = 4 ∨ m = 5 ∨ m = 6 ∨ m = 7 ∨ m = 8 ∨ m = 9 ∨ m = 10 ∨ m = 11 ∨ m = 12 := by omega
  rcases this with rfl | rfl | rfl | rfl | rfl | rfl | rfl | rfl | rfl | rfl | rfl | rfl | rfl <;> rfl
theorem paLess_f (p x : S50) : spec_paLess.f p.f0 p.f1 x.f0 x.f1 = some (lt2 p x) := by
  unfold spec_paLess.f lt2
  by_cases h : p.f0 < x.f0
  · simp [h]
  · by_cases h2 : p.f0 = x.f0
    · simp [h2]
    · simp [h, h2]
theorem paGood_l0 (m : Nat) (hm : m ≤ 12) (l : List S50) (hl : l.length < 4611686018427387904) : ∀ (rest pre : List S50), l = pre ++ rest → Ev (fun k => spec_paGood.l0 k l (l.length : Int) (pre.length : Int) (m : Int) l) (okFrom m pre.getLast? rest)
  | [], pre, h => by
    refine Ev.one (fun k => ?_)
    have e : l.length = pre.length := by rw [h]; simp
    rw [spec_paGood.l0, if_neg (by omega)]
    simp [okFrom]
  | x :: rest, pre, h => by
    have hlen : pre.length < l.length := by rw [h]; simp
    have hx : rd_T50 l (pre.length : Int) = x := by rw [h]; exact rdT_mid pre rest x
    have ih := paGood_l0 m hm l hl rest (pre ++ [x]) (by rw [h]; simp)
    rw [List.getLast?_concat, List.length_append, List.length_singleton] at ih
    have em : wrap64 ((m : Int) - 1) = (m : Int) - 1 := w64 (by omega) (by omega)
    by_cases c1 : 0 ≤ x.f0 ∧ x.f0 ≤ (m : Int) - 1
    · have e1 : wrap64 (x.f0 + 1) = x.f0 + 1 := w64 (by omega) (by omega)
      have b1 : (decide (0 ≤ x.f0) && decide (x.f0 ≤ (m : Int) - 1)) = true := by simp; exact c1
      by_cases c2 : x.f0 + 1 ≤ x.f1 ∧ x.f1 ≤ (m : Int) - 1
      · have b2 : (decide (x.f0 + 1 ≤ x.f1) && decide (x.f1 ≤ (m : Int) - 1)) = true := by simp; exact c2
        have d1 : decide (0 ≤ x.f0) = true := by simp; omega
        have d2 : decide (x.f0 < x.f1) = true := by simp; omega
        have d3 : decide (x.f1 < (m : Int)) = true := by simp; omega
        rcases List.eq_nil_or_concat pre with rfl | ⟨q, p, rfl⟩
        · refine Ev.cast (Ev.step (fun k => ?_) ih) ?_
          · rw [spec_paGood.l0, if_pos (by omega), if_pos (by omega), if_pos (by omega), hx, em, e1, l1In_f, l1In_f, b1, b2]
            simp only [Option.bind_some, if_true]
            rw [if_neg (by simp), w1 (by simp)]
          · simp [okFrom, d1, d2, d3, okPrev]
        · rw [List.concat_eq_append] at hlen hx ih h ⊢
          have hp : rd_T50 l (q.length : Int) = p := by rw [h, List.append_assoc]; exact rdT_mid q (x :: rest) p
          have hq : (q ++ [p]).length = q.length + 1 := by simp
          rw [hq] at hlen hx ih ⊢
          rw [List.getLast?_concat]
          cases hlt : lt2 p x with
          | true =>
            refine Ev.cast (Ev.step (fun k => ?_) ih) ?_
            · rw [spec_paGood.l0, if_pos (by omega), if_pos (by omega), if_pos (by omega), hx, em, e1, l1In_f, l1In_f, b1, b2]
              simp only [Option.bind_some, if_true]
              rw [if_pos (by omega), w64 (i := ((q.length + 1 : Nat) : Int) - 1) (by omega) (by omega), show ((q.length + 1 : Nat) : Int) - 1 = (q.length : Int) by omega, if_pos (by omega), if_pos (by omega), hp, paLess_f, hlt, w1 (by omega)]
              rfl
            · simp [okFrom, d1, d2, d3, okPrev, hlt]
          | false =>
            refine Ev.one (fun k => ?_)
            rw [spec_paGood.l0, if_pos (by omega), if_pos (by omega), if_pos (by omega), hx, em, e1, l1In_f, l1In_f, b1, b2]
            simp only [Option.bind_some, if_true]
            rw [if_pos (by omega), w64 (i := ((q.length + 1 : Nat) : Int) - 1) (by omega) (by omega), show ((q.length + 1 : Nat) : Int) - 1 = (q.length : Int) by omega, if_pos (by omega), if_pos (by omega), hp, paLess_f, hlt]
            simp [okFrom, okPrev, hlt]
      · refine Ev.one (fun k => ?_)
        have b2 : (decide (x.f0 + 1 ≤ x.f1) && decide (x.f1 ≤ (m : Int) - 1)) = false := by simp; omega
        rw [spec_paGood.l0, if_pos (by omega), if_pos (by omega), if_pos (by omega), hx, em, e1, l1In_f, l1In_f, b1, b2]
        have : (decide (x.f0 < x.f1) && decide (x.f1 < (m : Int))) = false := by simp; omega
        simp only [okFrom, ← Bool.and_assoc (decide (x.f0 < x.f1)), this]
        simp
    · refine Ev.one (fun k => ?_)
      have b1 : (decide (0 ≤ x.f0) && decide (x.f0 ≤ (m : Int) - 1)) = false := by simp; omega
      rw [spec_paGood.l0, if_pos (by omega), if_pos (by omega), if_pos (by omega), hx, em, l1In_f, b1]
      have : (decide (0 ≤ x.f0) && (decide (x.f0 < x.f1) && (decide (x.f1 < (m : Int)) && okPrev pre.getLast? x))) = false := by
        by_cases z0 : 0 ≤ x.f0
        · by_cases z1 : x.f0 < x.f1
          · have : ¬ x.f1 < (m : Int) := by omega
            simp [this]
          · simp [z1]
        · simp [z0]
      simp [okFrom, this]
theorem paPeople_f (a : Int) : spec_paPeople.f a = some (decide (0 ≤ a ∧ a ≤ 12)) := by
  unfold spec_paPeople.f
  rw [l1In_f]; simp [Bool.decide_and]
theorem paGood_ev (n : Int) (l : List S50) (hl : l.length < 4611686018427387904) : Ev (fun k => spec_paGood.f k n l) (good n l) := by
  unfold spec_paGood.f
  rw [paPeople_f]
  by_cases h : 0 ≤ n ∧ n ≤ 12
  · obtain ⟨m, rfl⟩ := Int.eq_ofNat_of_zero_le h.1
    have hm : m ≤ 12 := by omega
    have hc : crowd (m : Int) = true := by unfold crowd; simp; omega
    have hmul : (m : Int) * ((m : Int) - 1) ≤ 144 := by
      have : m = 0 ∨ m = 1 ∨ m = 2 ∨ m = 3 ∨ m = 4 ∨ m = 5 ∨ m = 6 ∨ m = 7 ∨ m = 8 ∨ m = 9 ∨ m = 10 ∨ m = 11 ∨ m = 12 := by omega
      rcases this with rfl | rfl | rfl | rfl | rfl | rfl | rfl | rfl | rfl | rfl | rfl | rfl | rfl <;> decide
    have hmul0 : 0 ≤ (m : Int) * ((m : Int) - 1) := by
      have : m = 0 ∨ m = 1 ∨ m = 2 ∨ m = 3 ∨ m = 4 ∨ m = 5 ∨ m = 6 ∨ m = 7 ∨ m = 8 ∨ m = 9 ∨ m = 10 ∨ m = 11 ∨ m = 12 := by omega
      rcases this with rfl | rfl | rfl | rfl | rfl | rfl | rfl | rfl | rfl | rfl | rfl | rfl | rfl <;> decide
    have hb : (below m m : Int) ≤ 144 := by
      have : m = 0 ∨ m = 1 ∨ m = 2 ∨ m = 3 ∨ m = 4 ∨ m = 5 ∨ m = 6 ∨ m = 7 ∨ m = 8 ∨ m = 9 ∨ m = 10 ∨ m = 11 ∨ m = 12 := by omega
      rcases this with rfl | rfl | rfl | rfl | rfl | rfl | rfl | rfl | rfl | rfl | rfl | rfl | rfl <;> decide
    have e : wrap64 (Int.tdiv (wrap64 ((m : Int) * (wrap64 ((m : Int) - 1)))) 2) = (below m m : Int) := by
      rw [w64 (i := (m : Int) - 1) (by omega) (by omega), w64 (i := (m : Int) * ((m : Int) - 1)) (by omega) (by omega), below_all m hm, w64 (by omega) (by omega)]
    simp only [h, decide_true, Option.bind_some, if_true, e, and_self]
    unfold good
    rw [hc, Bool.true_and]
    by_cases hlen : l.length ≤ below m m
    · refine Ev.step (fun k => ?_) (paGood_l0 m hm l hl l [] rfl)
      have : decide ((l.length : Int) > (below m m : Int)) = false := by simp; omega
      rw [this, spec_paGood.j0, if_neg (by decide)]
      rfl
    · refine Ev.one (fun k => ?_)
      have : decide ((l.length : Int) > (below m m : Int)) = true := by simp; omega
      rw [this, spec_paGood.j0, if_pos rfl]
      have hn : okFrom (m : Int) none l = false := by
        cases hok : okFrom (m : Int) none l with
        | false => rfl
        | true => exact absurd (good_len m l hok) hlen
      rw [hn]
  · have hc : crowd n = false := by unfold crowd; simp; omega
    simp only [h, decide_false, Option.bind_some]
    unfold good
    rw [hc]
    refine Ev.one (fun k => ?_)
    rw [if_neg (by decide), spec_paGood.j0]; simp

theorem rdOf_mid (pre rest : List ByteArray) (w : ByteArray) : rdOf ByteArray.empty (pre ++ w :: rest) (pre.length : Int) = w := by
  unfold rdOf
  simp [List.getD_eq_getElem?_getD]
theorem paLoop_ev (n : Int) (ws : List ByteArray) (hl : ws.length ≤ 1048577) (hsz : ∀ w ∈ ws, w.size ≤ 1048576) : ∀ (rest pre : List ByteArray) (acc : List S50), ws = pre ++ rest → acc.length ≤ pre.length → Ev (fun k => spec_paParse.l0 k ws (ws.length : Int) (pre.length : Int) n acc) (loopV rest n acc)
  | [], pre, acc, e, ha => by
    have e2 : ws = pre := by rw [e]; simp
    have hg := paGood_ev n acc (by rw [e2] at hl; omega)
    refine Ev.step (f := fun k => (spec_paGood.f k n acc).bind fun t140 => if t140 = true then some (n, acc, true) else some (0, ([] : List S50), false)) (fun k => ?_) ?_
    · rw [spec_paParse.l0, if_neg (by rw [e2]; omega)]
    · refine Ev.bind hg ?_
      unfold loopV zeroP
      cases good n acc with
      | true => simp only [if_true]; exact Ev.now _
      | false => simp only [Bool.false_eq_true, if_false]; exact Ev.now _
  | w :: rest, pre, acc, e, ha => by
    have hlen : ws.length = pre.length + (rest.length + 1) := by rw [e]; simp
    have hx : rdOf ByteArray.empty ws (pre.length : Int) = w := by rw [e]; exact rdOf_mid pre rest w
    have hsw := hsz w (by rw [e]; simp)
    have hsp := l1Split_ev w hsw 45 45 rfl
    have hw : wrap64 ((pre.length : Int) + 1) = ((pre ++ [w]).length : Int) := by rw [List.length_append, List.length_singleton]; unfold wrap64; omega
    refine Ev.step (fun k => by rw [spec_paParse.l0, if_pos (by omega), if_pos (by omega), if_pos (by omega), hx, hw]) ?_
    refine Ev.bind hsp ?_
    unfold loopV
    match hm : splitV 45 w with
    | [u, v] =>
      have ih := paLoop_ev n ws hl hsz rest (pre ++ [w]) (acc ++ [⟨readV (lis u), readV (lis v)⟩]) (by rw [e]; simp) (by rw [List.length_append, List.length_append]; simp; omega)
      simp only [List.length_cons, List.length_nil, show (((0 + 1 + 1 : Nat)) : Int) = 2 from rfl, if_true, show ((0 : Int) < 2) from by decide, show ((1 : Int) < 2) from by decide]
      refine Ev.bind (l1Read_ev u) ?_
      refine Ev.bind (l1Read_ev v) ?_
      simp only [if_pos (show acc.length < 8796093022208 by omega)]
      exact ih
    | [] =>
      simp only [List.length_nil]
      exact Ev.now _
    | [u] =>
      simp only [List.length_cons, List.length_nil]
      exact Ev.now _
    | u :: v :: z :: r =>
      simp only [List.length_cons, if_neg (show ¬ (((r.length + 1 + 1 + 1 : Nat) : Int) = 2) by omega)]
      exact Ev.now _
theorem partB_len (b : UInt8) : ∀ (r cur : List UInt8), (partB b cur r).length ≤ r.length + 1
  | [], cur => by simp [partB]
  | c :: r, cur => by
    unfold partB
    by_cases h : c = b
    · rw [if_pos h]
      have := partB_len b r []
      simp only [List.length_cons]; omega
    · rw [if_neg h]
      have := partB_len b r (cur ++ [c])
      simp only [List.length_cons]; omega
theorem splitV_len (b : UInt8) (s : ByteArray) : (splitV b s).length ≤ s.size + 1 := by
  unfold splitV
  rw [List.length_map, ← lis_len]
  exact partB_len b _ _
theorem splitV_size (b : UInt8) (s w : ByteArray) (hw : w ∈ splitV b s) : w.size ≤ s.size := by
  unfold splitV at hw
  obtain ⟨p, hp, rfl⟩ := List.mem_map.1 hw
  have hj := join_partB b (lis s) []
  rw [List.nil_append] at hj
  have hl : ∀ (ps : List (List UInt8)) (p : List UInt8), p ∈ ps → p.length ≤ (Lib.join ps [b]).length := by
    intro ps
    induction ps with
    | nil => intro p hp; cases hp
    | cons x r ih =>
      intro p hp
      cases r with
      | nil =>
        rw [Lib.join_one]
        rcases List.mem_cons.1 hp with rfl | h
        · exact Nat.le_refl _
        · cases h
      | cons y r =>
        rw [join_ne x (y :: r) [b] (by simp), List.length_append, List.length_append]
        rcases List.mem_cons.1 hp with rfl | h
        · omega
        · have := ih p h; omega
  have := hl _ p hp
  rw [hj, lis_len] at this
  rw [← lis_len, lis_toBA]
  exact this
theorem specParse_ev (s : ByteArray) (hs : s.size ≤ 1048576) : Ev (fun k => spec_ParseParty.f k s) (specV s) := by
  unfold spec_ParseParty.f
  have key : Ev (fun k => spec_paParse.f k s) (specV s) := by
    unfold spec_paParse.f
    refine Ev.bind (l1Split_ev s hs 58 58 rfl) ?_
    unfold specV
    by_cases h5 : s.size > 500
    · simp only [if_pos (show (s.size : Int) > 500 by omega), if_pos h5]
      refine Ev.one fun k => ?_
      rw [spec_paParse.j0, if_pos rfl]
      rfl
    simp only [if_neg (show ¬ (s.size : Int) > 500 by omega), if_neg h5]
    match hm : splitV 58 s with
    | [p, q] =>
      have hq : q.size ≤ s.size := splitV_size 58 s q (by rw [hm]; simp)
      have hp := l1Read_ev p
      have r0 : rdOf ByteArray.empty [p, q] 0 = p := rfl
      have r1 : rdOf ByteArray.empty [p, q] 1 = q := rfl
      refine Ev.step (f := fun k => (spec_l1Read.f k p).bind fun t132 => if q.toList = ([] : List UInt8) then ((spec_paGood.f k t132 ([] : List S50)).bind fun t135 => if t135 = true then some (t132, ([] : List S50), true) else some (0, ([] : List S50), false)) else ((spec_l1Split.f k q 44).bind fun t137 => spec_paParse.l0 k t137 (t137.length : Int) 0 t132 ([] : List S50))) (fun k => ?_) ?_
      · rw [spec_paParse.j0, r0, r1, if_neg (by simp), if_pos (by simp)]
        simp only [List.length_cons, List.length_nil, show ((1 : Int) < ((0 + 1 + 1 : Nat) : Int)) from by decide, if_true]
      · refine Ev.bind hp ?_
        have hql : q.toList = lis q := ByteArray.toList_eq q
        dsimp only
        rw [hql]
        by_cases hz : lis q = []
        · simp only [if_pos hz]
          refine Ev.bind (paGood_ev (readV (lis p)) [] (by simp)) ?_
          cases good (readV (lis p)) [] with
          | true => simp only [if_true]; exact Ev.now _
          | false => simp only [Bool.false_eq_true, if_false]; exact Ev.now _
        · simp only [if_neg hz]
          refine Ev.bind (l1Split_ev q (by omega) 44 44 rfl) ?_
          have hl2 := splitV_len 44 q
          exact paLoop_ev (readV (lis p)) (splitV 44 q) (by omega) (fun w hw => Nat.le_trans (splitV_size 44 q w hw) (by omega)) (splitV 44 q) [] [] rfl (Nat.le_refl _)
    | [] =>
      refine Ev.one fun k => ?_
      rw [spec_paParse.j0, if_pos (by simp)]
      rfl
    | [u] =>
      refine Ev.one fun k => ?_
      rw [spec_paParse.j0, if_pos (by simp)]
      rfl
    | u :: v :: z :: r =>
      refine Ev.one fun k => ?_
      rw [spec_paParse.j0, if_pos (by simp only [List.length_cons, bne_iff_ne]; omega)]
      rfl
  exact Ev.bind key (Ev.now _)

theorem FnExactParseParty : laws_FnExactParseParty.Pure := by
  intro a0 h0
  refine Ev.rounds ?_
  unfold laws_FnExactParseParty.f
  by_cases hbig : (a0.size : Int) > 1048576
  · simp only [if_pos hbig]; exact Ev.now _
  simp only [if_neg hbig]
  have hs := specParse_ev a0 (by omega)
  have hi := implParse_ev a0 (by omega)
  have hl := implV_len a0 (by omega)
  rw [parse_same] at hs
  generalize implV a0 = R at hs hi hl
  refine Ev.bind hs ?_
  refine Ev.bind hi ?_
  refine Ev.bind (eqParty_self R.1 R.2.1 (by omega)) ?_
  simp only [if_true, bne_self_eq_false]
  refine Ev.step (fun k => rfl) ?_
  simp only [laws_FnExactParseParty.j0, Bool.false_eq_true, if_false]
  obtain ⟨zm, hzm, hmm, hEm⟩ := markParty_ev R.1 R.2.1 1 (by omega) (by omega)
  refine Ev.bind hEm ?_
  refine Ev.bind (heldParty_ev R.1 zm 1 (by omega) (by omega) hmm) ?_
  simp only [hzm, if_neg (show ¬ ((1 + 2 * (R.2.1.length : Int)) < 0) by omega), if_true]
  refine Ev.bind hi ?_
  refine Ev.bind (eqParty_self R.1 R.2.1 (by omega)) ?_
  simp only [if_true, bne_self_eq_false]
  refine Ev.step (fun k => rfl) ?_
  simp only [laws_FnExactParseParty.j1, Bool.false_eq_true, if_false]
  refine Ev.bind (heldParty_ev R.1 zm 1 (by omega) (by omega) hmm) ?_
  simp only [hzm, if_neg (show ¬ ((1 + 2 * (R.2.1.length : Int)) < 0) by omega), if_true]
  exact Ev.now _
end Go.Proofs.YtoedkkoafidalaaDoor.Pure
