/- The program's PartyText returns what the reference's returns, for all arguments (the plain statement behind the printed walk); no condition. -/
import Derived.Test.YtoedkkoafidalaaDoorPx0
import Derived.Test.YtoedkkoafidalaaDoorPx1
import Derived.Test.YtoedkkoafidalaaDoorPx2
import Derived.Test.YtoedkkoafidalaaDoorPx3
namespace Go.Proofs.YtoedkkoafidalaaDoor.Pure
open Go.RowKit Go.Proofs.YtoedkkoafidalaaDoor.P Go.Proofs.YtoedkkoafidalaaDoorW.PrintWords Go.Proofs.YtoedkkoafidalaaDoorW.PrintLast
set_option linter.unusedSimpArgs false
set_option linter.unusedVariables false
def crowd (n : Int) : Bool := decide (0 ≤ n ∧ n ≤ 12)
def lt2 (p q : S50) : Bool := decide (p.f0 < q.f0) || (decide (p.f0 = q.f0) && decide (p.f1 < q.f1))
def okPrev : Option S50 → S50 → Bool
  | none, _ => true
  | some p, x => lt2 p x
def okFrom (n : Int) : Option S50 → List S50 → Bool
  | _, [] => true
  | prev, x :: xs => (decide (0 ≤ x.f0) && (decide (x.f0 < x.f1) && (decide (x.f1 < n) && okPrev prev x))) && okFrom n (some x) xs
def good (n : Int) (l : List S50) : Bool := crowd n && okFrom n none l
def natPairs (m : Nat) (l : List S50) : Prop := ∀ x ∈ l, ∃ a b : Nat, x = ⟨(a : Int), (b : Int)⟩ ∧ a < b ∧ b < m
theorem okFrom_nat (m : Nat) : ∀ (l : List S50) (p : Option S50), okFrom (m : Int) p l = true → natPairs m l
  | [], _, _ => fun x hx => by simp at hx
  | x :: xs, p, h => by
    simp only [okFrom, Bool.and_eq_true, decide_eq_true_eq] at h
    obtain ⟨⟨h0, h1, h2, _⟩, h3⟩ := h
    intro y hy
    rcases List.mem_cons.1 hy with rfl | hy
    · refine ⟨y.f0.toNat, y.f1.toNat, ?_, by omega, by omega⟩
      rw [Int.toNat_of_nonneg h0, Int.toNat_of_nonneg (by omega)]
    · exact okFrom_nat m xs _ h3 y hy
theorem good_nat {n : Int} {l : List S50} (h : good n l = true) : ∃ m : Nat, n = (m : Int) ∧ m ≤ 12 ∧ natPairs m l ∧ okFrom (m : Int) none l = true := by
  unfold good crowd at h
  simp only [Bool.and_eq_true, decide_eq_true_eq] at h
  obtain ⟨⟨h0, h1⟩, h2⟩ := h
  obtain ⟨m, rfl⟩ := Int.eq_ofNat_of_zero_le h0
  exact ⟨m, rfl, by omega, okFrom_nat m l none h2, h2⟩
theorem Ev.one {α : Type} {g : Nat → Option α} {r : α} (h : ∀ k, g (k + 1) = some r) : Ev g r := Ev.step h (Ev.now r)
theorem ba_size (a b : ByteArray) : (a ++ b).size = a.size + b.size := ByteArray.size_append
def num (n : Nat) : ByteArray := ⟨(Lib.decDigits n).toArray⟩
theorem itoa_f (n : Nat) (h : n < 20) : strconv_Itoa_33.f (n : Int) = some (num n) := by
  unfold strconv_Itoa_33.f
  rw [if_pos (by omega), Int.toNat_natCast]; rfl
def lis (x : ByteArray) : List UInt8 := x.data.toList
theorem lis_len (x : ByteArray) : (lis x).length = x.size := by
  unfold lis
  rw [Array.length_toList]; rfl
def piece (x : S50) : ByteArray := (num x.f0.toNat ++ (⟨#[45]⟩ : ByteArray)) ++ num x.f1.toNat
/-- The text behind the colon, as far as a list of pairs goes. -/
def txt (l : List S50) : ByteArray := ⟨(Lib.join ((l.map piece).map lis) [44]).toArray⟩
theorem lis_txt (l : List S50) : lis (txt l) = Lib.join ((l.map piece).map lis) [44] := by unfold lis txt; rfl
theorem num_one (n : Nat) (h : n < 10) : num n = ⟨#[UInt8.ofNat (48 + n)]⟩ := by
  unfold num
  rw [Lib.decDigits, dif_pos h]
theorem num_two (n : Nat) (h : 10 ≤ n) (h2 : n < 20) : num n = ⟨#[49]⟩ ++ ⟨#[UInt8.ofNat (48 + n % 10)]⟩ := by
  unfold num
  rw [Lib.decDigits, dif_neg (by omega), Lib.decDigits, dif_pos (by omega), show n / 10 = 1 by omega]
  rfl
theorem num_size (n : Nat) (h : n < 20) : (num n).size ≤ 2 := by
  by_cases h1 : n < 10
  · rw [num_one n h1]; show 1 ≤ 2; omega
  · rw [num_two n (by omega) h]; show 2 ≤ 2; omega
theorem rdT_mid (pre rest : List S50) (x : S50) : rd_T50 (pre ++ x :: rest) (pre.length : Int) = x := by
  unfold rd_T50
  simp [List.getD_eq_getElem?_getD]
theorem piece_size (m : Nat) (hm : m ≤ 12) (x : S50) (l : List S50) (hn : natPairs m l) (hx : x ∈ l) : (piece x).size ≤ 5 := by
  obtain ⟨a, b, rfl, h1, h2⟩ := hn x hx
  unfold piece
  have e1 := num_size a (by omega)
  have e2 := num_size b (by omega)
  have e3 : (⟨#[45]⟩ : ByteArray).size = 1 := rfl
  rw [ba_size, ba_size, e3]
  simp only [Int.toNat_natCast]
  omega
theorem txt_size (m : Nat) (hm : m ≤ 12) (l0 : List S50) (hn : natPairs m l0) : ∀ l : List S50, (∀ x ∈ l, x ∈ l0) → (txt l).size ≤ 6 * l.length := by
  intro l
  rw [← lis_len, lis_txt]
  cases l with
  | nil => intro _; simp [Lib.join_nil]
  | cons x r =>
    intro h
    have hs : ∀ r : List S50, (∀ x ∈ r, x ∈ l0) → Lib.lens ((r.map piece).map lis) ≤ 5 * r.length := by
      intro r
      induction r with
      | nil => intro _; simp [Lib.lens]
      | cons y r ih =>
        intro h
        have := ih (fun z hz => h z (List.mem_cons_of_mem _ hz))
        have h2 := piece_size m hm y l0 hn (h y (List.mem_cons_self ..))
        rw [← lis_len] at h2
        simp only [Lib.lens, List.map_cons, List.sum_cons, List.length_cons] at this ⊢
        omega
    rw [List.map_cons, List.map_cons, Lib.join_length]
    have := hs (x :: r) h
    rw [List.map_cons, List.map_cons] at this
    simp only [List.length_map, List.length_cons, List.length_nil] at this ⊢
    omega
theorem iText_l0 (m : Nat) (hm : m ≤ 12) (l : List S50) (hn : natPairs m l) (hl : l.length ≤ 1000) : ∀ (rest pre : List S50), l = pre ++ rest → Ev (fun k => impl_partyText.l0 k (pre.map piece) l (l.length : Int) (pre.length : Int) (m : Int) l) ((num m ++ (⟨#[58]⟩ : ByteArray)) ++ txt l)
  | [], pre, e => by
    have e2 : l = pre := by rw [e]; simp
    have s0 := num_size m (by omega)
    have s1 : (⟨#[58]⟩ : ByteArray).size = 1 := rfl
    have hsz := txt_size m hm l hn l (fun z hz => hz)
    have hj : (Lib.join ((l.map piece).map lis) [44]).length ≤ 6 * l.length := by rw [← lis_txt, lis_len]; exact hsz
    refine Ev.one fun k => ?_
    rw [impl_partyText.l0, if_neg (by rw [e2]; omega), itoa_f m (by omega), Option.bind_some, if_pos (by omega), ← e2]
    have hJ : strings_Join.f (l.map piece) (⟨#[44]⟩ : ByteArray) = some (txt l) := by
      unfold strings_Join.f
      rw [if_pos ⟨by rw [List.length_map]; omega, by show (Lib.join ((l.map piece).map lis) [44]).length ≤ _; omega⟩]
      rfl
    rw [hJ, Option.bind_some, if_pos (by rw [ba_size, s1]; omega)]
  | x :: rest, pre, e => by
    have hlen : l.length = pre.length + (rest.length + 1) := by rw [e]; simp
    obtain ⟨a, b, rfl, hab, hbm⟩ := hn x (by rw [e]; simp)
    have hx : rd_T50 l (pre.length : Int) = ⟨(a : Int), (b : Int)⟩ := by rw [e]; exact rdT_mid pre rest _
    have ih := iText_l0 m hm l hn hl rest (pre ++ [⟨(a : Int), (b : Int)⟩]) (by rw [e]; simp)
    have hw : wrap64 ((pre.length : Int) + 1) = ((pre ++ [(⟨(a : Int), (b : Int)⟩ : S50)]).length : Int) := by rw [List.length_append, List.length_singleton]; unfold wrap64; omega
    have sa := num_size a (by omega)
    have sb := num_size b (by omega)
    have s1 : (⟨#[45]⟩ : ByteArray).size = 1 := rfl
    have hp : piece (⟨(a : Int), (b : Int)⟩ : S50) = (num a ++ (⟨#[45]⟩ : ByteArray)) ++ num b := by unfold piece; simp only [Int.toNat_natCast]
    rw [List.map_append, List.map_cons, List.map_nil, hp, ← hw] at ih
    refine Ev.step (fun k => ?_) ih
    rw [impl_partyText.l0, if_pos (by omega), if_pos (by omega), if_pos (by omega), hx]
    dsimp only
    rw [itoa_f a (by omega), Option.bind_some, if_pos (by omega), itoa_f b (by omega), Option.bind_some, if_pos (by rw [ba_size, s1]; omega), if_pos (by rw [List.length_map]; omega)]
theorem Ev.cast {α : Type} {g : Nat → Option α} {a b : α} (h : Ev g a) (e : a = b) : Ev g b := e ▸ h
theorem within_f (a lo hi : Int) : impl_within.f a lo hi = some (decide (lo ≤ a) && decide (a ≤ hi)) := by
  unfold impl_within.f
  by_cases h : lo ≤ a
  · rw [if_pos h]; simp [h]
  · rw [if_neg h]; simp [h]
theorem areCrowd_f (a : Int) : impl_areCrowd.f a = some (decide (0 ≤ a ∧ a ≤ 12)) := by
  unfold impl_areCrowd.f
  rw [within_f]; simp [Bool.decide_and]
def cmp3 (a b : Int) : Int := if a < b then -1 else if a > b then 1 else 0
def cmpP (p q : S50) : Int := if cmp3 p.f0 q.f0 = 0 then cmp3 p.f1 q.f1 else cmp3 p.f0 q.f0
theorem cmpP_neg (p q : S50) : decide (cmpP p q ≥ 0) = !lt2 p q := by
  unfold cmpP cmp3 lt2
  by_cases h1 : p.f0 < q.f0
  · simp [h1]
  · by_cases h2 : p.f0 > q.f0
    · have h3 : ¬ p.f0 = q.f0 := by omega
      simp [h1, h2, h3]
    · have h3 : p.f0 = q.f0 := by omega
      by_cases h4 : p.f1 < q.f1
      · simp [h3, h4]
      · by_cases h5 : p.f1 > q.f1
        · simp [h3, h4, h5]
        · simp [h3, h4, h5]
theorem cmpOr_ev (a b : Int) : Ev (fun k => cmp_Or_int.f k [a, b]) (if a = 0 then b else a) := by
  refine ⟨3, fun k hk => ?_⟩
  obtain ⟨k, rfl⟩ : ∃ m, k = m + 3 := ⟨k - 3, by omega⟩
  have e1 : wrap64 (0 + 1) = 1 := by unfold wrap64; omega
  have e2 : wrap64 (1 + 1) = 2 := by unfold wrap64; omega
  have r0 : rd [a, b] 0 = a := rfl
  have r1 : rd [a, b] 1 = b := rfl
  simp only [cmp_Or_int.f, cmp_Or_int.l0, List.length_cons, List.length_nil, r0, r1, e1, e2]
  by_cases h : a = 0
  · by_cases h2 : b = 0
    · simp [h, h2]
    · simp [h, h2]
  · simp [h]
theorem compare_f (a b : Int) : cmp_Compare_int.f a b = some (cmp3 a b) := by
  unfold cmp_Compare_int.f cmp_isNaN_int.f cmp3
  simp
  by_cases h : a < b
  · simp [h]
  · by_cases h2 : a > b
    · simp [h, h2]
    · simp [h, h2]
theorem comparePairs_ev (p q : S50) : Ev (fun k => impl_comparePairs.f k p.f0 p.f1 q.f0 q.f1) (cmpP p q) := by
  unfold impl_comparePairs.f
  simp only [compare_f, Option.bind_some]
  exact Ev.bind (cmpOr_ev _ _) (Ev.now _)
theorem w1 {n : Nat} (h : n < 4611686018427387904) : wrap64 ((n : Int) + 1) = ((n + 1 : Nat) : Int) := by unfold wrap64; omega
theorem w64 {i : Int} (h0 : -9223372036854775808 ≤ i) (h : i ≤ 9223372036854775807) : wrap64 i = i := by unfold wrap64; omega
theorem implIsParty_l0 (n : Int) (l : List S50) (hl : l.length < 4611686018427387904) : ∀ (rest pre : List S50), l = pre ++ rest → Ev (fun k => impl_IsParty.l0 k l (l.length : Int) (pre.length : Int) n l) (okFrom n pre.getLast? rest && crowd n)
  | [], pre, h => by
    refine Ev.one (fun k => ?_)
    have e : l.length = pre.length := by rw [h]; simp
    rw [impl_IsParty.l0, if_neg (by omega), areCrowd_f]
    simp [okFrom, crowd]
  | x :: rest, pre, h => by
    have hlen : pre.length < l.length := by rw [h]; simp
    have hx : rd_T50 l (pre.length : Int) = x := by rw [h]; exact rdT_mid pre rest x
    have ih := implIsParty_l0 n l hl rest (pre ++ [x]) (by rw [h]; simp)
    rw [List.getLast?_concat, List.length_append, List.length_singleton] at ih
    by_cases c1 : x.f0 < 0
    · refine Ev.one (fun k => ?_)
      rw [impl_IsParty.l0, if_pos (by omega), if_pos (by omega), if_pos (by omega), hx, if_pos c1]
      have : decide (0 ≤ x.f0) = false := by simp; omega
      simp [okFrom, this]
    by_cases c2 : x.f0 ≥ x.f1
    · refine Ev.one (fun k => ?_)
      rw [impl_IsParty.l0, if_pos (by omega), if_pos (by omega), if_pos (by omega), hx, if_neg c1, if_pos c2]
      have : decide (x.f0 < x.f1) = false := by simp; omega
      simp [okFrom, this]
    by_cases c3 : x.f1 ≥ n
    · refine Ev.one (fun k => ?_)
      rw [impl_IsParty.l0, if_pos (by omega), if_pos (by omega), if_pos (by omega), hx, if_neg c1, if_neg c2, if_pos c3]
      have : decide (x.f1 < n) = false := by simp; omega
      simp [okFrom, this]
    have d1 : decide (0 ≤ x.f0) = true := by simp; omega
    have d2 : decide (x.f0 < x.f1) = true := by simp; omega
    have d3 : decide (x.f1 < n) = true := by simp; omega
    rcases List.eq_nil_or_concat pre with rfl | ⟨q, p, rfl⟩
    · refine Ev.cast (Ev.step (fun k => ?_) ih) ?_
      · rw [impl_IsParty.l0, if_pos (by omega), if_pos (by omega), if_pos (by omega), hx, if_neg c1, if_neg c2, if_neg c3, if_neg (by simp), w1 (by simp)]
      · simp [okFrom, d1, d2, d3, okPrev]
    · rw [List.concat_eq_append] at hlen hx ih h ⊢
      have hp : rd_T50 l (q.length : Int) = p := by rw [h, List.append_assoc]; exact rdT_mid q (x :: rest) p
      have hq : (q ++ [p]).length = q.length + 1 := by simp
      rw [hq] at hlen hx ih ⊢
      refine Ev.step (f := fun k => (impl_comparePairs.f k p.f0 p.f1 x.f0 x.f1).bind fun t => if t ≥ 0 then some false else impl_IsParty.l0 k l (l.length : Int) ((q.length + 1 + 1 : Nat) : Int) n l) (fun k => ?_) (Ev.bind (comparePairs_ev p x) ?_)
      · rw [impl_IsParty.l0, if_pos (by omega), if_pos (by omega), if_pos (by omega), hx, if_neg c1, if_neg c2, if_neg c3, if_pos (by omega), w64 (i := ((q.length + 1 : Nat) : Int) - 1) (by omega) (by omega), show ((q.length + 1 : Nat) : Int) - 1 = (q.length : Int) by omega, if_pos (by omega), if_pos (by omega), hp, w1 (by omega)]
      · have hc := cmpP_neg p x
        rw [List.getLast?_concat]
        by_cases hlt : lt2 p x = true
        · have c4 : ¬ cmpP p x ≥ 0 := by rw [hlt] at hc; simpa using hc
          simp only [if_neg c4]
          refine Ev.cast ih ?_
          simp [okFrom, d1, d2, d3, okPrev, hlt]
        · have hlt' : lt2 p x = false := by simpa using hlt
          have c4 : cmpP p x ≥ 0 := by rw [hlt'] at hc; simpa using hc
          simp only [if_pos c4]
          refine Ev.cast (Ev.now _) ?_
          simp [okFrom, okPrev, hlt']
theorem implIsParty_ev (n : Int) (l : List S50) (hl : l.length < 4611686018427387904) : Ev (fun k => impl_IsParty.f k n l) (good n l) := by
  unfold impl_IsParty.f
  have := implIsParty_l0 n l hl l [] rfl
  rw [Bool.and_comm] at this
  exact this
/-! the number of pairs -/
def below (m : Nat) : Nat → Nat
  | 0 => 0
  | a + 1 => below m a + (m - 1 - a)
theorem below_all (m : Nat) (h : m ≤ 12) : Int.tdiv ((m : Int) * ((m : Int) - 1)) 2 = (below m m : Int) := by
  have : m = 0 ∨ m = 1 ∨ m = 2 ∨ m = 3 ∨ m = 4 ∨ m = 5 ∨ m = 6 ∨ m = 7 ∨ m = 8 ∨ m = 9 ∨ m = 10 ∨ m = 11 ∨ m = 12 := by omega
  rcases this with rfl | rfl | rfl | rfl | rfl | rfl | rfl | rfl | rfl | rfl | rfl | rfl | rfl <;> rfl
/-- where a pair stands among all pairs of m people -/
def rank (m : Nat) (x : S50) : Nat := below m x.f0.toNat + (x.f1.toNat - x.f0.toNat - 1)
theorem below_mono (m a : Nat) : ∀ d, below m a ≤ below m (a + d)
  | 0 => Nat.le_refl _
  | d + 1 => Nat.le_trans (below_mono m a d) (by show below m (a + d) ≤ below m (a + d) + _; omega)
theorem rank_lt (m : Nat) (p x : S50) (h : lt2 p x = true) (p0 : 0 ≤ p.f0) (p1 : p.f0 < p.f1) (p2 : p.f1 < m) (x0 : 0 ≤ x.f0) (x1 : x.f0 < x.f1) : rank m p < rank m x := by
  unfold lt2 at h
  unfold rank
  simp at h
  rcases h with h | ⟨h, h2⟩
  · have h1 := below_mono m (p.f0.toNat + 1) (x.f0.toNat - (p.f0.toNat + 1))
    rw [show p.f0.toNat + 1 + (x.f0.toNat - (p.f0.toNat + 1)) = x.f0.toNat by omega] at h1
    have h3 : below m (p.f0.toNat + 1) = below m p.f0.toNat + (m - 1 - p.f0.toNat) := rfl
    omega
  · rw [h]; omega
theorem rank_top (m : Nat) (x : S50) (x0 : 0 ≤ x.f0) (x1 : x.f0 < x.f1) (x2 : x.f1 < m) : rank m x < below m m := by
  unfold rank
  have h1 := below_mono m (x.f0.toNat + 1) (m - (x.f0.toNat + 1))
  rw [show x.f0.toNat + 1 + (m - (x.f0.toNat + 1)) = m by omega] at h1
  have h3 : below m (x.f0.toNat + 1) = below m x.f0.toNat + (m - 1 - x.f0.toNat) := rfl
  omega
theorem okFrom_len (m : Nat) : ∀ (l : List S50) (p : S50), 0 ≤ p.f0 → p.f0 < p.f1 → p.f1 < m → okFrom m (some p) l = true → rank m p + l.length < below m m
  | [], p, p0, p1, p2, _ => rank_top m p p0 p1 p2
  | x :: xs, p, p0, p1, p2, h => by
    simp [okFrom, okPrev] at h
    obtain ⟨⟨x0, x1, x2, hlt⟩, h⟩ := h
    have ih := okFrom_len m xs x x0 x1 x2 h
    have := rank_lt m p x hlt p0 p1 p2 x0 x1
    simp only [List.length_cons]
    omega
theorem good_len (m : Nat) (l : List S50) (h : okFrom m none l = true) : l.length ≤ below m m := by
  cases l with
  | nil => simp
  | cons x xs =>
    simp [okFrom, okPrev] at h
    obtain ⟨⟨x0, x1, x2⟩, h⟩ := h
    have := okFrom_len m xs x x0 x1 x2 h
    simp only [List.length_cons]
    omega
theorem l1In_f (a lo hi : Int) : spec_l1In.f a lo hi = some (decide (lo ≤ a) && decide (a ≤ hi)) := by
  unfold spec_l1In.f
  by_cases h : lo ≤ a
  · rw [if_pos h]; simp [h]
  · rw [if_neg h]; simp [h]
theorem paLess_f (p x : S50) : spec_paLess.f p.f0 p.f1 x.f0 x.f1 = some (lt2 p x) := by
  unfold spec_paLess.f lt2
  by_cases h : p.f0 < x.f0
  · simp [h]
  · by_cases h2 : p.f0 = x.f0
    · simp [h2]
    · simp [h, h2]
theorem paGood_l0 (m : Nat) (hm : m ≤ 12) (l : List S50) (hl : l.length < 4611686018427387904) : ∀ (rest pre : List S50), l = pre ++ rest → Ev (fun k => spec_paGood.l0 k l (l.length : Int) (pre.length : Int) (m : Int) l) (okFrom m pre.getLast? rest)
  | [], pre, h => by
    refine Ev.one (fun k => ?_)
    have e : l.length = pre.length := by rw [h]; simp
    rw [spec_paGood.l0, if_neg (by omega)]
    simp [okFrom]
  | x :: rest, pre, h => by
    have hlen : pre.length < l.length := by rw [h]; simp
    have hx : rd_T50 l (pre.length : Int) = x := by rw [h]; exact rdT_mid pre rest x
    have ih := paGood_l0 m hm l hl rest (pre ++ [x]) (by rw [h]; simp)
    rw [List.getLast?_concat, List.length_append, List.length_singleton] at ih
    have em : wrap64 ((m : Int) - 1) = (m : Int) - 1 := w64 (by omega) (by omega)
    by_cases c1 : 0 ≤ x.f0 ∧ x.f0 ≤ (m : Int) - 1
    · have e1 : wrap64 (x.f0 + 1) = x.f0 + 1 := w64 (by omega) (by omega)
      have b1 : (decide (0 ≤ x.f0) && decide (x.f0 ≤ (m : Int) - 1)) = true := by simp; exact c1
      by_cases c2 : x.f0 + 1 ≤ x.f1 ∧ x.f1 ≤ (m : Int) - 1
      · have b2 : (decide (x.f0 + 1 ≤ x.f1) && decide (x.f1 ≤ (m : Int) - 1)) = true := by simp; exact c2
        have d1 : decide (0 ≤ x.f0) = true := by simp; omega
        have d2 : decide (x.f0 < x.f1) = true := by simp; omega
        have d3 : decide (x.f1 < (m : Int)) = true := by simp; omega
        rcases List.eq_nil_or_concat pre with rfl | ⟨q, p, rfl⟩
        · refine Ev.cast (Ev.step (fun k => ?_) ih) ?_
          · rw [spec_paGood.l0, if_pos (by omega), if_pos (by omega), if_pos (by omega), hx, em, e1, l1In_f, l1In_f, b1, b2]
            simp only [Option.bind_some, if_true]
            rw [if_neg (by simp), w1 (by simp)]
          · simp [okFrom, d1, d2, d3, okPrev]
        · rw [List.concat_eq_append] at hlen hx ih h ⊢
          have hp : rd_T50 l (q.length : Int) = p := by rw [h, List.append_assoc]; exact rdT_mid q (x :: rest) p
          have hq : (q ++ [p]).length = q.length + 1 := by simp
          rw [hq] at hlen hx ih ⊢
          rw [List.getLast?_concat]
          cases hlt : lt2 p x with
          | true =>
            refine Ev.cast (Ev.step (fun k => ?_) ih) ?_
            · rw [spec_paGood.l0, if_pos (by omega), if_pos (by omega), if_pos (by omega), hx, em, e1, l1In_f, l1In_f, b1, b2]
              simp only [Option.bind_some, if_true]
              rw [if_pos (by omega), w64 (i := ((q.length + 1 : Nat) : Int) - 1) (by omega) (by omega), show ((q.length + 1 : Nat) : Int) - 1 = (q.length : Int) by omega, if_pos (by omega), if_pos (by omega), hp, paLess_f, hlt, w1 (by omega)]
              rfl
            · simp [okFrom, d1, d2, d3, okPrev, hlt]
          | false =>
            refine Ev.one (fun k => ?_)
            rw [spec_paGood.l0, if_pos (by omega), if_pos (by omega), if_pos (by omega), hx, em, e1, l1In_f, l1In_f, b1, b2]
            simp only [Option.bind_some, if_true]
            rw [if_pos (by omega), w64 (i := ((q.length + 1 : Nat) : Int) - 1) (by omega) (by omega), show ((q.length + 1 : Nat) : Int) - 1 = (q.length : Int) by omega, if_pos (by omega), if_pos (by omega), hp, paLess_f, hlt]
            simp [okFrom, okPrev, hlt]
      · refine Ev.one (fun k => ?_)
        have b2 : (decide (x.f0 + 1 ≤ x.f1) && decide (x.f1 ≤ (m : Int) - 1)) = false := by simp; omega
        rw [spec_paGood.l0, if_pos (by omega), if_pos (by omega), if_pos (by omega), hx, em, e1, l1In_f, l1In_f, b1, b2]
        have : (decide (x.f0 < x.f1) && decide (x.f1 < (m : Int))) = false := by simp; omega
        simp only [okFrom, ← Bool.and_assoc (decide (x.f0 < x.f1)), this]
        simp
    · refine Ev.one (fun k => ?_)
      have b1 : (decide (0 ≤ x.f0) && decide (x.f0 ≤ (m : Int) - 1)) = false := by simp; omega
      rw [spec_paGood.l0, if_pos (by omega), if_pos (by omega), if_pos (by omega), hx, em, l1In_f, b1]
      have : (decide (0 ≤ x.f0) && (decide (x.f0 < x.f1) && (decide (x.f1 < (m : Int)) && okPrev pre.getLast? x))) = false := by
        by_cases z0 : 0 ≤ x.f0
        · by_cases z1 : x.f0 < x.f1
          · have : ¬ x.f1 < (m : Int) := by omega
            simp [this]
          · simp [z1]
        · simp [z0]
      simp [okFrom, this]
theorem paPeople_f (a : Int) : spec_paPeople.f a = some (decide (0 ≤ a ∧ a ≤ 12)) := by
  unfold spec_paPeople.f
  rw [l1In_f]; simp [Bool.decide_and]
theorem paGood_ev (n : Int) (l : List S50) (hl : l.length < 4611686018427387904) : Ev (fun k => spec_paGood.f k n l) (good n l) := by
  unfold spec_paGood.f
  rw [paPeople_f]
  by_cases h : 0 ≤ n ∧ n ≤ 12
  · obtain ⟨m, rfl⟩ := Int.eq_ofNat_of_zero_le h.1
    have hm : m ≤ 12 := by omega
    have hc : crowd (m : Int) = true := by unfold crowd; simp; omega
    have hmul : (m : Int) * ((m : Int) - 1) ≤ 144 := by
      have : m = 0 ∨ m = 1 ∨ m = 2 ∨ m = 3 ∨ m = 4 ∨ m = 5 ∨ m = 6 ∨ m = 7 ∨ m = 8 ∨ m = 9 ∨ m = 10 ∨ m = 11 ∨ m = 12 := by omega
      rcases this with rfl | rfl | rfl | rfl | rfl | rfl | rfl | rfl | rfl | rfl | rfl | rfl | rfl <;> decide
    have hmul0 : 0 ≤ (m : Int) * ((m : Int) - 1) := by
      have : m = 0 ∨ m = 1 ∨ m = 2 ∨ m = 3 ∨ m = 4 ∨ m = 5 ∨ m = 6 ∨ m = 7 ∨ m = 8 ∨ m = 9 ∨ m = 10 ∨ m = 11 ∨ m = 12 := by omega
      rcases this with rfl | rfl | rfl | rfl | rfl | rfl | rfl | rfl | rfl | rfl | rfl | rfl | rfl <;> decide
    have hb : (below m m : Int) ≤ 144 := by
      have : m = 0 ∨ m = 1 ∨ m = 2 ∨ m = 3 ∨ m = 4 ∨ m = 5 ∨ m = 6 ∨ m = 7 ∨ m = 8 ∨ m = 9 ∨ m = 10 ∨ m = 11 ∨ m = 12 := by omega
      rcases this with rfl | rfl | rfl | rfl | rfl | rfl | rfl | rfl | rfl | rfl | rfl | rfl | rfl <;> decide
    have e : wrap64 (Int.tdiv (wrap64 ((m : Int) * (wrap64 ((m : Int) - 1)))) 2) = (below m m : Int) := by
      rw [w64 (i := (m : Int) - 1) (by omega) (by omega), w64 (i := (m : Int) * ((m : Int) - 1)) (by omega) (by omega), below_all m hm, w64 (by omega) (by omega)]
    simp only [h, decide_true, Option.bind_some, if_true, e, and_self]
    unfold good
    rw [hc, Bool.true_and]
    by_cases hlen : l.length ≤ below m m
    · refine Ev.step (fun k => ?_) (paGood_l0 m hm l hl l [] rfl)
      have : decide ((l.length : Int) > (below m m : Int)) = false := by simp; omega
      rw [this, spec_paGood.j0, if_neg (by decide)]
      rfl
    · refine Ev.one (fun k => ?_)
      have : decide ((l.length : Int) > (below m m : Int)) = true := by simp; omega
      rw [this, spec_paGood.j0, if_pos rfl]
      have hn : okFrom (m : Int) none l = false := by
        cases hok : okFrom (m : Int) none l with
        | false => rfl
        | true => exact absurd (good_len m l hok) hlen
      rw [hn]
  · have hc : crowd n = false := by unfold crowd; simp; omega
    simp only [h, decide_false, Option.bind_some]
    unfold good
    rw [hc]
    refine Ev.one (fun k => ?_)
    rw [if_neg (by decide), spec_paGood.j0]; simp

theorem ba_ext {a b : ByteArray} (h : lis a = lis b) : a = b := by
  obtain ⟨a⟩ := a
  obtain ⟨b⟩ := b
  unfold lis at h
  exact congrArg ByteArray.mk (Array.toList_inj.1 h)
theorem str_one : ∀ n : Nat, n < 10 → strOfNums [(wrap64 (48 + (n : Int))) % 256] = (⟨#[UInt8.ofNat (48 + n)]⟩ : ByteArray) := by
  intro n h
  have e : (wrap64 (48 + (n : Int))) % 256 = ((48 + n : Nat) : Int) := by unfold wrap64; omega
  rw [e]
  rfl
theorem l1Num_ev (n : Nat) (h : n < 20) : Ev (fun k => spec_l1Num.f k (n : Int)) (num n) := by
  by_cases h1 : n < 10
  · refine Ev.one fun k => ?_
    rw [spec_l1Num.f, if_pos (by omega), str_one n h1, num_one n h1]
  · have e1 : wrap64 (Int.tdiv (n : Int) 10) = ((1 : Nat) : Int) := by
      rw [Int.tdiv_eq_ediv_of_nonneg (by omega), show (n : Int) / 10 = 1 by omega]; unfold wrap64; omega
    have e2 : Int.tmod (n : Int) 10 = ((n % 10 : Nat) : Int) := by
      rw [Int.tmod_eq_emod_of_nonneg (by omega)]; omega
    have h0 : Ev (fun k => spec_l1Num.f k ((1 : Nat) : Int)) (num 1) := Ev.one fun k => by
      rw [spec_l1Num.f, if_pos (by omega), str_one 1 (by omega), num_one 1 (by omega)]
    refine Ev.step (f := fun k => (spec_l1Num.f k ((1 : Nat) : Int)).bind fun t117 => ((some (([(wrap64 (48+(Int.tmod (n : Int) 10))) % 256]:List Int):List Int)).bind fun y118=>(if t117.size+(strOfNums y118).size≤9223372036854775807 then (some (t117 ++ (strOfNums y118))) else (none)))) (fun k => ?_) ?_
    · rw [spec_l1Num.f, if_neg (by omega), e1]
    refine Ev.bind h0 ?_
    simp only [Option.bind_some, e2, str_one (n % 10) (by omega)]
    rw [num_one 1 (by omega), num_two n (by omega) h]
    exact Ev.now _
theorem ba_list (a b : ByteArray) : (a ++ b).data.toList = a.data.toList ++ b.data.toList := by
  rw [ByteArray.data_append, Array.toList_append]
theorem lis_app (a b : ByteArray) : lis (a ++ b) = lis a ++ lis b := ba_list a b
theorem join_snoc (sep : List UInt8) : ∀ (xs : List (List UInt8)) (y : List UInt8), xs ≠ [] → Lib.join (xs ++ [y]) sep = Lib.join xs sep ++ sep ++ y
  | [], _, h => absurd rfl h
  | x :: r, y, _ => by
    rw [List.cons_append, Lib.join_cons, Lib.join_cons]
    unfold Lib.joinTail
    rw [List.map_append, List.flatten_append]
    simp [List.append_assoc]
theorem sText_l0 (m : Nat) (hm : m ≤ 12) (l : List S50) (hn : natPairs m l) (hl : l.length ≤ 1000) (A : ByteArray) (hA : A.size ≤ 100) : ∀ (rest pre : List S50), l = pre ++ rest → Ev (fun k => spec_paText.l0 k (A ++ txt pre) l (l.length : Int) (pre.length : Int)) (A ++ txt l)
  | [], pre, e => by
    have e2 : l = pre := by rw [e]; simp
    refine Ev.one fun k => ?_
    rw [spec_paText.l0, if_neg (by rw [e2]; omega), ← e2]
  | x :: rest, pre, e => by
    have hlen : l.length = pre.length + (rest.length + 1) := by rw [e]; simp
    obtain ⟨a, b, rfl, hab, hbm⟩ := hn x (by rw [e]; simp)
    have hx : rd_T50 l (pre.length : Int) = ⟨(a : Int), (b : Int)⟩ := by rw [e]; exact rdT_mid pre rest _
    have ih := sText_l0 m hm l hn hl A hA rest (pre ++ [⟨(a : Int), (b : Int)⟩]) (by rw [e]; simp)
    have hw : wrap64 ((pre.length : Int) + 1) = ((pre ++ [(⟨(a : Int), (b : Int)⟩ : S50)]).length : Int) := by rw [List.length_append, List.length_singleton]; unfold wrap64; omega
    have hsz := txt_size m hm l hn pre (fun z hz => by rw [e]; simp [hz])
    have sa := num_size a (by omega)
    have sb := num_size b (by omega)
    have s1 : (⟨#[45]⟩ : ByteArray).size = 1 := rfl
    have s2 : (⟨#[44]⟩ : ByteArray).size = 1 := rfl
    have hp : piece (⟨(a : Int), (b : Int)⟩ : S50) = (num a ++ (⟨#[45]⟩ : ByteArray)) ++ num b := by unfold piece; simp only [Int.toNat_natCast]
    by_cases h0 : 0 < pre.length
    · have he : (((A ++ txt pre) ++ (⟨#[44]⟩ : ByteArray)) ++ ((num a ++ (⟨#[45]⟩ : ByteArray)) ++ num b)) = A ++ txt (pre ++ [⟨(a : Int), (b : Int)⟩]) := by
        apply ba_ext
        rw [← hp, lis_app, lis_app, lis_app, lis_app, lis_txt, lis_txt, List.map_append, List.map_append, List.map_cons, List.map_nil, List.map_cons, List.map_nil, join_snoc _ _ _ (by intro h; have := congrArg List.length h; simp at this; rw [this] at h0; simp at h0)]
        show _ ++ [44] ++ _ = _
        simp [List.append_assoc]
      rw [← he, ← hw] at ih
      refine Ev.step (f := fun k => (spec_l1Num.f k (a : Int)).bind fun t125=>(if t125.size+1≤9223372036854775807 then ((spec_l1Num.f k (b : Int)).bind fun t126=>(if (t125 ++ (⟨#[45]⟩:ByteArray)).size+t126.size≤9223372036854775807 then (if ((A ++ txt pre) ++ (⟨#[44]⟩:ByteArray)).size+((t125 ++ (⟨#[45]⟩:ByteArray)) ++ t126).size≤9223372036854775807 then (spec_paText.l0 k (((A ++ txt pre) ++ (⟨#[44]⟩:ByteArray)) ++ ((t125 ++ (⟨#[45]⟩:ByteArray)) ++ t126)) l (l.length : Int) (wrap64 ((pre.length : Int)+1))) else (none)) else (none))) else (none))) (fun k => ?_) ?_
      · rw [spec_paText.l0, if_pos (by omega), if_pos (by omega), if_pos (by omega), if_pos (by omega), hx, if_pos (by rw [ba_size]; omega)]
      refine Ev.bind (l1Num_ev a (by omega)) ?_
      simp only [if_pos (show (num a).size + 1 ≤ 9223372036854775807 by omega)]
      refine Ev.bind (l1Num_ev b (by omega)) ?_
      simp only [if_pos (show (num a ++ (⟨#[45]⟩ : ByteArray)).size + (num b).size ≤ 9223372036854775807 by rw [ba_size, s1]; omega), if_pos (show ((A ++ txt pre) ++ (⟨#[44]⟩ : ByteArray)).size + ((num a ++ (⟨#[45]⟩ : ByteArray)) ++ num b).size ≤ 9223372036854775807 by rw [ba_size, ba_size, ba_size, ba_size, s1, s2]; omega)]
      exact ih
    · have hpn : pre = [] := List.eq_nil_of_length_eq_zero (by omega)
      subst hpn
      have he : (A ++ txt []) ++ ((num a ++ (⟨#[45]⟩ : ByteArray)) ++ num b) = A ++ txt ([] ++ [⟨(a : Int), (b : Int)⟩]) := by
        apply ba_ext
        rw [← hp, lis_app, lis_app, lis_app, lis_txt, lis_txt, List.nil_append, List.map_cons, List.map_nil, List.map_cons, List.map_nil, Lib.join_one]
        show _ ++ [] ++ _ = _
        simp
      rw [← he, ← hw] at ih
      refine Ev.step (f := fun k => (spec_l1Num.f k (a : Int)).bind fun t125=>(if t125.size+1≤9223372036854775807 then ((spec_l1Num.f k (b : Int)).bind fun t126=>(if (t125 ++ (⟨#[45]⟩:ByteArray)).size+t126.size≤9223372036854775807 then (if (A ++ txt []).size+((t125 ++ (⟨#[45]⟩:ByteArray)) ++ t126).size≤9223372036854775807 then (spec_paText.l0 k ((A ++ txt []) ++ ((t125 ++ (⟨#[45]⟩:ByteArray)) ++ t126)) l (l.length : Int) (wrap64 ((([] : List S50).length : Int)+1))) else (none)) else (none))) else (none))) (fun k => ?_) ?_
      · rw [spec_paText.l0, if_pos (by simp only [List.length_nil]; omega), if_pos (by simp), if_pos (by simp only [List.length_nil]; omega), if_neg (by simp), hx]
      refine Ev.bind (l1Num_ev a (by omega)) ?_
      simp only [if_pos (show (num a).size + 1 ≤ 9223372036854775807 by omega)]
      refine Ev.bind (l1Num_ev b (by omega)) ?_
      simp only [if_pos (show (num a ++ (⟨#[45]⟩ : ByteArray)).size + (num b).size ≤ 9223372036854775807 by rw [ba_size, s1]; omega), if_pos (show (A ++ txt []).size + ((num a ++ (⟨#[45]⟩ : ByteArray)) ++ num b).size ≤ 9223372036854775807 by rw [ba_size, ba_size, ba_size, s1]; simp only [List.length_nil] at hsz; omega)]
      exact ih
theorem paText_ev (m : Nat) (hm : m ≤ 12) (l : List S50) (hn : natPairs m l) (hl : l.length ≤ 1000) : Ev (fun k => spec_paText.f k (m : Int) l) ((num m ++ (⟨#[58]⟩ : ByteArray)) ++ txt l) := by
  have s0 := num_size m (by omega)
  have s1 : (⟨#[58]⟩ : ByteArray).size = 1 := rfl
  unfold spec_paText.f
  refine Ev.bind (l1Num_ev m (by omega)) ?_
  simp only [if_pos (show (num m).size + 1 ≤ 9223372036854775807 by omega)]
  have h := sText_l0 m hm l hn hl (num m ++ (⟨#[58]⟩ : ByteArray)) (by rw [ba_size, s1]; omega) l [] rfl
  have he : (num m ++ (⟨#[58]⟩ : ByteArray)) ++ txt [] = num m ++ (⟨#[58]⟩ : ByteArray) := by
    apply ba_ext
    rw [lis_app, lis_txt]
    show _ ++ [] = _
    simp
  rw [he] at h
  exact h
abbrev Rel := Nat → Nat → Bool
def hasP (l : List S50) : Rel := fun a b => l.any fun x => (x.f0 == (a : Int) && x.f1 == (b : Int)) || (x.f0 == (b : Int) && x.f1 == (a : Int))
theorem lt2_trans {p q x : S50} (h1 : lt2 p q = true) (h2 : lt2 q x = true) : lt2 p x = true := by
  unfold lt2 at *
  simp at *
  omega
theorem okFrom_all (n : Int) : ∀ (l : List S50) (p : S50), okFrom n (some p) l = true → ∀ y ∈ l, lt2 p y = true
  | [], _, _ => fun y hy => by simp at hy
  | x :: xs, p, h => by
    simp only [okFrom, okPrev, Bool.and_eq_true] at h
    obtain ⟨⟨_, _, _, hlt⟩, h3⟩ := h
    intro y hy
    rcases List.mem_cons.1 hy with rfl | hy
    · exact hlt
    · exact lt2_trans hlt (okFrom_all n xs x h3 y hy)
theorem okFrom_pair (n : Int) : ∀ (l : List S50) (p : Option S50), okFrom n p l = true → l.Pairwise (fun x y => lt2 x y = true)
  | [], _, _ => List.Pairwise.nil
  | x :: l, p, h => by
    have h2 : okFrom n (some x) l = true := by
      simp only [okFrom, Bool.and_eq_true] at h
      exact h.2
    exact List.pairwise_cons.2 ⟨okFrom_all n l x h2, okFrom_pair n l (some x) h2⟩
/-! ### pairs listed -/
def rowFrom (r : Rel) (a : Nat) : Nat → Nat → List S50
  | _, 0 => []
  | b, d + 1 => (if r a b then [⟨(a : Int), (b : Int)⟩] else []) ++ rowFrom r a (b + 1) d
def pairsFrom (r : Rel) (m : Nat) : Nat → Nat → List S50
  | _, 0 => []
  | a, d + 1 => rowFrom r a (a + 1) (m - (a + 1)) ++ pairsFrom r m (a + 1) d
def pairsOf (m : Nat) (r : Rel) : List S50 := pairsFrom r m 0 m
theorem eq_of_sorted {α : Type} (lt : α → α → Bool) (hi : ∀ x, lt x x = false) (ht : ∀ {x y z}, lt x y = true → lt y z = true → lt x z = true) : ∀ (l1 l2 : List α), l1.Pairwise (fun x y => lt x y = true) → l2.Pairwise (fun x y => lt x y = true) → (∀ x, x ∈ l1 ↔ x ∈ l2) → l1 = l2
  | [], [], _, _, _ => rfl
  | [], y :: l2, _, _, h => by have := (h y).2 (List.mem_cons_self ..); cases this
  | x :: l1, [], _, _, h => by have := (h x).1 (List.mem_cons_self ..); cases this
  | x :: l1, y :: l2, h1, h2, h => by
    obtain ⟨h1a, h1b⟩ := List.pairwise_cons.1 h1
    obtain ⟨h2a, h2b⟩ := List.pairwise_cons.1 h2
    have asym : ∀ a b, lt a b = true → lt b a = true → False := fun a b p q => by
      have := ht p q
      rw [hi] at this; cases this
    have e : x = y := by
      rcases List.mem_cons.1 ((h x).1 (List.mem_cons_self ..)) with e | hx
      · exact e
      · rcases List.mem_cons.1 ((h y).2 (List.mem_cons_self ..)) with e | hy
        · exact e.symm
        · exact (asym x y (h1a y hy) (h2a x hx)).elim
    subst e
    congr 1
    refine eq_of_sorted lt hi ht l1 l2 h1b h2b fun z => ?_
    constructor
    · intro hz
      rcases List.mem_cons.1 ((h z).1 (List.mem_cons_of_mem _ hz)) with e | hz2
      · subst e
        have := h1a z hz
        rw [hi] at this; cases this
      · exact hz2
    · intro hz
      rcases List.mem_cons.1 ((h z).2 (List.mem_cons_of_mem _ hz)) with e | hz2
      · subst e
        have := h2a z hz
        rw [hi] at this; cases this
      · exact hz2

theorem hasP_mem (m : Nat) (l : List S50) (hn : natPairs m l) (a b : Nat) (hab : a < b) : hasP l a b = true ↔ (⟨(a : Int), (b : Int)⟩ : S50) ∈ l := by
  unfold hasP
  rw [List.any_eq_true]
  constructor
  · rintro ⟨x, hx, h⟩
    obtain ⟨i, j, rfl, hij, hj⟩ := hn x hx
    simp only [Bool.or_eq_true, Bool.and_eq_true, beq_iff_eq] at h
    rcases h with ⟨h1, h2⟩ | ⟨h1, h2⟩
    · have e1 : i = a := by omega
      have e2 : j = b := by omega
      subst e1 e2; exact hx
    · omega
  · intro h
    exact ⟨_, h, by simp⟩
theorem lt2_irrefl (p : S50) : lt2 p p = false := by unfold lt2; simp
theorem mem_rowFrom (r : Rel) (a : Nat) (p : S50) : ∀ (d b : Nat), p ∈ rowFrom r a b d ↔ ∃ y : Nat, b ≤ y ∧ y < b + d ∧ r a y = true ∧ p = ⟨(a : Int), (y : Int)⟩
  | 0, b => by simp only [rowFrom, List.not_mem_nil, false_iff]; rintro ⟨y, h1, h2, _⟩; omega
  | d + 1, b => by
    rw [rowFrom, List.mem_append, mem_rowFrom r a p d (b + 1)]
    constructor
    · rintro (h | ⟨y, h1, h2, h3, h4⟩)
      · split at h
        · next hr => rw [List.mem_singleton] at h; exact ⟨b, Nat.le_refl _, by omega, hr, h⟩
        · simp at h
      · exact ⟨y, by omega, by omega, h3, h4⟩
    · rintro ⟨y, h1, h2, h3, h4⟩
      by_cases e : y = b
      · subst e; left; rw [h3, if_pos rfl]; simp [h4]
      · right; exact ⟨y, by omega, by omega, h3, h4⟩
theorem mem_pairsFrom (r : Rel) (m : Nat) (p : S50) : ∀ (d a : Nat), p ∈ pairsFrom r m a d ↔ ∃ x y : Nat, a ≤ x ∧ x < a + d ∧ x < y ∧ y < m ∧ r x y = true ∧ p = ⟨(x : Int), (y : Int)⟩
  | 0, a => by simp only [pairsFrom, List.not_mem_nil, false_iff]; rintro ⟨x, y, h1, h2, _⟩; omega
  | d + 1, a => by
    rw [pairsFrom, List.mem_append, mem_rowFrom, mem_pairsFrom r m p d (a + 1)]
    constructor
    · rintro (⟨y, h1, h2, h3, h4⟩ | ⟨x, y, h1, h2, h3, h4, h5, h6⟩)
      · exact ⟨a, y, Nat.le_refl _, by omega, by omega, by omega, h3, h4⟩
      · exact ⟨x, y, by omega, by omega, h3, h4, h5, h6⟩
    · rintro ⟨x, y, h1, h2, h3, h4, h5, h6⟩
      by_cases e : x = a
      · subst e; left; exact ⟨y, by omega, by omega, h5, h6⟩
      · right; exact ⟨x, y, by omega, by omega, h3, h4, h5, h6⟩
theorem rowFrom_pair (r : Rel) (a : Nat) : ∀ (d b : Nat), (rowFrom r a b d).Pairwise (fun x y => lt2 x y = true)
  | 0, b => List.Pairwise.nil
  | d + 1, b => by
    have ih := rowFrom_pair r a d (b + 1)
    rw [rowFrom]
    split
    · refine List.pairwise_cons.2 ⟨fun y hy => ?_, ih⟩
      obtain ⟨z, h1, h2, _, rfl⟩ := (mem_rowFrom r a y d (b + 1)).1 hy
      unfold lt2
      simp only [Bool.or_eq_true, Bool.and_eq_true, decide_eq_true_eq]
      right
      exact ⟨trivial, by omega⟩
    · exact ih
theorem pairsFrom_pair (r : Rel) (m : Nat) : ∀ (d a : Nat), (pairsFrom r m a d).Pairwise (fun x y => lt2 x y = true)
  | 0, a => List.Pairwise.nil
  | d + 1, a => by
    rw [pairsFrom]
    refine List.pairwise_append.2 ⟨rowFrom_pair r a _ _, pairsFrom_pair r m d (a + 1), fun x hx y hy => ?_⟩
    obtain ⟨z, h1, h2, _, rfl⟩ := (mem_rowFrom r a x _ _).1 hx
    obtain ⟨u, v, h3, h4, h5, h6, _, rfl⟩ := (mem_pairsFrom r m y d (a + 1)).1 hy
    unfold lt2
    simp only [Bool.or_eq_true, Bool.and_eq_true, decide_eq_true_eq]
    left
    show (a : Int) < (u : Int)
    omega
theorem pairsOf_pair (m : Nat) (r : Rel) : (pairsOf m r).Pairwise (fun x y => lt2 x y = true) := pairsFrom_pair r m m 0
/-- A list in order, of pairs of people, is what its relation has. -/
theorem pairsOf_sorted (m : Nat) (l : List S50) (hn : natPairs m l) (hs : l.Pairwise (fun x y => lt2 x y = true)) : pairsOf m (hasP l) = l := by
  refine eq_of_sorted lt2 lt2_irrefl (fun h1 h2 => lt2_trans h1 h2) _ _ (pairsOf_pair m _) hs fun x => ?_
  unfold pairsOf
  rw [mem_pairsFrom]
  constructor
  · rintro ⟨a, b, _, _, h1, h2, h3, rfl⟩
    exact (hasP_mem m l hn a b h1).1 h3
  · intro hx
    obtain ⟨a, b, rfl, h1, h2⟩ := hn x hx
    exact ⟨a, b, by omega, by omega, h1, h2, (hasP_mem m l hn a b h1).2 hx, rfl⟩
theorem pairsOf_good (m : Nat) (l : List S50) (hn : natPairs m l) (ho : okFrom (m : Int) none l = true) : pairsOf m (hasP l) = l := pairsOf_sorted m l hn (okFrom_pair _ l none ho)

theorem rowFrom_len (r : Rel) (a : Nat) : ∀ (d b : Nat), (rowFrom r a b d).length ≤ d
  | 0, _ => Nat.le_refl _
  | d + 1, b => by
    have := rowFrom_len r a d (b + 1)
    rw [rowFrom, List.length_append]
    split <;> simp <;> omega
theorem pairsFrom_len (r : Rel) (m : Nat) (hm : m ≤ 12) : ∀ (d a : Nat), (pairsFrom r m a d).length ≤ 12 * d
  | 0, _ => Nat.le_refl _
  | d + 1, a => by
    have := pairsFrom_len r m hm d (a + 1)
    have := rowFrom_len r a (m - (a + 1)) (a + 1)
    rw [pairsFrom, List.length_append]; omega
theorem pairsOf_len (m : Nat) (hm : m ≤ 12) (r : Rel) : (pairsOf m r).length ≤ 144 := by
  have := pairsFrom_len r m hm m 0
  unfold pairsOf; omega
theorem PartyText_common (n : Int) (l : List S50) (w : (Lit.int .i64 n).wf = true) (hl : l.length ≤ 1048576) : ∃ R : ByteArray × Bool, Ev (fun k => spec_PartyText.f k n l) R ∧ Ev (fun k => impl_PartyText.f k n l) R := by
  have h1 := paGood_ev n l (by omega)
  have h2 := implIsParty_ev n l (by omega)
  unfold spec_PartyText.f impl_PartyText.f
  cases hg : good n l with
  | false =>
    rw [hg] at h1 h2
    refine ⟨((⟨#[]⟩ : ByteArray), false), Ev.bind h1 ?_, Ev.bind h2 ?_⟩
    · simp only [Bool.false_eq_true, if_false]; exact Ev.now _
    · simp only [Bool.false_eq_true, if_false]; exact Ev.now _
  | true =>
    rw [hg] at h1 h2
    obtain ⟨m, rfl, hm, hn, ho⟩ := good_nat hg
    have hll : l.length ≤ 144 := by
      rw [← pairsOf_good m l hn ho]
      exact pairsOf_len m hm _
    refine ⟨((num m ++ (⟨#[58]⟩ : ByteArray)) ++ txt l, true), Ev.bind h1 ?_, Ev.bind h2 ?_⟩
    · simp only [if_true]
      refine Ev.bind (paText_ev m hm l hn (by omega)) ?_
      exact Ev.now _
    · simp only [if_true]
      have := iText_l0 m hm l hn (by omega) l [] rfl
      refine Ev.bind this ?_
      exact Ev.now _

def conv (l : List S57) : List S50 := l.map fun x => ⟨x.f0, x.f1⟩
theorem conv_len (l : List S57) : (conv l).length = l.length := by simp [conv]
theorem eqPairS_l0 (l : List S50) (hl : l.length < 4611686018427387904) : ∀ (d i : Nat), i + d = l.length → Ev (fun k => laws_eqPairS.l0 k l l i) true
  | 0, i, hd => by
    refine Ev.one (fun k => ?_)
    rw [laws_eqPairS.l0, if_neg (by omega)]
  | d + 1, i, hd => by
    refine Ev.step (fun k => ?_) (eqPairS_l0 l hl d (i + 1) (by omega))
    rw [laws_eqPairS.l0, if_pos (by omega), if_pos (by omega), if_pos (by omega), laws_eqPair.f, if_pos rfl, if_pos rfl, w1 (by omega)]
    rfl
theorem eqParty_self (a : Int) (l : List S50) (hl : l.length < 4611686018427387904) : Ev (fun k => laws_eqParty.f k a l a l) true := by
  unfold laws_eqParty.f laws_eqPairS.f
  simp only [if_true]
  have h : Ev (fun k => laws_eqPairS.l0 k l l 0) true := by simpa using eqPairS_l0 l hl l.length 0 (by omega)
  refine Ev.bind h ?_
  simp only [if_true]
  exact Ev.now _

theorem szParty_f (a0 : Int) (l : List S57) (a1 : Int) (h0 : 0 ≤ a1) (h1 : a1 ≤ 1048576) (hl : l.length ≤ maxLen) : laws_szParty.f a0 l a1 = some (if a1 - l.length < 0 then -1 else a1 - l.length) := by
  unfold maxLen at hl
  unfold laws_szParty.f laws_szPairS.f
  rw [w64 (by omega) (by omega)]
  by_cases h : a1 - l.length < 0
  · simp [h]
  · simp [h]
theorem getD_of_get {α : Type} (l : List α) (i : Nat) (d x : α) (h : l[i]? = some x) : l.getD i d = x := by rw [List.getD_eq_getElem?_getD, h]; rfl
theorem toPairS_l0 (l : List S57) (hl : l.length < 4611686018427387904) : ∀ (d i : Nat) (y : List S50), i + d = l.length → y.length = l.length → (∀ j, j < i → y[j]? = (conv l)[j]?) → Ev (fun k => laws_toPairS.l0 k l y i) (conv l)
  | 0, i, y, hd, hy, h => by
    refine Ev.one (fun k => ?_)
    have e : y = conv l := by
      apply List.ext_getElem?
      intro j
      by_cases hj : j < i
      · exact h j hj
      · rw [List.getElem?_eq_none (by omega), List.getElem?_eq_none (by rw [conv_len]; omega)]
    rw [laws_toPairS.l0, if_neg (by omega), e]
  | d + 1, i, y, hd, hy, h => by
    have hi : i < l.length := by omega
    have hx : rd_T57 l (i : Int) = l[i] := getD_of_get l i _ _ (List.getElem?_eq_getElem hi)
    refine Ev.step (fun k => ?_) (toPairS_l0 l hl d (i + 1) (y.set i ⟨l[i].f0, l[i].f1⟩) (by omega) (by simpa using hy) ?_)
    · rw [laws_toPairS.l0, if_pos (by omega), if_pos (by omega), hx, laws_toPair.f]
      simp only [Option.bind_some]
      rw [if_pos (by omega), w1 (by omega)]
      rfl
    · intro j hj
      rw [List.getElem?_set]
      by_cases e : i = j
      · subst e
        have hiy : i < y.length := by omega
        simp [conv, hi, hiy]
      · rw [if_neg e]; exact h j (by omega)
theorem toPairS_ev (l : List S57) (hl : l.length ≤ 17592186044416) : Ev (fun k => laws_toPairS.f k l) (conv l) := by
  unfold laws_toPairS.f
  simp only [if_pos (show (0 : Int) ≤ (l.length : Int) by omega), if_pos (show ((l.length : Int) : Int).toNat ≤ 17592186044416 by simpa using hl)]
  exact toPairS_l0 l (by omega) l.length 0 _ (by omega) (by simp) (fun j hj => absurd hj (Nat.not_lt_zero _))
theorem toParty_ev (a : Int) (l : List S57) (hl : l.length ≤ 17592186044416) : Ev (fun k => laws_toParty.f k a l) (a, conv l) := by
  unfold laws_toParty.f
  exact Ev.bind (toPairS_ev l hl) (Ev.now _)
theorem FnExactPartyText : ∀ (a0 : Int) (l0 : List S57), (Lit.int .i64 a0).wf = true → l0.length ≤ maxLen → (∀ x ∈ l0, ∃ m n : Int, x = ⟨m, n⟩ ∧ (Lit.int .i64 m).wf = true ∧ (Lit.int .i64 n).wf = true) → ∃ k, laws_FnExactPartyText.f k a0 l0 = some true := by
  intro a0 l0 w0 hm0 hw0
  refine Ev.rounds ?_
  unfold laws_FnExactPartyText.f
  simp only [szParty_f a0 l0 1048576 (by omega) (by omega) hm0, Option.bind_some]
  by_cases hg0 : 1048576 - (l0.length : Int) < 0
  · simp only [if_pos hg0, show ((-1 : Int) < 0) from by decide, if_true]; exact Ev.now _
  simp only [if_neg hg0]
  have hlen0 : l0.length ≤ 1048576 := by omega
  have hcl0 := conv_len l0
  obtain ⟨R, hs, hi⟩ := PartyText_common a0 (conv l0) w0 (by rw [conv_len]; omega)
  refine Ev.bind (toParty_ev a0 l0 (by omega)) ?_
  refine Ev.bind hs ?_
  try simp only [if_true, if_false, bne_self_eq_false, Bool.false_eq_true, ↓reduceIte, decide_true]
  refine Ev.bind (toParty_ev a0 l0 (by omega)) ?_
  refine Ev.bind hi ?_
  try simp only [if_true, if_false, bne_self_eq_false, Bool.false_eq_true, ↓reduceIte, decide_true]
  try simp only [if_true, if_false, bne_self_eq_false, Bool.false_eq_true, ↓reduceIte, decide_true]
  refine Ev.step (fun k => rfl) ?_
  simp only [laws_FnExactPartyText.j0]
  try simp only [if_true, if_false, bne_self_eq_false, Bool.false_eq_true, ↓reduceIte, decide_true]
  refine Ev.bind (toParty_ev a0 l0 (by omega)) ?_
  refine Ev.bind (eqParty_self a0 (conv l0) (by omega)) ?_
  try simp only [if_true, if_false, bne_self_eq_false, Bool.false_eq_true, ↓reduceIte, decide_true]
  exact Ev.now _
end Go.Proofs.YtoedkkoafidalaaDoor.Pure
