/- The program's IsColouring returns what the reference's returns, for all arguments (the plain statement behind the printed walk); no condition. -/
import Derived.Test.YtiopgbpjkjnphaaPx0
import Derived.Test.YtiopgbpjkjnphaaPx1
import Derived.Test.YtiopgbpjkjnphaaPx17
import Derived.Test.YtiopgbpjkjnphaaPx2
import Derived.Test.YtiopgbpjkjnphaaPx21
import Derived.Test.YtiopgbpjkjnphaaPx22
import Derived.Test.YtiopgbpjkjnphaaPx23
import Derived.Test.YtiopgbpjkjnphaaPx3
import Derived.Test.YtiopgbpjkjnphaaPx5
import Derived.Test.YtiopgbpjkjnphaaPx6
namespace Go.Proofs.Ytiopgbpjkjnphaa.Pure
open Go.RowKit Go.Proofs.Ytiopgbpjkjnphaa.P Go.Proofs.YtiopgbpjkjnphaaW.PrintWords Go.Proofs.YtiopgbpjkjnphaaW.PrintLast
set_option linter.unusedSimpArgs false
set_option linter.unusedVariables false
def inAll (l : List Int) (lo hi : Int) : Bool := l.all fun n => decide (lo ≤ n) && decide (n ≤ hi)
theorem areWithin_f (l : List Int) (lo hi : Int) : impl_areWithin.f l lo hi = some (inAll l lo hi) := rfl

def alikeC (l1 : List Int) (x : S61) : Bool := rd l1 x.f0 == rd l1 x.f1
def crowd (n : Int) : Bool := decide (0 ≤ n ∧ n ≤ 12)
def lt2 (p q : S61) : Bool := decide (p.f0 < q.f0) || (decide (p.f0 = q.f0) && decide (p.f1 < q.f1))
def okPrev : Option S61 → S61 → Bool
  | none, _ => true
  | some p, x => lt2 p x
def okFrom (n : Int) : Option S61 → List S61 → Bool
  | _, [] => true
  | prev, x :: xs => (decide (0 ≤ x.f0) && (decide (x.f0 < x.f1) && (decide (x.f1 < n) && okPrev prev x))) && okFrom n (some x) xs
def good (n : Int) (l : List S61) : Bool := crowd n && okFrom n none l
def colourR (n : Int) (l : List S61) (l1 : List Int) : Bool × Bool := if good n l = true then ((decide ((l1.length : Int) = n) && inAll l1 0 11) && !(l.any (alikeC l1)), true) else (false, false)
def natPairs (m : Nat) (l : List S61) : Prop := ∀ x ∈ l, ∃ a b : Nat, x = ⟨(a : Int), (b : Int)⟩ ∧ a < b ∧ b < m
theorem okFrom_nat (m : Nat) : ∀ (l : List S61) (p : Option S61), okFrom (m : Int) p l = true → natPairs m l
  | [], _, _ => fun x hx => by simp at hx
  | x :: xs, p, h => by
    simp only [okFrom, Bool.and_eq_true, decide_eq_true_eq] at h
    obtain ⟨⟨h0, h1, h2, _⟩, h3⟩ := h
    intro y hy
    rcases List.mem_cons.1 hy with rfl | hy
    · refine ⟨y.f0.toNat, y.f1.toNat, ?_, by omega, by omega⟩
      rw [Int.toNat_of_nonneg h0, Int.toNat_of_nonneg (by omega)]
    · exact okFrom_nat m xs _ h3 y hy
theorem good_nat {n : Int} {l : List S61} (h : good n l = true) : ∃ m : Nat, n = (m : Int) ∧ m ≤ 12 ∧ natPairs m l ∧ okFrom (m : Int) none l = true := by
  unfold good crowd at h
  simp only [Bool.and_eq_true, decide_eq_true_eq] at h
  obtain ⟨⟨h0, h1⟩, h2⟩ := h
  obtain ⟨m, rfl⟩ := Int.eq_ofNat_of_zero_le h0
  exact ⟨m, rfl, by omega, okFrom_nat m l none h2, h2⟩
theorem good_row {n : Int} {l : List S61} (h : good n l = true) (l1 : List Int) (hn : (l1.length : Int) = n) : ∀ x ∈ l, 0 ≤ x.f0 ∧ x.f0 < (l1.length : Int) ∧ 0 ≤ x.f1 ∧ x.f1 < (l1.length : Int) := by
  obtain ⟨m, rfl, _, hp, _⟩ := good_nat h
  intro x hx
  obtain ⟨a, b, rfl, hab, hb⟩ := hp x hx
  simp only
  omega
theorem Ev.one {α : Type} {g : Nat → Option α} {r : α} (h : ∀ k, g (k + 1) = some r) : Ev g r := Ev.step h (Ev.now r)
theorem getD_get (l : List Int) (i : Nat) (h : i < l.length) : l.getD i 0 = l[i] := by simp [List.getD_eq_getElem?_getD, h]
theorem l1In_f (a lo hi : Int) : spec_l1In.f a lo hi = some (decide (lo ≤ a) && decide (a ≤ hi)) := by
  unfold spec_l1In.f
  by_cases h : lo ≤ a
  · rw [if_pos h]; simp [h]
  · rw [if_neg h]; simp [h]
theorem w1 {n : Nat} (h : n < 4611686018427387904) : wrap64 ((n : Int) + 1) = ((n + 1 : Nat) : Int) := by unfold wrap64; omega
theorem l1All_l0 (l : List Int) (lo hi : Int) (hl : l.length < 4611686018427387904) : ∀ (d i : Nat), i + d = l.length → Ev (fun k => spec_l1All.l0 k lo hi l (l.length : Int) i) (inAll (l.drop i) lo hi)
  | 0, i, hd => by
    refine Ev.one (fun k => ?_)
    rw [spec_l1All.l0, if_neg (by omega), List.drop_of_length_le (by omega)]; rfl
  | d + 1, i, hd => by
    have hi' : i < l.length := by omega
    have e : rd l (i : Int) = l[i] := getD_get l i hi'
    have eD : inAll (l.drop i) lo hi = ((decide (lo ≤ l[i]) && decide (l[i] ≤ hi)) && inAll (l.drop (i + 1)) lo hi) := by
      rw [List.drop_eq_getElem_cons hi']; rfl
    rw [eD]
    cases hb : (decide (lo ≤ l[i]) && decide (l[i] ≤ hi)) with
    | false =>
      refine Ev.one (fun k => ?_)
      rw [spec_l1All.l0, if_pos (by omega), if_pos (by omega), if_pos (by omega), l1In_f, e, hb]; rfl
    | true =>
      refine Ev.step (fun k => ?_) (l1All_l0 l lo hi hl d (i + 1) (by omega))
      rw [spec_l1All.l0, if_pos (by omega), if_pos (by omega), if_pos (by omega), l1In_f, e, hb, w1 (by omega)]; rfl
theorem l1All_ev (l : List Int) (lo hi : Int) (hl : l.length < 4611686018427387904) : Ev (fun k => spec_l1All.f k l lo hi) (inAll l lo hi) := by
  unfold spec_l1All.f
  simpa using l1All_l0 l lo hi hl l.length 0 (by omega)
theorem grColours_ev (n : Int) (l : List S61) (l1 : List Int) (hl1 : l1.length ≤ 1048576) : Ev (fun k => spec_grColours.f k n l l1) (decide ((l1.length : Int) = n) && inAll l1 0 11) := by
  unfold spec_grColours.f
  by_cases hn : (l1.length : Int) = n
  · rw [decide_eq_true hn, Bool.true_and]
    simp only [if_pos hn]
    exact Ev.bind (l1All_ev l1 0 11 (by omega)) (Ev.now _)
  · rw [decide_eq_false hn, Bool.false_and]
    simp only [if_neg hn]
    exact Ev.now _
theorem grDiffer_l0 (l1 : List Int) (L : List S61) (hL : L.length < 4611686018427387904) (hok : ∀ x ∈ L, 0 ≤ x.f0 ∧ x.f0 < (l1.length : Int) ∧ 0 ≤ x.f1 ∧ x.f1 < (l1.length : Int)) : ∀ (d i : Nat), i + d = L.length → Ev (fun k => spec_grDiffer.l0 k l1 L (L.length : Int) i) (!((L.drop i).any (alikeC l1)))
  | 0, i, hd => by
    refine Ev.one (fun k => ?_)
    rw [spec_grDiffer.l0, if_neg (by omega), List.drop_of_length_le (by omega)]; rfl
  | d + 1, i, hd => by
    have hi' : i < L.length := by omega
    have e : rd_T61 L (i : Int) = L[i] := by unfold rd_T61; simp [List.getD_eq_getElem?_getD, hi']
    obtain ⟨h1, h2, h3, h4⟩ := hok L[i] (List.getElem_mem hi')
    rw [List.drop_eq_getElem_cons hi', List.any_cons]
    cases hb : alikeC l1 L[i] with
    | true =>
      refine Ev.one (fun k => ?_)
      rw [spec_grDiffer.l0, if_pos (by omega), if_pos (by omega), if_pos (by omega), e, if_pos h1, if_pos h2, if_pos h3, if_pos h4, if_pos (by simpa [alikeC] using hb)]; rfl
    | false =>
      simp only [Bool.false_or]
      refine Ev.step (fun k => ?_) (grDiffer_l0 l1 L hL hok d (i + 1) (by omega))
      rw [spec_grDiffer.l0, if_pos (by omega), if_pos (by omega), if_pos (by omega), e, if_pos h1, if_pos h2, if_pos h3, if_pos h4, if_neg (by simpa [alikeC] using hb), w1 (by omega)]
theorem grDiffer_ev (n : Int) (l : List S61) (l1 : List Int) (hL : l.length < 4611686018427387904) (hok : ∀ x ∈ l, 0 ≤ x.f0 ∧ x.f0 < (l1.length : Int) ∧ 0 ≤ x.f1 ∧ x.f1 < (l1.length : Int)) : Ev (fun k => spec_grDiffer.f k n l l1) (!(l.any (alikeC l1))) := by
  unfold spec_grDiffer.f
  simpa using grDiffer_l0 l1 l hL hok l.length 0 (by omega)
theorem Ev.cast {α : Type} {g : Nat → Option α} {a b : α} (h : Ev g a) (e : a = b) : Ev g b := e ▸ h
theorem within_f (a lo hi : Int) : impl_within.f a lo hi = some (decide (lo ≤ a) && decide (a ≤ hi)) := by
  unfold impl_within.f
  by_cases h : lo ≤ a
  · rw [if_pos h]; simp [h]
  · rw [if_neg h]; simp [h]
theorem areCrowd_f (a : Int) : impl_areCrowd.f a = some (decide (0 ≤ a ∧ a ≤ 12)) := by
  unfold impl_areCrowd.f
  rw [within_f]; simp [Bool.decide_and]
def cmp3 (a b : Int) : Int := if a < b then -1 else if a > b then 1 else 0
def cmpP (p q : S61) : Int := if cmp3 p.f0 q.f0 = 0 then cmp3 p.f1 q.f1 else cmp3 p.f0 q.f0
theorem cmpP_neg (p q : S61) : decide (cmpP p q ≥ 0) = !lt2 p q := by
  unfold cmpP cmp3 lt2
  by_cases h1 : p.f0 < q.f0
  · simp [h1]
  · by_cases h2 : p.f0 > q.f0
    · have h3 : ¬ p.f0 = q.f0 := by omega
      simp [h1, h2, h3]
    · have h3 : p.f0 = q.f0 := by omega
      by_cases h4 : p.f1 < q.f1
      · simp [h3, h4]
      · by_cases h5 : p.f1 > q.f1
        · simp [h3, h4, h5]
        · simp [h3, h4, h5]
theorem cmpOr_ev (a b : Int) : Ev (fun k => cmp_Or_int.f k [a, b]) (if a = 0 then b else a) := by
  refine ⟨3, fun k hk => ?_⟩
  obtain ⟨k, rfl⟩ : ∃ m, k = m + 3 := ⟨k - 3, by omega⟩
  have e1 : wrap64 (0 + 1) = 1 := by unfold wrap64; omega
  have e2 : wrap64 (1 + 1) = 2 := by unfold wrap64; omega
  have r0 : rd [a, b] 0 = a := rfl
  have r1 : rd [a, b] 1 = b := rfl
  simp only [cmp_Or_int.f, cmp_Or_int.l0, List.length_cons, List.length_nil, r0, r1, e1, e2]
  by_cases h : a = 0
  · by_cases h2 : b = 0
    · simp [h, h2]
    · simp [h, h2]
  · simp [h]
theorem compare_f (a b : Int) : cmp_Compare_int.f a b = some (cmp3 a b) := by
  unfold cmp_Compare_int.f cmp_isNaN_int.f cmp3
  simp
  by_cases h : a < b
  · simp [h]
  · by_cases h2 : a > b
    · simp [h, h2]
    · simp [h, h2]
theorem comparePairs_ev (p q : S61) : Ev (fun k => impl_comparePairs.f k p.f0 p.f1 q.f0 q.f1) (cmpP p q) := by
  unfold impl_comparePairs.f
  simp only [compare_f, Option.bind_some]
  exact Ev.bind (cmpOr_ev _ _) (Ev.now _)
theorem rdT_mid (pre rest : List S61) (x : S61) : rd_T61 (pre ++ x :: rest) (pre.length : Int) = x := by
  unfold rd_T61
  simp [List.getD_eq_getElem?_getD]
theorem w64 {i : Int} (h0 : -9223372036854775808 ≤ i) (h : i ≤ 9223372036854775807) : wrap64 i = i := by unfold wrap64; omega
theorem implIsParty_l0 (n : Int) (l : List S61) (hl : l.length < 4611686018427387904) : ∀ (rest pre : List S61), l = pre ++ rest → Ev (fun k => impl_IsParty.l0 k l (l.length : Int) (pre.length : Int) n l) (okFrom n pre.getLast? rest && crowd n)
  | [], pre, h => by
    refine Ev.one (fun k => ?_)
    have e : l.length = pre.length := by rw [h]; simp
    rw [impl_IsParty.l0, if_neg (by omega), areCrowd_f]
    simp [okFrom, crowd]
  | x :: rest, pre, h => by
    have hlen : pre.length < l.length := by rw [h]; simp
    have hx : rd_T61 l (pre.length : Int) = x := by rw [h]; exact rdT_mid pre rest x
    have ih := implIsParty_l0 n l hl rest (pre ++ [x]) (by rw [h]; simp)
    rw [List.getLast?_concat, List.length_append, List.length_singleton] at ih
    by_cases c1 : x.f0 < 0
    · refine Ev.one (fun k => ?_)
      rw [impl_IsParty.l0, if_pos (by omega), if_pos (by omega), if_pos (by omega), hx, if_pos c1]
      have : decide (0 ≤ x.f0) = false := by simp; omega
      simp [okFrom, this]
    by_cases c2 : x.f0 ≥ x.f1
    · refine Ev.one (fun k => ?_)
      rw [impl_IsParty.l0, if_pos (by omega), if_pos (by omega), if_pos (by omega), hx, if_neg c1, if_pos c2]
      have : decide (x.f0 < x.f1) = false := by simp; omega
      simp [okFrom, this]
    by_cases c3 : x.f1 ≥ n
    · refine Ev.one (fun k => ?_)
      rw [impl_IsParty.l0, if_pos (by omega), if_pos (by omega), if_pos (by omega), hx, if_neg c1, if_neg c2, if_pos c3]
      have : decide (x.f1 < n) = false := by simp; omega
      simp [okFrom, this]
    have d1 : decide (0 ≤ x.f0) = true := by simp; omega
    have d2 : decide (x.f0 < x.f1) = true := by simp; omega
    have d3 : decide (x.f1 < n) = true := by simp; omega
    rcases List.eq_nil_or_concat pre with rfl | ⟨q, p, rfl⟩
    · refine Ev.cast (Ev.step (fun k => ?_) ih) ?_
      · rw [impl_IsParty.l0, if_pos (by omega), if_pos (by omega), if_pos (by omega), hx, if_neg c1, if_neg c2, if_neg c3, if_neg (by simp), w1 (by simp)]
      · simp [okFrom, d1, d2, d3, okPrev]
    · rw [List.concat_eq_append] at hlen hx ih h ⊢
      have hp : rd_T61 l (q.length : Int) = p := by rw [h, List.append_assoc]; exact rdT_mid q (x :: rest) p
      have hq : (q ++ [p]).length = q.length + 1 := by simp
      rw [hq] at hlen hx ih ⊢
      refine Ev.step (f := fun k => (impl_comparePairs.f k p.f0 p.f1 x.f0 x.f1).bind fun t => if t ≥ 0 then some false else impl_IsParty.l0 k l (l.length : Int) ((q.length + 1 + 1 : Nat) : Int) n l) (fun k => ?_) (Ev.bind (comparePairs_ev p x) ?_)
      · rw [impl_IsParty.l0, if_pos (by omega), if_pos (by omega), if_pos (by omega), hx, if_neg c1, if_neg c2, if_neg c3, if_pos (by omega), w64 (i := ((q.length + 1 : Nat) : Int) - 1) (by omega) (by omega), show ((q.length + 1 : Nat) : Int) - 1 = (q.length : Int) by omega, if_pos (by omega), if_pos (by omega), hp, w1 (by omega)]
      · have hc := cmpP_neg p x
        rw [List.getLast?_concat]
        by_cases hlt : lt2 p x = true
        · have c4 : ¬ cmpP p x ≥ 0 := by rw [hlt] at hc; simpa using hc
          simp only [if_neg c4]
          refine Ev.cast ih ?_
          simp [okFrom, d1, d2, d3, okPrev, hlt]
        · have hlt' : lt2 p x = false := by simpa using hlt
          have c4 : cmpP p x ≥ 0 := by rw [hlt'] at hc; simpa using hc
          simp only [if_pos c4]
          refine Ev.cast (Ev.now _) ?_
          simp [okFrom, okPrev, hlt']
theorem implIsParty_ev (n : Int) (l : List S61) (hl : l.length < 4611686018427387904) : Ev (fun k => impl_IsParty.f k n l) (good n l) := by
  unfold impl_IsParty.f
  have := implIsParty_l0 n l hl l [] rfl
  rw [Bool.and_comm] at this
  exact this
/-! the number of pairs -/
def below (m : Nat) : Nat → Nat
  | 0 => 0
  | a + 1 => below m a + (m - 1 - a)
theorem below_all (m : Nat) (h : m ≤ 12) : Int.tdiv ((m : Int) * ((m : Int) - 1)) 2 = (below m m : Int) := by
  have : m = 0 ∨ m = 1 ∨ m = 2 ∨ m = 3 ∨ m = 4 ∨ m = 5 ∨ m = 6 ∨ m = 7 ∨ m = 8 ∨ m = 9 ∨ m = 10 ∨ m = 11 ∨ m = 12 := by omega
  rcases this with rfl | rfl | rfl | rfl | rfl | rfl | rfl | rfl | rfl | rfl | rfl | rfl | rfl <;> rfl
/-- where a pair stands among all pairs of m people -/
def rank (m : Nat) (x : S61) : Nat := below m x.f0.toNat + (x.f1.toNat - x.f0.toNat - 1)
theorem below_mono (m a : Nat) : ∀ d, below m a ≤ below m (a + d)
  | 0 => Nat.le_refl _
  | d + 1 => Nat.le_trans (below_mono m a d) (by show below m (a + d) ≤ below m (a + d) + _; omega)
theorem rank_lt (m : Nat) (p x : S61) (h : lt2 p x = true) (p0 : 0 ≤ p.f0) (p1 : p.f0 < p.f1) (p2 : p.f1 < m) (x0 : 0 ≤ x.f0) (x1 : x.f0 < x.f1) : rank m p < rank m x := by
  unfold lt2 at h
  unfold rank
  simp at h
  rcases h with h | ⟨h, h2⟩
  · have h1 := below_mono m (p.f0.toNat + 1) (x.f0.toNat - (p.f0.toNat + 1))
    rw [show p.f0.toNat + 1 + (x.f0.toNat - (p.f0.toNat + 1)) = x.f0.toNat by omega] at h1
    have h3 : below m (p.f0.toNat + 1) = below m p.f0.toNat + (m - 1 - p.f0.toNat) := rfl
    omega
  · rw [h]; omega
theorem rank_top (m : Nat) (x : S61) (x0 : 0 ≤ x.f0) (x1 : x.f0 < x.f1) (x2 : x.f1 < m) : rank m x < below m m := by
  unfold rank
  have h1 := below_mono m (x.f0.toNat + 1) (m - (x.f0.toNat + 1))
  rw [show x.f0.toNat + 1 + (m - (x.f0.toNat + 1)) = m by omega] at h1
  have h3 : below m (x.f0.toNat + 1) = below m x.f0.toNat + (m - 1 - x.f0.toNat) := rfl
  omega
theorem okFrom_len (m : Nat) : ∀ (l : List S61) (p : S61), 0 ≤ p.f0 → p.f0 < p.f1 → p.f1 < m → okFrom m (some p) l = true → rank m p + l.length < below m m
  | [], p, p0, p1, p2, _ => rank_top m p p0 p1 p2
  | x :: xs, p, p0, p1, p2, h => by
    simp [okFrom, okPrev] at h
    obtain ⟨⟨x0, x1, x2, hlt⟩, h⟩ := h
    have ih := okFrom_len m xs x x0 x1 x2 h
    have := rank_lt m p x hlt p0 p1 p2 x0 x1
    simp only [List.length_cons]
    omega
theorem good_len (m : Nat) (l : List S61) (h : okFrom m none l = true) : l.length ≤ below m m := by
  cases l with
  | nil => simp
  | cons x xs =>
    simp [okFrom, okPrev] at h
    obtain ⟨⟨x0, x1, x2⟩, h⟩ := h
    have := okFrom_len m xs x x0 x1 x2 h
    simp only [List.length_cons]
    omega
theorem paLess_f (p x : S61) : spec_paLess.f p.f0 p.f1 x.f0 x.f1 = some (lt2 p x) := by
  unfold spec_paLess.f lt2
  by_cases h : p.f0 < x.f0
  · simp [h]
  · by_cases h2 : p.f0 = x.f0
    · simp [h2]
    · simp [h, h2]
theorem paGood_l0 (m : Nat) (hm : m ≤ 12) (l : List S61) (hl : l.length < 4611686018427387904) : ∀ (rest pre : List S61), l = pre ++ rest → Ev (fun k => spec_paGood.l0 k l (l.length : Int) (pre.length : Int) (m : Int) l) (okFrom m pre.getLast? rest)
  | [], pre, h => by
    refine Ev.one (fun k => ?_)
    have e : l.length = pre.length := by rw [h]; simp
    rw [spec_paGood.l0, if_neg (by omega)]
    simp [okFrom]
  | x :: rest, pre, h => by
    have hlen : pre.length < l.length := by rw [h]; simp
    have hx : rd_T61 l (pre.length : Int) = x := by rw [h]; exact rdT_mid pre rest x
    have ih := paGood_l0 m hm l hl rest (pre ++ [x]) (by rw [h]; simp)
    rw [List.getLast?_concat, List.length_append, List.length_singleton] at ih
    have em : wrap64 ((m : Int) - 1) = (m : Int) - 1 := w64 (by omega) (by omega)
    by_cases c1 : 0 ≤ x.f0 ∧ x.f0 ≤ (m : Int) - 1
    · have e1 : wrap64 (x.f0 + 1) = x.f0 + 1 := w64 (by omega) (by omega)
      have b1 : (decide (0 ≤ x.f0) && decide (x.f0 ≤ (m : Int) - 1)) = true := by simp; exact c1
      by_cases c2 : x.f0 + 1 ≤ x.f1 ∧ x.f1 ≤ (m : Int) - 1
      · have b2 : (decide (x.f0 + 1 ≤ x.f1) && decide (x.f1 ≤ (m : Int) - 1)) = true := by simp; exact c2
        have d1 : decide (0 ≤ x.f0) = true := by simp; omega
        have d2 : decide (x.f0 < x.f1) = true := by simp; omega
        have d3 : decide (x.f1 < (m : Int)) = true := by simp; omega
        rcases List.eq_nil_or_concat pre with rfl | ⟨q, p, rfl⟩
        · refine Ev.cast (Ev.step (fun k => ?_) ih) ?_
          · rw [spec_paGood.l0, if_pos (by omega), if_pos (by omega), if_pos (by omega), hx, em, e1, l1In_f, l1In_f, b1, b2]
            simp only [Option.bind_some, if_true]
            rw [if_neg (by simp), w1 (by simp)]
          · simp [okFrom, d1, d2, d3, okPrev]
        · rw [List.concat_eq_append] at hlen hx ih h ⊢
          have hp : rd_T61 l (q.length : Int) = p := by rw [h, List.append_assoc]; exact rdT_mid q (x :: rest) p
          have hq : (q ++ [p]).length = q.length + 1 := by simp
          rw [hq] at hlen hx ih ⊢
          rw [List.getLast?_concat]
          cases hlt : lt2 p x with
          | true =>
            refine Ev.cast (Ev.step (fun k => ?_) ih) ?_
            · rw [spec_paGood.l0, if_pos (by omega), if_pos (by omega), if_pos (by omega), hx, em, e1, l1In_f, l1In_f, b1, b2]
              simp only [Option.bind_some, if_true]
              rw [if_pos (by omega), w64 (i := ((q.length + 1 : Nat) : Int) - 1) (by omega) (by omega), show ((q.length + 1 : Nat) : Int) - 1 = (q.length : Int) by omega, if_pos (by omega), if_pos (by omega), hp, paLess_f, hlt, w1 (by omega)]
              rfl
            · simp [okFrom, d1, d2, d3, okPrev, hlt]
          | false =>
            refine Ev.one (fun k => ?_)
            rw [spec_paGood.l0, if_pos (by omega), if_pos (by omega), if_pos (by omega), hx, em, e1, l1In_f, l1In_f, b1, b2]
            simp only [Option.bind_some, if_true]
            rw [if_pos (by omega), w64 (i := ((q.length + 1 : Nat) : Int) - 1) (by omega) (by omega), show ((q.length + 1 : Nat) : Int) - 1 = (q.length : Int) by omega, if_pos (by omega), if_pos (by omega), hp, paLess_f, hlt]
            simp [okFrom, okPrev, hlt]
      · refine Ev.one (fun k => ?_)
        have b2 : (decide (x.f0 + 1 ≤ x.f1) && decide (x.f1 ≤ (m : Int) - 1)) = false := by simp; omega
        rw [spec_paGood.l0, if_pos (by omega), if_pos (by omega), if_pos (by omega), hx, em, e1, l1In_f, l1In_f, b1, b2]
        have : (decide (x.f0 < x.f1) && decide (x.f1 < (m : Int))) = false := by simp; omega
        simp only [okFrom, ← Bool.and_assoc (decide (x.f0 < x.f1)), this]
        simp
    · refine Ev.one (fun k => ?_)
      have b1 : (decide (0 ≤ x.f0) && decide (x.f0 ≤ (m : Int) - 1)) = false := by simp; omega
      rw [spec_paGood.l0, if_pos (by omega), if_pos (by omega), if_pos (by omega), hx, em, l1In_f, b1]
      have : (decide (0 ≤ x.f0) && (decide (x.f0 < x.f1) && (decide (x.f1 < (m : Int)) && okPrev pre.getLast? x))) = false := by
        by_cases z0 : 0 ≤ x.f0
        · by_cases z1 : x.f0 < x.f1
          · have : ¬ x.f1 < (m : Int) := by omega
            simp [this]
          · simp [z1]
        · simp [z0]
      simp [okFrom, this]
theorem paPeople_f (a : Int) : spec_paPeople.f a = some (decide (0 ≤ a ∧ a ≤ 12)) := by
  unfold spec_paPeople.f
  rw [l1In_f]; simp [Bool.decide_and]
theorem paGood_ev (n : Int) (l : List S61) (hl : l.length < 4611686018427387904) : Ev (fun k => spec_paGood.f k n l) (good n l) := by
  unfold spec_paGood.f
  rw [paPeople_f]
  by_cases h : 0 ≤ n ∧ n ≤ 12
  · obtain ⟨m, rfl⟩ := Int.eq_ofNat_of_zero_le h.1
    have hm : m ≤ 12 := by omega
    have hc : crowd (m : Int) = true := by unfold crowd; simp; omega
    have hmul : (m : Int) * ((m : Int) - 1) ≤ 144 := by
      have : m = 0 ∨ m = 1 ∨ m = 2 ∨ m = 3 ∨ m = 4 ∨ m = 5 ∨ m = 6 ∨ m = 7 ∨ m = 8 ∨ m = 9 ∨ m = 10 ∨ m = 11 ∨ m = 12 := by omega
      rcases this with rfl | rfl | rfl | rfl | rfl | rfl | rfl | rfl | rfl | rfl | rfl | rfl | rfl <;> decide
    have hmul0 : 0 ≤ (m : Int) * ((m : Int) - 1) := by
      have : m = 0 ∨ m = 1 ∨ m = 2 ∨ m = 3 ∨ m = 4 ∨ m = 5 ∨ m = 6 ∨ m = 7 ∨ m = 8 ∨ m = 9 ∨ m = 10 ∨ m = 11 ∨ m = 12 := by omega
      rcases this with rfl | rfl | rfl | rfl | rfl | rfl | rfl | rfl | rfl | rfl | rfl | rfl | rfl <;> decide
    have hb : (below m m : Int) ≤ 144 := by
      have : m = 0 ∨ m = 1 ∨ m = 2 ∨ m = 3 ∨ m = 4 ∨ m = 5 ∨ m = 6 ∨ m = 7 ∨ m = 8 ∨ m = 9 ∨ m = 10 ∨ m = 11 ∨ m = 12 := by omega
      rcases this with rfl | rfl | rfl | rfl | rfl | rfl | rfl | rfl | rfl | rfl | rfl | rfl | rfl <;> decide
    have e : wrap64 (Int.tdiv (wrap64 ((m : Int) * (wrap64 ((m : Int) - 1)))) 2) = (below m m : Int) := by
      rw [w64 (i := (m : Int) - 1) (by omega) (by omega), w64 (i := (m : Int) * ((m : Int) - 1)) (by omega) (by omega), below_all m hm, w64 (by omega) (by omega)]
    simp only [h, decide_true, Option.bind_some, if_true, e, and_self]
    unfold good
    rw [hc, Bool.true_and]
    by_cases hlen : l.length ≤ below m m
    · refine Ev.step (fun k => ?_) (paGood_l0 m hm l hl l [] rfl)
      have : decide ((l.length : Int) > (below m m : Int)) = false := by simp; omega
      rw [this, spec_paGood.j0, if_neg (by decide)]
      rfl
    · refine Ev.one (fun k => ?_)
      have : decide ((l.length : Int) > (below m m : Int)) = true := by simp; omega
      rw [this, spec_paGood.j0, if_pos rfl]
      have hn : okFrom (m : Int) none l = false := by
        cases hok : okFrom (m : Int) none l with
        | false => rfl
        | true => exact absurd (good_len m l hok) hlen
      rw [hn]
  · have hc : crowd n = false := by unfold crowd; simp; omega
    simp only [h, decide_false, Option.bind_some]
    unfold good
    rw [hc]
    refine Ev.one (fun k => ?_)
    rw [if_neg (by decide), spec_paGood.j0]; simp

theorem IsColouring_common (n : Int) (l : List S61) (l1 : List Int) (w : (Lit.int .i64 n).wf = true) (hl : l.length ≤ 1048576) (hl1 : l1.length ≤ 1048576) : ∃ R : Bool × Bool, Ev (fun k => spec_IsColouring.f k n l l1) R ∧ Ev (fun k => impl_IsColouring.f k n l l1) R := by
  refine ⟨colourR n l l1, ?_, ?_⟩
  · unfold spec_IsColouring.f colourR
    refine Ev.bind (paGood_ev n l (by omega)) ?_
    cases h : good n l with
    | false => simp only [Bool.false_eq_true, if_false]; exact Ev.now _
    | true =>
      simp only [if_true]
      refine Ev.bind (grColours_ev n l l1 hl1) ?_
      by_cases hn : (l1.length : Int) = n
      · rw [decide_eq_true hn, Bool.true_and]
        cases inAll l1 0 11 with
        | false => simp only [Bool.false_eq_true, if_false, Bool.false_and]; exact Ev.now _
        | true =>
          simp only [if_true, Bool.true_and]
          exact Ev.bind (grDiffer_ev n l l1 (by omega) (good_row h l1 hn)) (Ev.now _)
      · rw [decide_eq_false hn, Bool.false_and]
        simp only [Bool.false_eq_true, if_false, Bool.false_and]
        exact Ev.now _
  · unfold impl_IsColouring.f colourR
    refine Ev.bind (implIsParty_ev n l (by omega)) ?_
    cases h : good n l with
    | false => simp only [Bool.false_eq_true, if_false]; exact Ev.now _
    | true =>
      simp only [if_true]
      by_cases hn : (l1.length : Int) = n
      · rw [decide_eq_true hn, Bool.true_and]
        simp only [if_pos hn, areWithin_f, Option.bind_some]
        cases inAll l1 0 11 with
        | false => simp only [Bool.false_eq_true, if_false, Bool.false_and]; exact Ev.now _
        | true =>
          have ha : l.all (inRow l1.length) = true := List.all_eq_true.mpr fun x hx => by
            obtain ⟨h1, h2, h3, h4⟩ := good_row h l1 hn x hx
            simp only [inRow, Bool.and_eq_true, decide_eq_true_eq]
            exact ⟨⟨⟨h1, h2⟩, h3⟩, h4⟩
          simp only [if_true, Bool.true_and, if_pos ha]
          exact Ev.now _
      · rw [decide_eq_false hn, Bool.false_and]
        simp only [if_neg hn, Bool.false_and]
        exact Ev.now _

def conv (l : List S88) : List S61 := l.map fun x => ⟨x.f0, x.f1⟩
theorem conv_len (l : List S88) : (conv l).length = l.length := by simp [conv]
theorem ext_getD {a b : List Int} (h : a.length = b.length) (hj : ∀ j, j < a.length → a.getD j 0 = b.getD j 0) : a = b := by
  apply List.ext_getElem h
  intro i h1 h2
  have := hj i h1
  simpa [List.getD_eq_getElem?_getD, h1, h2] using this
theorem eqIntS_l0 (a b : List Int) (h : a.length = b.length) (hl : a.length < 4611686018427387904) : ∀ (d i : Nat), i + d = a.length → (∀ j, j < i → a.getD j 0 = b.getD j 0) → Ev (fun k => laws_eqIntS.l0 k a b i) (decide (a = b))
  | 0, i, hd, hj => by
    refine Ev.one (fun k => ?_)
    have : a = b := ext_getD h (fun j hj' => hj j (by omega))
    rw [laws_eqIntS.l0, if_neg (by omega)]; simp [this]
  | d + 1, i, hd, hj => by
    by_cases e : a.getD i 0 = b.getD i 0
    · refine Ev.step (f := fun k => laws_eqIntS.l0 k a b ((i + 1 : Nat) : Int)) (fun k => ?_) (eqIntS_l0 a b h hl d (i + 1) (by omega) ?_)
      · rw [laws_eqIntS.l0, if_pos (by omega), if_pos (by omega), if_pos (by omega), if_pos (by exact e), w1 (by omega)]
      · intro j hj'
        by_cases e2 : j = i
        · rw [e2]; exact e
        · exact hj j (by omega)
    · refine Ev.one (fun k => ?_)
      have : a ≠ b := fun h => e (by rw [h])
      rw [laws_eqIntS.l0, if_pos (by omega), if_pos (by omega), if_pos (by omega), if_neg (by exact e)]; simp [this]
theorem eqIntS_ev (a b : List Int) (hl : a.length < 4611686018427387904) : Ev (fun k => laws_eqIntS.f k a b) (decide (a = b)) := by
  unfold laws_eqIntS.f
  by_cases h : a.length = b.length
  · simp only [if_pos (show (a.length : Int) = (b.length : Int) by omega)]
    exact eqIntS_l0 a b h hl a.length 0 (by omega) (fun j hj => absurd hj (Nat.not_lt_zero _))
  · simp only [if_neg (show ¬ (a.length : Int) = (b.length : Int) by omega)]
    have : a ≠ b := fun e => h (by rw [e])
    exact Ev.one (fun k => by simp [this])
theorem eqIntS_self (a : List Int) (hl : a.length < 4611686018427387904) : Ev (fun k => laws_eqIntS.f k a a) true := by
  have h := eqIntS_ev a a hl
  rwa [decide_eq_true rfl] at h
theorem eqPairS_l0 (l : List S61) (hl : l.length < 4611686018427387904) : ∀ (d i : Nat), i + d = l.length → Ev (fun k => laws_eqPairS.l0 k l l i) true
  | 0, i, hd => by
    refine Ev.one (fun k => ?_)
    rw [laws_eqPairS.l0, if_neg (by omega)]
  | d + 1, i, hd => by
    refine Ev.step (fun k => ?_) (eqPairS_l0 l hl d (i + 1) (by omega))
    rw [laws_eqPairS.l0, if_pos (by omega), if_pos (by omega), if_pos (by omega), laws_eqPair.f, if_pos rfl, if_pos rfl, w1 (by omega)]
    rfl
theorem eqParty_self (a : Int) (l : List S61) (hl : l.length < 4611686018427387904) : Ev (fun k => laws_eqParty.f k a l a l) true := by
  unfold laws_eqParty.f laws_eqPairS.f
  simp only [if_true]
  have h : Ev (fun k => laws_eqPairS.l0 k l l 0) true := by simpa using eqPairS_l0 l hl l.length 0 (by omega)
  refine Ev.bind h ?_
  simp only [if_true]
  exact Ev.now _

theorem szParty_f (a0 : Int) (l : List S88) (a1 : Int) (h0 : 0 ≤ a1) (h1 : a1 ≤ 1048576) (hl : l.length ≤ maxLen) : laws_szParty.f a0 l a1 = some (if a1 - l.length < 0 then -1 else a1 - l.length) := by
  unfold maxLen at hl
  unfold laws_szParty.f laws_szPairS.f
  rw [w64 (by omega) (by omega)]
  by_cases h : a1 - l.length < 0
  · simp [h]
  · simp [h]
theorem getD_set (l : List Int) (i j : Nat) (v : Int) (hi : i < l.length) : (l.set i v).getD j 0 = if i = j then v else l.getD j 0 := by
  rw [List.getD_eq_getElem?_getD, List.getElem?_set]
  by_cases h : i = j
  · subst h; simp [hi]
  · simp [h]
theorem toIntS_l0 (l : List Int) (hl : l.length < 4611686018427387904) : ∀ (d i : Nat) (y : List Int), i + d = l.length → y.length = l.length → (∀ j, j < i → y.getD j 0 = l.getD j 0) → Ev (fun k => laws_toIntS.l0 k l y i) l
  | 0, i, y, hd, hy, h => by
    refine Ev.one (fun k => ?_)
    rw [laws_toIntS.l0, if_neg (by omega), ext_getD hy (fun j hj => h j (by omega))]
  | d + 1, i, y, hd, hy, h => by
    refine Ev.step (f := fun k => laws_toIntS.l0 k l (y.set i (l.getD i 0)) ((i + 1 : Nat) : Int)) (fun k => ?_) (toIntS_l0 l hl d (i + 1) _ (by omega) (by simpa using hy) ?_)
    · rw [laws_toIntS.l0, if_pos (by omega), if_pos (by omega), if_pos (by omega), w1 (by omega)]; rfl
    · intro j hj
      rw [getD_set _ _ _ _ (by omega)]
      by_cases e : i = j
      · simp [e]
      · rw [if_neg e]; exact h j (by omega)
theorem toIntS_ev (l : List Int) (hl : l.length ≤ 35184372088832) : Ev (fun k => laws_toIntS.f k l) l := by
  unfold laws_toIntS.f
  simp only [if_pos (show (0 : Int) ≤ (l.length : Int) by omega), if_pos (show ((l.length : Int) : Int).toNat ≤ 35184372088832 by simpa using hl)]
  exact toIntS_l0 l (by omega) l.length 0 _ (by omega) (by simp) (fun j hj => absurd hj (Nat.not_lt_zero _))
theorem getD_of_get {α : Type} (l : List α) (i : Nat) (d x : α) (h : l[i]? = some x) : l.getD i d = x := by rw [List.getD_eq_getElem?_getD, h]; rfl
theorem toPairS_l0 (l : List S88) (hl : l.length < 4611686018427387904) : ∀ (d i : Nat) (y : List S61), i + d = l.length → y.length = l.length → (∀ j, j < i → y[j]? = (conv l)[j]?) → Ev (fun k => laws_toPairS.l0 k l y i) (conv l)
  | 0, i, y, hd, hy, h => by
    refine Ev.one (fun k => ?_)
    have e : y = conv l := by
      apply List.ext_getElem?
      intro j
      by_cases hj : j < i
      · exact h j hj
      · rw [List.getElem?_eq_none (by omega), List.getElem?_eq_none (by rw [conv_len]; omega)]
    rw [laws_toPairS.l0, if_neg (by omega), e]
  | d + 1, i, y, hd, hy, h => by
    have hi : i < l.length := by omega
    have hx : rd_T88 l (i : Int) = l[i] := getD_of_get l i _ _ (List.getElem?_eq_getElem hi)
    refine Ev.step (fun k => ?_) (toPairS_l0 l hl d (i + 1) (y.set i ⟨l[i].f0, l[i].f1⟩) (by omega) (by simpa using hy) ?_)
    · rw [laws_toPairS.l0, if_pos (by omega), if_pos (by omega), hx, laws_toPair.f]
      simp only [Option.bind_some]
      rw [if_pos (by omega), w1 (by omega)]
      rfl
    · intro j hj
      rw [List.getElem?_set]
      by_cases e : i = j
      · subst e
        have hiy : i < y.length := by omega
        simp [conv, hi, hiy]
      · rw [if_neg e]; exact h j (by omega)
theorem toPairS_ev (l : List S88) (hl : l.length ≤ 17592186044416) : Ev (fun k => laws_toPairS.f k l) (conv l) := by
  unfold laws_toPairS.f
  simp only [if_pos (show (0 : Int) ≤ (l.length : Int) by omega), if_pos (show ((l.length : Int) : Int).toNat ≤ 17592186044416 by simpa using hl)]
  exact toPairS_l0 l (by omega) l.length 0 _ (by omega) (by simp) (fun j hj => absurd hj (Nat.not_lt_zero _))
theorem toParty_ev (a : Int) (l : List S88) (hl : l.length ≤ 17592186044416) : Ev (fun k => laws_toParty.f k a l) (a, conv l) := by
  unfold laws_toParty.f
  exact Ev.bind (toPairS_ev l hl) (Ev.now _)
theorem FnExactIsColouring : ∀ (a0 : Int) (l0 : List S88) (l1 : List Int), (Lit.int .i64 a0).wf = true → l0.length ≤ maxLen → (∀ x ∈ l0, ∃ m n : Int, x = ⟨m, n⟩ ∧ (Lit.int .i64 m).wf = true ∧ (Lit.int .i64 n).wf = true) → l1.length ≤ maxLen → l1.length * 8 ≤ 140737488351232 → (∀ x ∈ l1, (Lit.int .i64 x).wf = true) → ∃ k, laws_FnExactIsColouring.f k a0 l0 l1 = some true := by
  intro a0 l0 l1 w0 hm0 hw0 hm1 hb1 hw1
  refine Ev.rounds ?_
  unfold laws_FnExactIsColouring.f
  by_cases hg1 : (l1.length : Int) > 1048576
  · simp only [if_pos hg1]; exact Ev.now _
  simp only [if_neg hg1]
  simp only [szParty_f a0 l0 1048576 (by omega) (by omega) hm0, Option.bind_some]
  by_cases hg0 : 1048576 - (l0.length : Int) < 0
  · simp only [if_pos hg0, show ((-1 : Int) < 0) from by decide, if_true]; exact Ev.now _
  simp only [if_neg hg0]
  have hlen0 : l0.length ≤ 1048576 := by omega
  have hcl0 := conv_len l0
  have hlen1 : l1.length ≤ 1048576 := by omega
  obtain ⟨R, hs, hi⟩ := IsColouring_common a0 (conv l0) l1 w0 (by rw [conv_len]; omega) (by omega)
  refine Ev.bind (toParty_ev a0 l0 (by omega)) ?_
  refine Ev.bind (toIntS_ev l1 (by omega)) ?_
  refine Ev.bind hs ?_
  try simp only [if_true, if_false, bne_self_eq_false, Bool.false_eq_true, ↓reduceIte, decide_true]
  refine Ev.bind (toParty_ev a0 l0 (by omega)) ?_
  refine Ev.bind (toIntS_ev l1 (by omega)) ?_
  refine Ev.bind hi ?_
  try simp only [if_true, if_false, bne_self_eq_false, Bool.false_eq_true, ↓reduceIte, decide_true]
  try simp only [if_true, if_false, bne_self_eq_false, Bool.false_eq_true, ↓reduceIte, decide_true]
  refine Ev.step (fun k => rfl) ?_
  simp only [laws_FnExactIsColouring.j0]
  try simp only [if_true, if_false, bne_self_eq_false, Bool.false_eq_true, ↓reduceIte, decide_true]
  refine Ev.bind (toParty_ev a0 l0 (by omega)) ?_
  refine Ev.bind (eqParty_self a0 (conv l0) (by omega)) ?_
  try simp only [if_true, if_false, bne_self_eq_false, Bool.false_eq_true, ↓reduceIte, decide_true]
  refine Ev.bind (toIntS_ev l1 (by omega)) ?_
  refine Ev.bind (eqIntS_self l1 (by omega)) ?_
  try simp only [if_true, if_false, bne_self_eq_false, Bool.false_eq_true, ↓reduceIte, decide_true]
  exact Ev.now _
end Go.Proofs.Ytiopgbpjkjnphaa.Pure
