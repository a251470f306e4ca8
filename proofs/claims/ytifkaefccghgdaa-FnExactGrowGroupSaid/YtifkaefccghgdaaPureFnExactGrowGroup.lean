/- The program's GrowGroup returns what the reference's returns, for all arguments (the plain statement behind the printed walk); no condition. -/
import Derived.Test.YtifkaefccghgdaaPx0
import Derived.Test.YtifkaefccghgdaaPx1
import Derived.Test.YtifkaefccghgdaaPx2
import Derived.Test.YtifkaefccghgdaaPx3
import Derived.Test.YtifkaefccghgdaaPx4
import Derived.Test.YtifkaefccghgdaaPx5
import Derived.Test.YtifkaefccghgdaaPx6
import Derived.Test.YtifkaefccghgdaaPx7
import Derived.Test.YtifkaefccghgdaaPx8
namespace Go.Proofs.Ytifkaefccghgdaa.Pure
open Go.RowKit Go.Proofs.Ytifkaefccghgdaa.P Go.Proofs.YtifkaefccghgdaaW.PrintWords Go.Proofs.YtifkaefccghgdaaW.PrintLast
set_option linter.unusedSimpArgs false
set_option linter.unusedVariables false
def crowd (n : Int) : Bool := decide (0 ≤ n ∧ n ≤ 12)
def lt2 (p q : S79) : Bool := decide (p.f0 < q.f0) || (decide (p.f0 = q.f0) && decide (p.f1 < q.f1))
def okPrev : Option S79 → S79 → Bool
  | none, _ => true
  | some p, x => lt2 p x
def okFrom (n : Int) : Option S79 → List S79 → Bool
  | _, [] => true
  | prev, x :: xs => (decide (0 ≤ x.f0) && (decide (x.f0 < x.f1) && (decide (x.f1 < n) && okPrev prev x))) && okFrom n (some x) xs
def good (n : Int) (l : List S79) : Bool := crowd n && okFrom n none l
def natPairs (m : Nat) (l : List S79) : Prop := ∀ x ∈ l, ∃ a b : Nat, x = ⟨(a : Int), (b : Int)⟩ ∧ a < b ∧ b < m
theorem okFrom_nat (m : Nat) : ∀ (l : List S79) (p : Option S79), okFrom (m : Int) p l = true → natPairs m l
  | [], _, _ => fun x hx => by simp at hx
  | x :: xs, p, h => by
    simp only [okFrom, Bool.and_eq_true, decide_eq_true_eq] at h
    obtain ⟨⟨h0, h1, h2, _⟩, h3⟩ := h
    intro y hy
    rcases List.mem_cons.1 hy with rfl | hy
    · refine ⟨y.f0.toNat, y.f1.toNat, ?_, by omega, by omega⟩
      rw [Int.toNat_of_nonneg h0, Int.toNat_of_nonneg (by omega)]
    · exact okFrom_nat m xs _ h3 y hy
theorem good_nat {n : Int} {l : List S79} (h : good n l = true) : ∃ m : Nat, n = (m : Int) ∧ m ≤ 12 ∧ natPairs m l ∧ okFrom (m : Int) none l = true := by
  unfold good crowd at h
  simp only [Bool.and_eq_true, decide_eq_true_eq] at h
  obtain ⟨⟨h0, h1⟩, h2⟩ := h
  obtain ⟨m, rfl⟩ := Int.eq_ofNat_of_zero_le h0
  exact ⟨m, rfl, by omega, okFrom_nat m l none h2, h2⟩
theorem Ev.one {α : Type} {g : Nat → Option α} {r : α} (h : ∀ k, g (k + 1) = some r) : Ev g r := Ev.step h (Ev.now r)
abbrev Rel := Nat → Nat → Bool
theorem Ev.cast {α : Type} {g : Nat → Option α} {a b : α} (h : Ev g a) (e : a = b) : Ev g b := e ▸ h
def inP (m : Nat) (x : Int) : Prop := 0 ≤ x ∧ x < (m : Int)
/-! groups -/
def knowsAll (r : Rel) (pre : List Int) (x : Int) : Bool := pre.all fun b => r x.toNat b.toNat
/-! ### matrices -/
def mat (m : Nat) (r : Rel) : List (List Bool) := (List.range m).map fun a => (List.range m).map fun b => r a b
theorem map_range_getD {α : Type} (m : Nat) (f : Nat → α) (d : α) (a : Nat) (h : a < m) : ((List.range m).map f).getD a d = f a := by simp [List.getD_eq_getElem?_getD, h]
theorem mat_row (m : Nat) (r : Rel) (a : Nat) (h : a < m) : rd_L4 (mat m r) (a : Int) = (List.range m).map fun b => r a b := map_range_getD m _ _ a h
theorem mat_at (m : Nat) (r : Rel) (a b : Nat) (h : a < m) (h2 : b < m) : rdOf false (rd_L4 (mat m r) (a : Int)) (b : Int) = r a b := by
  rw [mat_row m r a h]; exact map_range_getD m _ _ b h2
theorem mat_len (m : Nat) (r : Rel) : (mat m r).length = m := by simp [mat]
theorem rd_mid (pre rest : List Int) (x : Int) : rd (pre ++ x :: rest) (pre.length : Int) = x := by
  unfold rd
  simp [List.getD_eq_getElem?_getD]
theorem w1 {n : Nat} (h : n < 4611686018427387904) : wrap64 ((n : Int) + 1) = ((n + 1 : Nat) : Int) := by unfold wrap64; omega
theorem grIs_l1 (m : Nat) (hm : m ≤ 12) (r : Rel) (L : List Int) (hL : L.length ≤ 1048576) (i : Nat) (x : Int) (hx : inP m x) (P : List Int) (hP : ∀ y ∈ P, inP m y) (hPl : P.length ≤ 1048576) (R : Bool) (h : Ev (fun k => spec_grIs.l0 k (mat m r) L L (L.length : Int) ((i + 1 : Nat) : Int)) R) (hi : i < 1048576) : ∀ (rest pre : List Int), P = pre ++ rest → Ev (fun k => spec_grIs.l1 k (mat m r) L x L (L.length : Int) (i : Int) P (P.length : Int) (pre.length : Int)) (knowsAll r rest x && R)
  | [], pre, e => by
    have el : P.length = pre.length := by rw [e]; simp
    refine Ev.cast (Ev.step (fun k => ?_) h) (by simp [knowsAll])
    rw [spec_grIs.l1, if_neg (by omega), w1 (by omega)]
  | y :: rest, pre, e => by
    have el : pre.length < P.length := by rw [e]; simp
    have hy : rd P (pre.length : Int) = y := by rw [e]; exact rd_mid pre _ y
    have hyP := hP y (by rw [e]; simp)
    have ih := grIs_l1 m hm r L hL i x hx P hP hPl R h hi rest (pre ++ [y]) (by rw [e]; simp)
    rw [List.length_append, List.length_singleton] at ih
    have h0 := hx.1
    have h1 := hx.2
    have h2 := hyP.1
    have h3 := hyP.2
    obtain ⟨a, rfl⟩ := Int.eq_ofNat_of_zero_le h0
    obtain ⟨b, rfl⟩ := Int.eq_ofNat_of_zero_le h2
    have hrow : (rd_L4 (mat m r) (a : Int)).length = m := by rw [mat_row _ _ _ (by omega)]; simp
    have hat := mat_at m r a b (by omega) (by omega)
    cases hr : r a b with
    | true =>
      refine Ev.cast (Ev.step (fun k => ?_) ih) (by simp [knowsAll, hr])
      rw [spec_grIs.l1, if_pos (by omega), if_pos (by omega), if_pos (by omega), if_pos (by omega), mat_len, if_pos (by omega), hy, if_pos (by omega), hrow, if_pos (by omega), hat, if_pos hr, w1 (by omega)]
    | false =>
      refine Ev.one (fun k => ?_)
      rw [spec_grIs.l1, if_pos (by omega), if_pos (by omega), if_pos (by omega), if_pos (by omega), mat_len, if_pos (by omega), hy, if_pos (by omega), hrow, if_pos (by omega), hat, if_neg (by simp [hr])]
      simp [knowsAll, hr]
def grp (r : Rel) : List Int → List Int → Bool
  | _, [] => true
  | pre, x :: xs => knowsAll r pre x && grp r (pre ++ [x]) xs
theorem grIs_l0 (m : Nat) (hm : m ≤ 12) (r : Rel) (L : List Int) (hL : L.length ≤ 1048576) (hP : ∀ y ∈ L, inP m y) : ∀ (rest pre : List Int), L = pre ++ rest → Ev (fun k => spec_grIs.l0 k (mat m r) L L (L.length : Int) (pre.length : Int)) (grp r pre rest)
  | [], pre, e => by
    have el : L.length = pre.length := by rw [e]; simp
    refine Ev.one (fun k => ?_)
    rw [spec_grIs.l0, if_neg (by omega)]; rfl
  | x :: rest, pre, e => by
    have el : pre.length < L.length := by rw [e]; simp
    have hx : rd L (pre.length : Int) = x := by rw [e]; exact rd_mid pre _ x
    have ht : L.take pre.length = pre := by rw [e]; simp
    have ih := grIs_l0 m hm r L hL hP rest (pre ++ [x]) (by rw [e]; simp)
    rw [List.length_append, List.length_singleton] at ih
    have h1 := grIs_l1 m hm r L hL pre.length x (hP x (by rw [e]; simp)) pre (fun y hy => hP y (by rw [e]; simp [hy])) (by omega) _ ih (by omega) pre [] rfl
    refine Ev.step (fun k => ?_) h1
    rw [spec_grIs.l0, if_pos (by omega), if_pos (by omega), if_pos (by omega), if_pos (by omega), hx, Int.toNat_natCast, ht]
    rfl
def hasP (l : List S79) : Rel := fun a b => l.any fun x => (x.f0 == (a : Int) && x.f1 == (b : Int)) || (x.f0 == (b : Int) && x.f1 == (a : Int))
def inAll (l : List Int) (lo hi : Int) : Bool := l.all fun n => decide (lo ≤ n) && decide (n ≤ hi)
/-! rising lists of people -/
def rising : List Int → Bool
  | [] => true
  | [_] => true
  | x :: y :: r => decide (x < y) && rising (y :: r)
def groupR (n : Int) (l : List S79) (L : List Int) : Bool := inAll L 0 (n - 1) && (rising L && grp (hasP l) [] L)
theorem inAll_inP {m : Nat} {L : List Int} (h : inAll L 0 ((m : Int) - 1) = true) : ∀ y ∈ L, inP m y := by
  intro y hy
  unfold inAll at h
  rw [List.all_eq_true] at h
  have := h y hy
  simp at this
  exact ⟨this.1, by omega⟩
theorem l1In_f (a lo hi : Int) : spec_l1In.f a lo hi = some (decide (lo ≤ a) && decide (a ≤ hi)) := by
  unfold spec_l1In.f
  by_cases h : lo ≤ a
  · rw [if_pos h]; simp [h]
  · rw [if_neg h]; simp [h]
def lastLt : Option Int → Int → Bool
  | none, _ => true
  | some p, x => decide (p < x)
/-- in bounds and increasing, one after the other -/
def risingIn (lo hi : Int) : Option Int → List Int → Bool
  | _, [] => true
  | p, x :: xs => (decide (lo ≤ x) && decide (x ≤ hi)) && (lastLt p x && risingIn lo hi (some x) xs)
theorem w64 {i : Int} (h0 : -9223372036854775808 ≤ i) (h : i ≤ 9223372036854775807) : wrap64 i = i := by unfold wrap64; omega
theorem l1Rising_l0 (L : List Int) (lo hi : Int) (hL : L.length < 4611686018427387904) : ∀ (rest pre : List Int), L = pre ++ rest → Ev (fun k => spec_l1Rising.l0 k L lo hi L (L.length : Int) (pre.length : Int)) (risingIn lo hi pre.getLast? rest)
  | [], pre, e => by
    have el : L.length = pre.length := by rw [e]; simp
    refine Ev.one (fun k => ?_)
    rw [spec_l1Rising.l0, if_neg (by omega)]; rfl
  | x :: rest, pre, e => by
    have el : pre.length < L.length := by rw [e]; simp
    have hx : rd L (pre.length : Int) = x := by rw [e]; exact rd_mid pre _ x
    have ih := l1Rising_l0 L lo hi hL rest (pre ++ [x]) (by rw [e]; simp)
    rw [List.length_append, List.length_singleton, List.getLast?_concat] at ih
    cases hb : (decide (lo ≤ x) && decide (x ≤ hi)) with
    | false =>
      refine Ev.one (fun k => ?_)
      rw [spec_l1Rising.l0, if_pos (by omega), if_pos (by omega), if_pos (by omega), hx, l1In_f, hb]
      simp [risingIn, hb]
    | true =>
      rcases List.eq_nil_or_concat pre with rfl | ⟨q, z, rfl⟩
      · refine Ev.cast (Ev.step (fun k => ?_) ih) (by simp [risingIn, hb, lastLt])
        rw [spec_l1Rising.l0, if_pos (by omega), if_pos (by omega), if_pos (by omega), hx, l1In_f, hb]
        simp only [Option.bind_some, if_true]
        rw [if_neg (by simp), w1 (by simp)]
      · rw [List.concat_eq_append] at el hx ih e ⊢
        have hz : rd L (q.length : Int) = z := by rw [e, List.append_assoc]; exact rd_mid q _ z
        have hq : (q ++ [z]).length = q.length + 1 := by simp
        rw [hq] at el hx ih ⊢
        have ew : wrap64 (((q.length + 1 : Nat) : Int) - 1) = (q.length : Int) := by rw [w64 (by omega) (by omega)]; omega
        by_cases hzx : z ≥ x
        · refine Ev.one (fun k => ?_)
          rw [spec_l1Rising.l0, if_pos (by omega), if_pos (by omega), if_pos (by omega), hx, l1In_f, hb]
          simp only [Option.bind_some, if_true]
          rw [if_pos (by omega), ew, if_pos (by omega), if_pos (by omega), hz, if_pos hzx]
          have : ¬ z < x := by omega
          simp [risingIn, lastLt, this]
        · have hlt : z < x := by omega
          refine Ev.cast (Ev.step (fun k => ?_) ih) (by rw [risingIn, hb, List.getLast?_concat, lastLt, decide_eq_true hlt, Bool.true_and, Bool.true_and])
          rw [spec_l1Rising.l0, if_pos (by omega), if_pos (by omega), if_pos (by omega), hx, l1In_f, hb]
          simp only [Option.bind_some, if_true]
          rw [if_pos (by omega), ew, if_pos (by omega), if_pos (by omega), hz, if_neg hzx, w1 (by omega)]
/-! the number of pairs -/
def below (m : Nat) : Nat → Nat
  | 0 => 0
  | a + 1 => below m a + (m - 1 - a)
theorem below_all (m : Nat) (h : m ≤ 12) : Int.tdiv ((m : Int) * ((m : Int) - 1)) 2 = (below m m : Int) := by
  have : m = 0 ∨ m = 1 ∨ m = 2 ∨ m = 3 ∨ m = 4 ∨ m = 5 ∨ m = 6 ∨ m = 7 ∨ m = 8 ∨ m = 9 ∨ m = 10 ∨ m = 11 ∨ m = 12 := by omega
  rcases this with rfl | rfl | rfl | rfl | rfl | rfl | rfl | rfl | rfl | rfl | rfl | rfl | rfl <;> rfl
/-- where a pair stands among all pairs of m people -/
def rank (m : Nat) (x : S79) : Nat := below m x.f0.toNat + (x.f1.toNat - x.f0.toNat - 1)
theorem below_mono (m a : Nat) : ∀ d, below m a ≤ below m (a + d)
  | 0 => Nat.le_refl _
  | d + 1 => Nat.le_trans (below_mono m a d) (by show below m (a + d) ≤ below m (a + d) + _; omega)
theorem rank_lt (m : Nat) (p x : S79) (h : lt2 p x = true) (p0 : 0 ≤ p.f0) (p1 : p.f0 < p.f1) (p2 : p.f1 < m) (x0 : 0 ≤ x.f0) (x1 : x.f0 < x.f1) : rank m p < rank m x := by
  unfold lt2 at h
  unfold rank
  simp at h
  rcases h with h | ⟨h, h2⟩
  · have h1 := below_mono m (p.f0.toNat + 1) (x.f0.toNat - (p.f0.toNat + 1))
    rw [show p.f0.toNat + 1 + (x.f0.toNat - (p.f0.toNat + 1)) = x.f0.toNat by omega] at h1
    have h3 : below m (p.f0.toNat + 1) = below m p.f0.toNat + (m - 1 - p.f0.toNat) := rfl
    omega
  · rw [h]; omega
theorem rank_top (m : Nat) (x : S79) (x0 : 0 ≤ x.f0) (x1 : x.f0 < x.f1) (x2 : x.f1 < m) : rank m x < below m m := by
  unfold rank
  have h1 := below_mono m (x.f0.toNat + 1) (m - (x.f0.toNat + 1))
  rw [show x.f0.toNat + 1 + (m - (x.f0.toNat + 1)) = m by omega] at h1
  have h3 : below m (x.f0.toNat + 1) = below m x.f0.toNat + (m - 1 - x.f0.toNat) := rfl
  omega
theorem okFrom_len (m : Nat) : ∀ (l : List S79) (p : S79), 0 ≤ p.f0 → p.f0 < p.f1 → p.f1 < m → okFrom m (some p) l = true → rank m p + l.length < below m m
  | [], p, p0, p1, p2, _ => rank_top m p p0 p1 p2
  | x :: xs, p, p0, p1, p2, h => by
    simp [okFrom, okPrev] at h
    obtain ⟨⟨x0, x1, x2, hlt⟩, h⟩ := h
    have ih := okFrom_len m xs x x0 x1 x2 h
    have := rank_lt m p x hlt p0 p1 p2 x0 x1
    simp only [List.length_cons]
    omega
theorem good_len (m : Nat) (l : List S79) (h : okFrom m none l = true) : l.length ≤ below m m := by
  cases l with
  | nil => simp
  | cons x xs =>
    simp [okFrom, okPrev] at h
    obtain ⟨⟨x0, x1, x2⟩, h⟩ := h
    have := okFrom_len m xs x x0 x1 x2 h
    simp only [List.length_cons]
    omega
theorem paLess_f (p x : S79) : spec_paLess.f p.f0 p.f1 x.f0 x.f1 = some (lt2 p x) := by
  unfold spec_paLess.f lt2
  by_cases h : p.f0 < x.f0
  · simp [h]
  · by_cases h2 : p.f0 = x.f0
    · simp [h2]
    · simp [h, h2]
theorem rdT_mid (pre rest : List S79) (x : S79) : rd_T79 (pre ++ x :: rest) (pre.length : Int) = x := by
  unfold rd_T79
  simp [List.getD_eq_getElem?_getD]
theorem paGood_l0 (m : Nat) (hm : m ≤ 12) (l : List S79) (hl : l.length < 4611686018427387904) : ∀ (rest pre : List S79), l = pre ++ rest → Ev (fun k => spec_paGood.l0 k l (l.length : Int) (pre.length : Int) (m : Int) l) (okFrom m pre.getLast? rest)
  | [], pre, h => by
    refine Ev.one (fun k => ?_)
    have e : l.length = pre.length := by rw [h]; simp
    rw [spec_paGood.l0, if_neg (by omega)]
    simp [okFrom]
  | x :: rest, pre, h => by
    have hlen : pre.length < l.length := by rw [h]; simp
    have hx : rd_T79 l (pre.length : Int) = x := by rw [h]; exact rdT_mid pre rest x
    have ih := paGood_l0 m hm l hl rest (pre ++ [x]) (by rw [h]; simp)
    rw [List.getLast?_concat, List.length_append, List.length_singleton] at ih
    have em : wrap64 ((m : Int) - 1) = (m : Int) - 1 := w64 (by omega) (by omega)
    by_cases c1 : 0 ≤ x.f0 ∧ x.f0 ≤ (m : Int) - 1
    · have e1 : wrap64 (x.f0 + 1) = x.f0 + 1 := w64 (by omega) (by omega)
      have b1 : (decide (0 ≤ x.f0) && decide (x.f0 ≤ (m : Int) - 1)) = true := by simp; exact c1
      by_cases c2 : x.f0 + 1 ≤ x.f1 ∧ x.f1 ≤ (m : Int) - 1
      · have b2 : (decide (x.f0 + 1 ≤ x.f1) && decide (x.f1 ≤ (m : Int) - 1)) = true := by simp; exact c2
        have d1 : decide (0 ≤ x.f0) = true := by simp; omega
        have d2 : decide (x.f0 < x.f1) = true := by simp; omega
        have d3 : decide (x.f1 < (m : Int)) = true := by simp; omega
        rcases List.eq_nil_or_concat pre with rfl | ⟨q, p, rfl⟩
        · refine Ev.cast (Ev.step (fun k => ?_) ih) ?_
          · rw [spec_paGood.l0, if_pos (by omega), if_pos (by omega), if_pos (by omega), hx, em, e1, l1In_f, l1In_f, b1, b2]
            simp only [Option.bind_some, if_true]
            rw [if_neg (by simp), w1 (by simp)]
          · simp [okFrom, d1, d2, d3, okPrev]
        · rw [List.concat_eq_append] at hlen hx ih h ⊢
          have hp : rd_T79 l (q.length : Int) = p := by rw [h, List.append_assoc]; exact rdT_mid q (x :: rest) p
          have hq : (q ++ [p]).length = q.length + 1 := by simp
          rw [hq] at hlen hx ih ⊢
          rw [List.getLast?_concat]
          cases hlt : lt2 p x with
          | true =>
            refine Ev.cast (Ev.step (fun k => ?_) ih) ?_
            · rw [spec_paGood.l0, if_pos (by omega), if_pos (by omega), if_pos (by omega), hx, em, e1, l1In_f, l1In_f, b1, b2]
              simp only [Option.bind_some, if_true]
              rw [if_pos (by omega), w64 (i := ((q.length + 1 : Nat) : Int) - 1) (by omega) (by omega), show ((q.length + 1 : Nat) : Int) - 1 = (q.length : Int) by omega, if_pos (by omega), if_pos (by omega), hp, paLess_f, hlt, w1 (by omega)]
              rfl
            · simp [okFrom, d1, d2, d3, okPrev, hlt]
          | false =>
            refine Ev.one (fun k => ?_)
            rw [spec_paGood.l0, if_pos (by omega), if_pos (by omega), if_pos (by omega), hx, em, e1, l1In_f, l1In_f, b1, b2]
            simp only [Option.bind_some, if_true]
            rw [if_pos (by omega), w64 (i := ((q.length + 1 : Nat) : Int) - 1) (by omega) (by omega), show ((q.length + 1 : Nat) : Int) - 1 = (q.length : Int) by omega, if_pos (by omega), if_pos (by omega), hp, paLess_f, hlt]
            simp [okFrom, okPrev, hlt]
      · refine Ev.one (fun k => ?_)
        have b2 : (decide (x.f0 + 1 ≤ x.f1) && decide (x.f1 ≤ (m : Int) - 1)) = false := by simp; omega
        rw [spec_paGood.l0, if_pos (by omega), if_pos (by omega), if_pos (by omega), hx, em, e1, l1In_f, l1In_f, b1, b2]
        have : (decide (x.f0 < x.f1) && decide (x.f1 < (m : Int))) = false := by simp; omega
        simp only [okFrom, ← Bool.and_assoc (decide (x.f0 < x.f1)), this]
        simp
    · refine Ev.one (fun k => ?_)
      have b1 : (decide (0 ≤ x.f0) && decide (x.f0 ≤ (m : Int) - 1)) = false := by simp; omega
      rw [spec_paGood.l0, if_pos (by omega), if_pos (by omega), if_pos (by omega), hx, em, l1In_f, b1]
      have : (decide (0 ≤ x.f0) && (decide (x.f0 < x.f1) && (decide (x.f1 < (m : Int)) && okPrev pre.getLast? x))) = false := by
        by_cases z0 : 0 ≤ x.f0
        · by_cases z1 : x.f0 < x.f1
          · have : ¬ x.f1 < (m : Int) := by omega
            simp [this]
          · simp [z1]
        · simp [z0]
      simp [okFrom, this]
theorem paPeople_f (a : Int) : spec_paPeople.f a = some (decide (0 ≤ a ∧ a ≤ 12)) := by
  unfold spec_paPeople.f
  rw [l1In_f]; simp [Bool.decide_and]
theorem paGood_ev (n : Int) (l : List S79) (hl : l.length < 4611686018427387904) : Ev (fun k => spec_paGood.f k n l) (good n l) := by
  unfold spec_paGood.f
  rw [paPeople_f]
  by_cases h : 0 ≤ n ∧ n ≤ 12
  · obtain ⟨m, rfl⟩ := Int.eq_ofNat_of_zero_le h.1
    have hm : m ≤ 12 := by omega
    have hc : crowd (m : Int) = true := by unfold crowd; simp; omega
    have hmul : (m : Int) * ((m : Int) - 1) ≤ 144 := by
      have : m = 0 ∨ m = 1 ∨ m = 2 ∨ m = 3 ∨ m = 4 ∨ m = 5 ∨ m = 6 ∨ m = 7 ∨ m = 8 ∨ m = 9 ∨ m = 10 ∨ m = 11 ∨ m = 12 := by omega
      rcases this with rfl | rfl | rfl | rfl | rfl | rfl | rfl | rfl | rfl | rfl | rfl | rfl | rfl <;> decide
    have hmul0 : 0 ≤ (m : Int) * ((m : Int) - 1) := by
      have : m = 0 ∨ m = 1 ∨ m = 2 ∨ m = 3 ∨ m = 4 ∨ m = 5 ∨ m = 6 ∨ m = 7 ∨ m = 8 ∨ m = 9 ∨ m = 10 ∨ m = 11 ∨ m = 12 := by omega
      rcases this with rfl | rfl | rfl | rfl | rfl | rfl | rfl | rfl | rfl | rfl | rfl | rfl | rfl <;> decide
    have hb : (below m m : Int) ≤ 144 := by
      have : m = 0 ∨ m = 1 ∨ m = 2 ∨ m = 3 ∨ m = 4 ∨ m = 5 ∨ m = 6 ∨ m = 7 ∨ m = 8 ∨ m = 9 ∨ m = 10 ∨ m = 11 ∨ m = 12 := by omega
      rcases this with rfl | rfl | rfl | rfl | rfl | rfl | rfl | rfl | rfl | rfl | rfl | rfl | rfl <;> decide
    have e : wrap64 (Int.tdiv (wrap64 ((m : Int) * (wrap64 ((m : Int) - 1)))) 2) = (below m m : Int) := by
      rw [w64 (i := (m : Int) - 1) (by omega) (by omega), w64 (i := (m : Int) * ((m : Int) - 1)) (by omega) (by omega), below_all m hm, w64 (by omega) (by omega)]
    simp only [h, decide_true, Option.bind_some, if_true, e, and_self]
    unfold good
    rw [hc, Bool.true_and]
    by_cases hlen : l.length ≤ below m m
    · refine Ev.step (fun k => ?_) (paGood_l0 m hm l hl l [] rfl)
      have : decide ((l.length : Int) > (below m m : Int)) = false := by simp; omega
      rw [this, spec_paGood.j0, if_neg (by decide)]
      rfl
    · refine Ev.one (fun k => ?_)
      have : decide ((l.length : Int) > (below m m : Int)) = true := by simp; omega
      rw [this, spec_paGood.j0, if_pos rfl]
      have hn : okFrom (m : Int) none l = false := by
        cases hok : okFrom (m : Int) none l with
        | false => rfl
        | true => exact absurd (good_len m l hok) hlen
      rw [hn]
  · have hc : crowd n = false := by unfold crowd; simp; omega
    simp only [h, decide_false, Option.bind_some]
    unfold good
    rw [hc]
    refine Ev.one (fun k => ?_)
    rw [if_neg (by decide), spec_paGood.j0]; simp

theorem hasP_nil : hasP [] = fun _ _ => false := by funext x y; rfl
theorem map_range_const {α : Type} (c : α) : ∀ m : Nat, (List.range m).map (fun _ => c) = List.replicate m c
  | 0 => rfl
  | m + 1 => by rw [List.range_succ, List.map_append, map_range_const c m, List.replicate_succ']; rfl
theorem mat_false (m : Nat) : mat m (fun _ _ => false) = List.replicate m (List.replicate m false) := by
  unfold mat; rw [map_range_const, map_range_const]
theorem map_range_congr {α : Type} (m : Nat) (f g : Nat → α) (h : ∀ a, a < m → f a = g a) : (List.range m).map f = (List.range m).map g := List.map_congr_left fun a ha => h a (List.mem_range.1 ha)
theorem map_range_set {α : Type} (m : Nat) (f : Nat → α) (a : Nat) (v : α) : ((List.range m).map f).set a v = (List.range m).map fun i => if i = a then v else f i := by
  apply List.ext_getElem?
  intro j
  rw [List.getElem?_set]
  by_cases hj : j < m
  · by_cases e : a = j
    · subst e; simp [hj]
    · have e' : ¬ j = a := fun h => e h.symm
      simp [hj, e, e']
  · by_cases e : a = j
    · subst e; simp [hj]
    · simp [hj, e]
def upd (r : Rel) (a b : Nat) (v : Bool) : Rel := fun x y => if x = a ∧ y = b then v else r x y
theorem mat_set (m : Nat) (r : Rel) (a b : Nat) (v : Bool) (ha : a < m) : (mat m r).set a ((rd_L4 (mat m r) (a : Int)).set b v) = mat m (upd r a b v) := by
  rw [mat_row m r a ha, map_range_set]
  show ((List.range m).map fun a => (List.range m).map fun b => r a b).set a _ = _
  rw [map_range_set]
  refine map_range_congr m _ _ fun i hi => ?_
  by_cases e : i = a
  · subst e
    rw [if_pos rfl]
    refine map_range_congr m _ _ fun j hj => ?_
    simp [upd]
  · rw [if_neg e]
    refine map_range_congr m _ _ fun j hj => ?_
    simp [upd, e]
theorem hasP_snoc (pre : List S79) (a b x y : Nat) : hasP (pre ++ [⟨(a : Int), (b : Int)⟩]) x y = (hasP pre x y || ((decide (a = x) && decide (b = y)) || (decide (a = y) && decide (b = x)))) := by
  unfold hasP
  rw [List.any_append]
  congr 1
  simp only [List.any_cons, List.any_nil, Bool.or_false]
  have e : ∀ u v : Nat, ((u : Int) == (v : Int)) = decide (u = v) := fun u v => by
    by_cases h : u = v
    · simp [h]
    · have : ¬ (u : Int) = (v : Int) := by omega
      simp [h, this]
  rw [e, e, e, e]
theorem upd2_hasP (pre : List S79) (a b : Nat) : upd (upd (hasP pre) a b true) b a true = hasP (pre ++ [⟨(a : Int), (b : Int)⟩]) := by
  funext x y
  rw [hasP_snoc]
  unfold upd
  by_cases h1 : x = b ∧ y = a
  · simp [h1]
  · by_cases h2 : x = a ∧ y = b
    · simp [h2]
    · have e1 : (decide (a = x) && decide (b = y)) = false := by simp; intro h3 h4; exact h2 ⟨h3.symm, h4.symm⟩
      have e2 : (decide (a = y) && decide (b = x)) = false := by simp; intro h3 h4; exact h1 ⟨h4.symm, h3.symm⟩
      simp [h1, h2, e1, e2]
theorem paTable_l1 (m : Nat) (l : List S79) (hl : l.length < 4611686018427387904) (hn : natPairs m l) : ∀ (rest pre : List S79), l = pre ++ rest → Ev (fun k => spec_paTable.l1 k (mat m (hasP pre)) l (l.length : Int) (pre.length : Int)) (mat m (hasP l))
  | [], pre, h => by
    refine Ev.one (fun k => ?_)
    have e : l = pre := by rw [h]; simp
    rw [spec_paTable.l1, if_neg (by rw [e]; omega), e]
  | x :: rest, pre, h => by
    have hlen : pre.length < l.length := by rw [h]; simp
    obtain ⟨a, b, rfl, hab, hb⟩ := hn x (by rw [h]; simp)
    have hx : rd_T79 l (pre.length : Int) = ⟨(a : Int), (b : Int)⟩ := by rw [h]; exact rdT_mid pre rest _
    have ih := paTable_l1 m l hl hn rest (pre ++ [⟨(a : Int), (b : Int)⟩]) (by rw [h]; simp)
    rw [List.length_append, List.length_singleton, ← upd2_hasP] at ih
    refine Ev.step (fun k => ?_) ih
    have hrow : (rd_L4 (mat m (hasP pre)) (a : Int)).length = m := by rw [mat_row _ _ _ (by omega)]; simp
    have hrow2 : (rd_L4 (mat m (upd (hasP pre) a b true)) (b : Int)).length = m := by rw [mat_row _ _ _ (by omega)]; simp
    rw [spec_paTable.l1, if_pos (by omega), if_pos (by omega), if_pos (by omega), hx]
    dsimp only
    rw [mat_len, hrow, if_pos (by omega), if_pos (by omega), if_pos (by omega), if_pos (by omega), Int.toNat_natCast, Int.toNat_natCast, mat_set _ _ _ _ _ (by omega)]
    simp only [Option.bind_some]
    rw [if_pos (by omega), hrow2, if_pos (by omega), mat_set _ _ _ _ _ (by omega), w1 (by omega)]
theorem paTable_l0 (m : Nat) (hm : m ≤ 12) (l : List S79) (hl : l.length < 4611686018427387904) (hn : natPairs m l) : ∀ (d i : Nat), i + d = m → Ev (fun k => spec_paTable.l0 k (List.replicate i (List.replicate m false)) (i : Int) (m : Int) l) (mat m (hasP l))
  | 0, i, hd => by
    refine Ev.step (fun k => ?_) (paTable_l1 m l hl hn l [] rfl)
    obtain rfl : i = m := by omega
    rw [spec_paTable.l0, if_neg (by omega), hasP_nil, mat_false]
    rfl
  | d + 1, i, hd => by
    refine Ev.step (fun k => ?_) (paTable_l0 m hm l hl hn d (i + 1) (by omega))
    rw [spec_paTable.l0, if_pos (by omega), if_pos (by omega), if_pos (by omega), if_pos (by simp; omega), w1 (by omega), Int.toNat_natCast, List.replicate_succ']
theorem paTable_ev (m : Nat) (hm : m ≤ 12) (l : List S79) (hl : l.length < 4611686018427387904) (hn : natPairs m l) : Ev (fun k => spec_paTable.f k (m : Int) l) (mat m (hasP l)) := by
  unfold spec_paTable.f
  exact paTable_l0 m hm l hl hn m 0 (by omega)
def risingFrom : Option Int → List Int → Bool
  | _, [] => true
  | p, x :: xs => lastLt p x && risingFrom (some x) xs
theorem risingFrom_some (x : Int) : ∀ l, risingFrom (some x) l = rising (x :: l)
  | [] => rfl
  | y :: l => by rw [risingFrom, lastLt, rising, risingFrom_some y l]
theorem risingFrom_none (l : List Int) : risingFrom none l = rising l := by
  cases l with
  | nil => rfl
  | cons x l => rw [risingFrom, lastLt, Bool.true_and, risingFrom_some]
theorem risingIn_eq (lo hi : Int) : ∀ (l : List Int) (p : Option Int), risingIn lo hi p l = (inAll l lo hi && risingFrom p l)
  | [], _ => rfl
  | x :: l, p => by
    rw [risingIn, risingIn_eq lo hi l (some x), risingFrom]
    have : inAll (x :: l) lo hi = ((decide (lo ≤ x) && decide (x ≤ hi)) && inAll l lo hi) := by simp [inAll]
    rw [this]
    cases (decide (lo ≤ x) && decide (x ≤ hi)) <;> cases lastLt p x <;> cases inAll l lo hi <;> cases risingFrom (some x) l <;> rfl
theorem grGroup_ev (n : Int) (l : List S79) (L : List Int) (hl : l.length ≤ 1048576) (hL : L.length ≤ 1048576) : Ev (fun k => spec_grGroup.f k n l L) (good n l && groupR n l L) := by
  unfold spec_grGroup.f groupR
  refine Ev.bind (paGood_ev _ _ (by omega)) ?_
  cases h : good n l with
  | true =>
    obtain ⟨m, rfl, hm, hn, ho⟩ := good_nat h
    simp only [if_true, Bool.true_and, w64 (i := (m : Int) - 1) (by omega) (by omega)]
    have hr := l1Rising_l0 L 0 ((m : Int) - 1) (by omega) L [] rfl
    rw [risingIn_eq, List.getLast?_nil, risingFrom_none] at hr
    refine Ev.bind (show Ev (fun k => spec_l1Rising.f k L 0 ((m : Int) - 1)) _ from hr) ?_
    cases h1 : inAll L 0 ((m : Int) - 1) with
    | false => simp only [Bool.false_and, Bool.false_eq_true, if_false]; exact Ev.now _
    | true =>
      cases h2 : rising L with
      | false => simp only [Bool.true_and, Bool.false_and, Bool.false_eq_true, if_false]; exact Ev.now _
      | true =>
        simp only [Bool.true_and, if_true]
        refine Ev.bind (paTable_ev m hm l (by omega) hn) ?_
        refine Ev.bind (show Ev (fun k => spec_grIs.f k (mat m (hasP l)) L) _ from grIs_l0 m hm (hasP l) L hL (inAll_inP h1) L [] rfl) ?_
        exact Ev.now _
  | false => simp only [Bool.false_eq_true, if_false, Bool.false_and]; exact Ev.now _
/-! growing -/
def growBy (r : Rel) : Nat → Nat → List Int → List Int
  | 0, _, out => out
  | d + 1, a, out => growBy r d (a + 1) (if out.contains (a : Int) = false ∧ knowsAll r out (a : Int) = true then out ++ [(a : Int)] else out)
theorem growBy_len (r : Rel) : ∀ (d a : Nat) (out : List Int), (growBy r d a out).length ≤ out.length + d
  | 0, a, out => Nat.le_refl _
  | d + 1, a, out => by
    unfold growBy
    refine Nat.le_trans (growBy_len r d (a + 1) _) ?_
    split
    · simp; omega
    · omega
def idxInt (a : Int) : List Int → Nat → Int
  | [], _ => -1
  | x :: xs, i => if a = x then (i : Int) else idxInt a xs (i + 1)
theorem idxInt_nonneg (a : Int) : ∀ (l : List Int) (i : Nat), decide (idxInt a l i ≥ 0) = l.contains a
  | [], i => by simp [idxInt]
  | x :: l, i => by
    unfold idxInt
    by_cases c : a = x
    · simp [c]
    · rw [if_neg c, idxInt_nonneg a l (i + 1)]; simp [c]
theorem index_l0 (l : List Int) (a : Int) (hl : l.length < 4611686018427387904) : ∀ (rest pre : List Int), l = pre ++ rest → Ev (fun k => slices_Index_int_int.l0 k l a (l.length : Int) (pre.length : Int)) (idxInt a rest pre.length)
  | [], pre, e => by
    have el : l.length = pre.length := by rw [e]; simp
    refine Ev.one (fun k => ?_)
    rw [slices_Index_int_int.l0, if_neg (by omega)]; rfl
  | x :: rest, pre, e => by
    have el : pre.length < l.length := by rw [e]; simp
    have hx : rd l (pre.length : Int) = x := by rw [e]; exact rd_mid pre _ x
    by_cases c : a = x
    · refine Ev.one (fun k => ?_)
      rw [slices_Index_int_int.l0, if_pos (by omega), if_pos (by omega), if_pos (by omega), hx, if_pos c]
      simp [idxInt, c]
    · have ih := index_l0 l a hl rest (pre ++ [x]) (by rw [e]; simp)
      rw [List.length_append, List.length_singleton] at ih
      refine Ev.cast (Ev.step (fun k => ?_) ih) (by simp [idxInt, c])
      rw [slices_Index_int_int.l0, if_pos (by omega), if_pos (by omega), if_pos (by omega), hx, if_neg c, w1 (by omega)]
theorem index_ev (l : List Int) (a : Int) (hl : l.length < 4611686018427387904) : Ev (fun k => slices_Index_int_int.f k l a) (idxInt a l 0) := index_l0 l a hl l [] rfl
theorem contains_ev (l : List Int) (a : Int) (hl : l.length < 4611686018427387904) : Ev (fun k => slices_Contains_int_int.f k l a) (l.contains a) := by
  unfold slices_Contains_int_int.f
  refine Ev.bind (index_ev l a hl) ?_
  rw [idxInt_nonneg]
  exact Ev.now _
theorem grp_snoc (r : Rel) : ∀ (l pre : List Int) (x : Int), grp r pre (l ++ [x]) = (grp r pre l && knowsAll r (pre ++ l) x)
  | [], pre, x => by simp [grp]
  | y :: l, pre, x => by
    rw [List.cons_append, grp, grp, grp_snoc r l (pre ++ [y]) x, Bool.and_assoc]
    simp
theorem wraps_u16 (n : Int) (h0 : 0 ≤ n) (h1 : n < 2 ^ 16) : IntKind.u16.wrap n = n := by
  simp [IntKind.wrap, IntKind.bits, IntKind.signed]; omega
theorem and16 (x y : Nat) (hx : x < 65536) (hy : y < 65536) : Go.bits .and .u16 (x : Int) (y : Int) = ((x &&& y : Nat) : Int) := (bits_nat .u16 16 (by decide) wraps_u16 x y hx hy).1
/-! ### tables of bits -/
def bitsOf : Nat → (Nat → Bool) → Nat
  | 0, _ => 0
  | m + 1, f => bitsOf m f + (f m).toNat * 2 ^ m
theorem bitsOf_lt : ∀ (m : Nat) (f : Nat → Bool), bitsOf m f < 2 ^ m
  | 0, _ => by simp [bitsOf]
  | m + 1, f => by
    have := bitsOf_lt m f
    have h2 : (f m).toNat * 2 ^ m ≤ 2 ^ m := by cases f m <;> simp
    rw [bitsOf, Nat.pow_succ]; omega
theorem bitsOf_u16 (m : Nat) (hm : m ≤ 12) (f : Nat → Bool) : bitsOf m f < 65536 :=
  Nat.lt_of_lt_of_le (bitsOf_lt m f) (Nat.le_trans (Nat.pow_le_pow_right (by decide) hm) (by decide))
def tab (m : Nat) (r : Rel) : List Int := (List.range m).map fun a => ((bitsOf m (r a) : Nat) : Int)
theorem tab_at (m : Nat) (r : Rel) (a : Nat) (h : a < m) : rd (tab m r) (a : Int) = ((bitsOf m (r a) : Nat) : Int) := map_range_getD m _ _ a h
theorem tab_len (m : Nat) (r : Rel) : (tab m r).length = m := by simp [tab]
theorem testBit_bitsOf : ∀ (m : Nat) (f : Nat → Bool) (i : Nat), (bitsOf m f).testBit i = (decide (i < m) && f i)
  | 0, f, i => by simp [bitsOf]
  | m + 1, f, i => by
    have ih := testBit_bitsOf m f
    by_cases hi : i < m
    · have h1 : i < m + 1 := by omega
      cases hf : f m with
      | false => simp [bitsOf, hf, ih i, hi, h1]
      | true => rw [bitsOf, hf, Bool.toNat_true, Nat.one_mul, Nat.add_comm, Nat.testBit_two_pow_add_gt hi, ih i]; simp [hi, h1]
    · by_cases e : i = m
      · subst e
        cases hf : f i with
        | false => simp [bitsOf, hf, ih i]
        | true => rw [bitsOf, hf, Bool.toNat_true, Nat.one_mul, Nat.add_comm, Nat.testBit_two_pow_add_eq, ih i]; simp
      · have h1 : ¬ i < m + 1 := by omega
        rw [Nat.testBit_lt_two_pow (Nat.lt_of_lt_of_le (bitsOf_lt (m + 1) f) (Nat.pow_le_pow_right (by decide) (by omega)))]
        simp [h1]
theorem has_f (m : Nat) (hm : m ≤ 12) (r : Rel) (a b : Nat) (ha : a < m) (hb : b < m) : impl_table_has.f (tab m r) (a : Int) (b : Int) = some (r a b) := by
  unfold impl_table_has.f
  rw [if_pos (by omega), if_pos (by rw [tab_len]; omega), if_pos (by omega), tab_at m r a ha]
  have hX := bitsOf_u16 m hm (r a)
  have hs : shr .u16 ((bitsOf m (r a) : Nat) : Int) (b : Int) = ((bitsOf m (r a) / 2 ^ b : Nat) : Int) := by
    unfold shr
    rw [Int.toNat_natCast, Nat.min_eq_left (show b ≤ IntKind.u16.bits from by show b ≤ 16; omega)]
    simp
  have hd : bitsOf m (r a) / 2 ^ b < 65536 := Nat.lt_of_le_of_lt (Nat.div_le_self _ _) hX
  have ht := testBit_bitsOf m (r a) b
  rw [Nat.testBit_eq_decide_div_mod_eq] at ht
  have e1 : Go.bits .and .u16 ((bitsOf m (r a) / 2 ^ b : Nat) : Int) 1 = ((bitsOf m (r a) / 2 ^ b % 2 : Nat) : Int) := by
    have := and16 (bitsOf m (r a) / 2 ^ b) 1 hd (by decide)
    rw [Nat.and_one_is_mod] at this
    exact this
  rw [hs, e1]
  simp only [hb, decide_true, Bool.true_and] at ht
  rw [← ht]
  congr 1
  by_cases h : bitsOf m (r a) / 2 ^ b % 2 = 1
  · simp [h]
  · have h0 : bitsOf m (r a) / 2 ^ b % 2 = 0 := by omega
    simp [h0]
theorem has_i (m : Nat) (hm : m ≤ 12) (r : Rel) (x y : Int) (hx : inP m x) (hy : inP m y) : impl_table_has.f (tab m r) x y = some (r x.toNat y.toNat) := by
  have h := has_f m hm r x.toNat y.toNat (by have := hx.1; have := hx.2; omega) (by have := hy.1; have := hy.2; omega)
  rwa [Int.toNat_of_nonneg hx.1, Int.toNat_of_nonneg hy.1] at h
theorem implGroup_l1 (m : Nat) (hm : m ≤ 12) (r : Rel) (L : List Int) (hL : L.length ≤ 1048576) (i : Nat) (x : Int) (hx : inP m x) (P : List Int) (hP : ∀ y ∈ P, inP m y) (hPl : P.length ≤ 1048576) (R : Bool) (h : Ev (fun k => impl_table_isGroup.l0 k (tab m r) L L (L.length : Int) ((i + 1 : Nat) : Int)) R) (hi : i < 1048576) : ∀ (rest pre : List Int), P = pre ++ rest → Ev (fun k => impl_table_isGroup.l1 k (tab m r) L x L (L.length : Int) (i : Int) P (P.length : Int) (pre.length : Int)) (knowsAll r rest x && R)
  | [], pre, e => by
    have el : P.length = pre.length := by rw [e]; simp
    refine Ev.cast (Ev.step (fun k => ?_) h) (by simp [knowsAll])
    rw [impl_table_isGroup.l1, if_neg (by omega), w1 (by omega)]
  | y :: rest, pre, e => by
    have el : pre.length < P.length := by rw [e]; simp
    have hy : rd P (pre.length : Int) = y := by rw [e]; exact rd_mid pre _ y
    have hyP := hP y (by rw [e]; simp)
    have ih := implGroup_l1 m hm r L hL i x hx P hP hPl R h hi rest (pre ++ [y]) (by rw [e]; simp)
    rw [List.length_append, List.length_singleton] at ih
    cases hr : r x.toNat y.toNat with
    | true =>
      refine Ev.cast (Ev.step (fun k => ?_) ih) (by simp [knowsAll, hr])
      rw [impl_table_isGroup.l1, if_pos (by omega), if_pos (by omega), if_pos (by omega), hy, has_i m hm r x y hx hyP, hr, w1 (by omega)]
      rfl
    | false =>
      refine Ev.one (fun k => ?_)
      rw [impl_table_isGroup.l1, if_pos (by omega), if_pos (by omega), if_pos (by omega), hy, has_i m hm r x y hx hyP, hr]
      simp [knowsAll, hr]
theorem implGroup_l0 (m : Nat) (hm : m ≤ 12) (r : Rel) (L : List Int) (hL : L.length ≤ 1048576) (hP : ∀ y ∈ L, inP m y) : ∀ (rest pre : List Int), L = pre ++ rest → Ev (fun k => impl_table_isGroup.l0 k (tab m r) L L (L.length : Int) (pre.length : Int)) (grp r pre rest)
  | [], pre, e => by
    have el : L.length = pre.length := by rw [e]; simp
    refine Ev.one (fun k => ?_)
    rw [impl_table_isGroup.l0, if_neg (by omega)]; rfl
  | x :: rest, pre, e => by
    have el : pre.length < L.length := by rw [e]; simp
    have hx : rd L (pre.length : Int) = x := by rw [e]; exact rd_mid pre _ x
    have ht : L.take pre.length = pre := by rw [e]; simp
    have ih := implGroup_l0 m hm r L hL hP rest (pre ++ [x]) (by rw [e]; simp)
    rw [List.length_append, List.length_singleton] at ih
    have h1 := implGroup_l1 m hm r L hL pre.length x (hP x (by rw [e]; simp)) pre (fun y hy => hP y (by rw [e]; simp [hy])) (by omega) _ ih (by omega) pre [] rfl
    refine Ev.step (fun k => ?_) h1
    rw [impl_table_isGroup.l0, if_pos (by omega), if_pos (by omega), if_pos (by omega), if_pos (by omega), hx, Int.toNat_natCast, ht]
    rfl
def sorted (l : List Int) : List Int := l.mergeSort fun x y => decide (x ≤ y)
theorem implGrow_l0 (m : Nat) (hm : m ≤ 12) (r : Rel) : ∀ (d a : Nat) (out : List Int), a + d = m → out.length ≤ 12 + a → (∀ y ∈ out, inP m y) → grp r [] out = true → Ev (fun k => impl_GrowGroup.l0 k (tab m r) out (m : Int) (a : Int)) (sorted (growBy r d a out), true)
  | 0, a, out, hd, hl, hP, hg => by
    refine Ev.one (fun k => ?_)
    rw [impl_GrowGroup.l0, if_neg (by omega)]
    unfold slices_Sort_int_int.f
    rw [if_pos (by omega)]
    rfl
  | d + 1, a, out, hd, hl, hP, hg => by
    have hx : inP m (a : Int) := ⟨by omega, by omega⟩
    have hP' : ∀ y ∈ out ++ [(a : Int)], inP m y := fun y hy => by
      rcases List.mem_append.1 hy with hy | hy
      · exact hP y hy
      · rw [List.mem_singleton.1 hy]; exact hx
    refine Ev.step (f := fun k => (slices_Contains_int_int.f k out (a : Int)).bind fun t => if t = true then impl_GrowGroup.l0 k (tab m r) out (m : Int) ((a + 1 : Nat) : Int) else (impl_table_isGroup.f k (tab m r) (out ++ [(a : Int)])).bind fun t => if t = true then impl_GrowGroup.l0 k (tab m r) (out ++ [(a : Int)]) (m : Int) ((a + 1 : Nat) : Int) else impl_GrowGroup.l0 k (tab m r) out (m : Int) ((a + 1 : Nat) : Int)) (fun k => ?_) ?_
    · rw [impl_GrowGroup.l0, if_pos (by omega)]
      unfold slices_Clone_int_int.f
      rw [if_pos (by omega)]
      simp only [Option.bind_some]
      rw [if_pos (by omega), w1 (by omega)]
    · refine Ev.bind (contains_ev out (a : Int) (by omega)) ?_
      cases hc : out.contains (a : Int) with
      | true =>
        simp only [if_true]
        have ih := implGrow_l0 m hm r d (a + 1) out (by omega) (by omega) hP hg
        refine Ev.cast ih ?_
        rw [growBy, hc]; simp
      | false =>
        simp only [Bool.false_eq_true, if_false]
        have hi := implGroup_l0 m hm r (out ++ [(a : Int)]) (by simp; omega) hP' (out ++ [(a : Int)]) [] rfl
        rw [grp_snoc, hg, Bool.true_and, List.nil_append] at hi
        refine Ev.bind (show Ev (fun k => impl_table_isGroup.f k (tab m r) (out ++ [(a : Int)])) _ from hi) ?_
        cases hk : knowsAll r out (a : Int) with
        | true =>
          simp only [if_true]
          have ih := implGrow_l0 m hm r d (a + 1) (out ++ [(a : Int)]) (by omega) (by simp; omega) hP' (by rw [grp_snoc, hg, List.nil_append, hk]; rfl)
          refine Ev.cast ih ?_
          rw [growBy, hc, hk]; simp
        | false =>
          simp only [Bool.false_eq_true, if_false]
          have ih := implGrow_l0 m hm r d (a + 1) out (by omega) (by omega) hP hg
          refine Ev.cast ih ?_
          rw [growBy, hc, hk]; simp
theorem areWithin_f (l : List Int) (lo hi : Int) : impl_areWithin.f l lo hi = some (inAll l lo hi) := rfl

theorem within_f (a lo hi : Int) : impl_within.f a lo hi = some (decide (lo ≤ a) && decide (a ≤ hi)) := by
  unfold impl_within.f
  by_cases h : lo ≤ a
  · rw [if_pos h]; simp [h]
  · rw [if_neg h]; simp [h]
theorem areCrowd_f (a : Int) : impl_areCrowd.f a = some (decide (0 ≤ a ∧ a ≤ 12)) := by
  unfold impl_areCrowd.f
  rw [within_f]; simp [Bool.decide_and]
def cmp3 (a b : Int) : Int := if a < b then -1 else if a > b then 1 else 0
def cmpP (p q : S79) : Int := if cmp3 p.f0 q.f0 = 0 then cmp3 p.f1 q.f1 else cmp3 p.f0 q.f0
theorem cmpP_neg (p q : S79) : decide (cmpP p q ≥ 0) = !lt2 p q := by
  unfold cmpP cmp3 lt2
  by_cases h1 : p.f0 < q.f0
  · simp [h1]
  · by_cases h2 : p.f0 > q.f0
    · have h3 : ¬ p.f0 = q.f0 := by omega
      simp [h1, h2, h3]
    · have h3 : p.f0 = q.f0 := by omega
      by_cases h4 : p.f1 < q.f1
      · simp [h3, h4]
      · by_cases h5 : p.f1 > q.f1
        · simp [h3, h4, h5]
        · simp [h3, h4, h5]
theorem cmpOr_ev (a b : Int) : Ev (fun k => cmp_Or_int.f k [a, b]) (if a = 0 then b else a) := by
  refine ⟨3, fun k hk => ?_⟩
  obtain ⟨k, rfl⟩ : ∃ m, k = m + 3 := ⟨k - 3, by omega⟩
  have e1 : wrap64 (0 + 1) = 1 := by unfold wrap64; omega
  have e2 : wrap64 (1 + 1) = 2 := by unfold wrap64; omega
  have r0 : rd [a, b] 0 = a := rfl
  have r1 : rd [a, b] 1 = b := rfl
  simp only [cmp_Or_int.f, cmp_Or_int.l0, List.length_cons, List.length_nil, r0, r1, e1, e2]
  by_cases h : a = 0
  · by_cases h2 : b = 0
    · simp [h, h2]
    · simp [h, h2]
  · simp [h]
theorem compare_f (a b : Int) : cmp_Compare_int.f a b = some (cmp3 a b) := by
  unfold cmp_Compare_int.f cmp_isNaN_int.f cmp3
  simp
  by_cases h : a < b
  · simp [h]
  · by_cases h2 : a > b
    · simp [h, h2]
    · simp [h, h2]
theorem comparePairs_ev (p q : S79) : Ev (fun k => impl_comparePairs.f k p.f0 p.f1 q.f0 q.f1) (cmpP p q) := by
  unfold impl_comparePairs.f
  simp only [compare_f, Option.bind_some]
  exact Ev.bind (cmpOr_ev _ _) (Ev.now _)
theorem implIsParty_l0 (n : Int) (l : List S79) (hl : l.length < 4611686018427387904) : ∀ (rest pre : List S79), l = pre ++ rest → Ev (fun k => impl_IsParty.l0 k l (l.length : Int) (pre.length : Int) n l) (okFrom n pre.getLast? rest && crowd n)
  | [], pre, h => by
    refine Ev.one (fun k => ?_)
    have e : l.length = pre.length := by rw [h]; simp
    rw [impl_IsParty.l0, if_neg (by omega), areCrowd_f]
    simp [okFrom, crowd]
  | x :: rest, pre, h => by
    have hlen : pre.length < l.length := by rw [h]; simp
    have hx : rd_T79 l (pre.length : Int) = x := by rw [h]; exact rdT_mid pre rest x
    have ih := implIsParty_l0 n l hl rest (pre ++ [x]) (by rw [h]; simp)
    rw [List.getLast?_concat, List.length_append, List.length_singleton] at ih
    by_cases c1 : x.f0 < 0
    · refine Ev.one (fun k => ?_)
      rw [impl_IsParty.l0, if_pos (by omega), if_pos (by omega), if_pos (by omega), hx, if_pos c1]
      have : decide (0 ≤ x.f0) = false := by simp; omega
      simp [okFrom, this]
    by_cases c2 : x.f0 ≥ x.f1
    · refine Ev.one (fun k => ?_)
      rw [impl_IsParty.l0, if_pos (by omega), if_pos (by omega), if_pos (by omega), hx, if_neg c1, if_pos c2]
      have : decide (x.f0 < x.f1) = false := by simp; omega
      simp [okFrom, this]
    by_cases c3 : x.f1 ≥ n
    · refine Ev.one (fun k => ?_)
      rw [impl_IsParty.l0, if_pos (by omega), if_pos (by omega), if_pos (by omega), hx, if_neg c1, if_neg c2, if_pos c3]
      have : decide (x.f1 < n) = false := by simp; omega
      simp [okFrom, this]
    have d1 : decide (0 ≤ x.f0) = true := by simp; omega
    have d2 : decide (x.f0 < x.f1) = true := by simp; omega
    have d3 : decide (x.f1 < n) = true := by simp; omega
    rcases List.eq_nil_or_concat pre with rfl | ⟨q, p, rfl⟩
    · refine Ev.cast (Ev.step (fun k => ?_) ih) ?_
      · rw [impl_IsParty.l0, if_pos (by omega), if_pos (by omega), if_pos (by omega), hx, if_neg c1, if_neg c2, if_neg c3, if_neg (by simp), w1 (by simp)]
      · simp [okFrom, d1, d2, d3, okPrev]
    · rw [List.concat_eq_append] at hlen hx ih h ⊢
      have hp : rd_T79 l (q.length : Int) = p := by rw [h, List.append_assoc]; exact rdT_mid q (x :: rest) p
      have hq : (q ++ [p]).length = q.length + 1 := by simp
      rw [hq] at hlen hx ih ⊢
      refine Ev.step (f := fun k => (impl_comparePairs.f k p.f0 p.f1 x.f0 x.f1).bind fun t => if t ≥ 0 then some false else impl_IsParty.l0 k l (l.length : Int) ((q.length + 1 + 1 : Nat) : Int) n l) (fun k => ?_) (Ev.bind (comparePairs_ev p x) ?_)
      · rw [impl_IsParty.l0, if_pos (by omega), if_pos (by omega), if_pos (by omega), hx, if_neg c1, if_neg c2, if_neg c3, if_pos (by omega), w64 (i := ((q.length + 1 : Nat) : Int) - 1) (by omega) (by omega), show ((q.length + 1 : Nat) : Int) - 1 = (q.length : Int) by omega, if_pos (by omega), if_pos (by omega), hp, w1 (by omega)]
      · have hc := cmpP_neg p x
        rw [List.getLast?_concat]
        by_cases hlt : lt2 p x = true
        · have c4 : ¬ cmpP p x ≥ 0 := by rw [hlt] at hc; simpa using hc
          simp only [if_neg c4]
          refine Ev.cast ih ?_
          simp [okFrom, d1, d2, d3, okPrev, hlt]
        · have hlt' : lt2 p x = false := by simpa using hlt
          have c4 : cmpP p x ≥ 0 := by rw [hlt'] at hc; simpa using hc
          simp only [if_pos c4]
          refine Ev.cast (Ev.now _) ?_
          simp [okFrom, okPrev, hlt']
theorem implIsParty_ev (n : Int) (l : List S79) (hl : l.length < 4611686018427387904) : Ev (fun k => impl_IsParty.f k n l) (good n l) := by
  unfold impl_IsParty.f
  have := implIsParty_l0 n l hl l [] rfl
  rw [Bool.and_comm] at this
  exact this
theorem arePeople_ev (n : Int) (l : List S79) (hl : l.length ≤ 1048576) (q : List Int) : Ev (fun k => impl_arePeople.f k n l q) (good n l && inAll q 0 (n - 1)) := by
  unfold impl_arePeople.f
  refine Ev.bind (implIsParty_ev _ _ (by omega)) ?_
  cases h : good n l with
  | true =>
    obtain ⟨m, rfl, hm, hn, _⟩ := good_nat h
    simp only [if_true, Bool.true_and, areWithin_f, Option.bind_some, w64 (i := (m : Int) - 1) (by omega) (by omega)]
    exact Ev.now _
  | false => simp only [Bool.false_eq_true, if_false, Bool.false_and]; exact Ev.now _
theorem isRising_l0 (L : List Int) (hL : L.length < 4611686018427387904) : ∀ (rest pre : List Int) (x : Int), L = pre ++ x :: rest → Ev (fun k => impl_isRising.l0 k L ((pre.length + 1 : Nat) : Int)) (rising (x :: rest))
  | [], pre, x, e => by
    have el : L.length = pre.length + 1 := by rw [e]; simp
    refine Ev.one (fun k => ?_)
    rw [impl_isRising.l0, if_neg (by omega)]; rfl
  | y :: rest, pre, x, e => by
    have el : pre.length + 1 < L.length := by rw [e]; simp
    have hx : rd L (pre.length : Int) = x := by rw [e]; exact rd_mid pre _ x
    have hy : rd L ((pre.length + 1 : Nat) : Int) = y := by
      have := rd_mid (pre ++ [x]) rest y
      rw [List.length_append, List.length_singleton, List.append_assoc] at this
      rw [e]; exact this
    have ew : wrap64 (((pre.length + 1 : Nat) : Int) - 1) = (pre.length : Int) := by rw [w64 (by omega) (by omega)]; omega
    by_cases h : y ≤ x
    · refine Ev.one (fun k => ?_)
      rw [impl_isRising.l0, if_pos (by omega), if_pos (by omega), ew, if_pos (by omega), if_pos (by omega), hx, hy, if_pos h]
      have : ¬ x < y := by omega
      simp [rising, this]
    · have ih := isRising_l0 L hL rest (pre ++ [x]) y (by rw [e]; simp)
      rw [List.length_append, List.length_singleton] at ih
      have : x < y := by omega
      refine Ev.cast (Ev.step (fun k => ?_) ih) (by simp [rising, this])
      rw [impl_isRising.l0, if_pos (by omega), if_pos (by omega), ew, if_pos (by omega), if_pos (by omega), hx, hy, if_neg h, w1 (by omega)]
theorem isRising_ev (L : List Int) (hL : L.length < 4611686018427387904) : Ev (fun k => impl_isRising.f k L) (rising L) := by
  unfold impl_isRising.f
  cases L with
  | nil => exact Ev.one (fun k => by rw [impl_isRising.l0, if_neg (by simp)]; rfl)
  | cons x rest => exact isRising_l0 (x :: rest) hL rest [] x rfl
theorem tab_false (m : Nat) : tab m (fun _ _ => false) = List.replicate m 0 := by
  unfold tab
  rw [← map_range_const (0 : Int) m]
  refine map_range_congr m _ _ fun i hi => ?_
  have : bitsOf m (fun _ => false) = 0 := by
    apply Nat.eq_of_testBit_eq
    intro i
    rw [testBit_bitsOf]; simp
  rw [this]; rfl
theorem bitsOf_or (m : Nat) (f : Nat → Bool) (b : Nat) (hb : b < m) : bitsOf m f ||| 2 ^ b = bitsOf m fun j => if j = b then true else f j := by
  apply Nat.eq_of_testBit_eq
  intro i
  rw [Nat.testBit_or, testBit_bitsOf, testBit_bitsOf, Nat.testBit_two_pow]
  by_cases e : i = b
  · subst e; simp [hb]
  · have e' : ¬ b = i := fun h => e h.symm
    simp [e, e']
theorem or16 (x y : Nat) (hx : x < 65536) (hy : y < 65536) : Go.bits .or .u16 (x : Int) (y : Int) = ((x ||| y : Nat) : Int) := (bits_nat .u16 16 (by decide) wraps_u16 x y hx hy).2
theorem pow_u16 (b : Nat) (h : b ≤ 12) : 2 ^ b < 65536 := Nat.lt_of_le_of_lt (Nat.pow_le_pow_right (by decide) h) (by decide)
theorem shl1 (b : Nat) (h : b ≤ 12) : shl .u16 1 (b : Int) = ((2 ^ b : Nat) : Int) := by
  have : b = 0 ∨ b = 1 ∨ b = 2 ∨ b = 3 ∨ b = 4 ∨ b = 5 ∨ b = 6 ∨ b = 7 ∨ b = 8 ∨ b = 9 ∨ b = 10 ∨ b = 11 ∨ b = 12 := by omega
  rcases this with rfl | rfl | rfl | rfl | rfl | rfl | rfl | rfl | rfl | rfl | rfl | rfl | rfl <;> decide
theorem bitsOf_congr (m : Nat) (f g : Nat → Bool) (h : ∀ i, i < m → f i = g i) : bitsOf m f = bitsOf m g := by
  apply Nat.eq_of_testBit_eq
  intro i
  rw [testBit_bitsOf, testBit_bitsOf]
  by_cases hi : i < m
  · simp [hi, h i hi]
  · simp [hi]
theorem tab_congr (m : Nat) (r s : Rel) (h : ∀ a b, a < m → b < m → r a b = s a b) : tab m r = tab m s := map_range_congr m _ _ fun a ha => by rw [bitsOf_congr m _ _ fun b hb => h a b ha hb]
theorem tab_set (m : Nat) (r : Rel) (a : Nat) (f : Nat → Bool) : (tab m r).set a ((bitsOf m f : Nat) : Int) = tab m (fun x => if x = a then f else r x) := by
  unfold tab
  rw [map_range_set]
  refine map_range_congr m _ _ fun i hi => ?_
  by_cases e : i = a <;> simp [e]
theorem tab_or (m : Nat) (hm : m ≤ 12) (r : Rel) (a b : Nat) (ha : a < m) (hb : b < m) : (tab m r).set a (Go.bits .or .u16 (rd (tab m r) (a : Int)) (shl .u16 1 (b : Int))) = tab m (upd r a b true) := by
  rw [tab_at m r a ha, shl1 b (by omega), or16 _ _ (bitsOf_u16 m hm _) (pow_u16 b (by omega)), bitsOf_or m _ b hb, tab_set]
  refine tab_congr m _ _ fun x y hx hy => ?_
  by_cases e : x = a
  · subst e; simp [upd]
  · simp [upd, e]
theorem table_l0 (m : Nat) (hm : m ≤ 12) (l : List S79) (hl : l.length < 4611686018427387904) (hn : natPairs m l) : ∀ (rest pre : List S79), l = pre ++ rest → Ev (fun k => impl_Party_table.l0 k (tab m (hasP pre)) l (l.length : Int) (pre.length : Int)) (tab m (hasP l))
  | [], pre, h => by
    refine Ev.one (fun k => ?_)
    have e : l = pre := by rw [h]; simp
    rw [impl_Party_table.l0, if_neg (by rw [e]; omega), e]
  | x :: rest, pre, h => by
    have hlen : pre.length < l.length := by rw [h]; simp
    obtain ⟨a, b, rfl, hab, hb⟩ := hn x (by rw [h]; simp)
    have hx : rd_T79 l (pre.length : Int) = ⟨(a : Int), (b : Int)⟩ := by rw [h]; exact rdT_mid pre rest _
    have ih := table_l0 m hm l hl hn rest (pre ++ [⟨(a : Int), (b : Int)⟩]) (by rw [h]; simp)
    rw [List.length_append, List.length_singleton, ← upd2_hasP] at ih
    refine Ev.step (fun k => ?_) ih
    rw [impl_Party_table.l0, if_pos (by omega), if_pos (by omega), if_pos (by omega), hx]
    dsimp only
    rw [tab_len, if_pos (by omega), if_pos (by omega), if_pos (by omega), Int.toNat_natCast, Int.toNat_natCast, tab_or m hm _ a b (by omega) (by omega)]
    simp only [Option.bind_some]
    rw [if_pos (by omega), tab_or m hm _ b a (by omega) (by omega), w1 (by omega)]
theorem table_ev (m : Nat) (hm : m ≤ 12) (l : List S79) (hl : l.length < 4611686018427387904) (hn : natPairs m l) : Ev (fun k => impl_Party_table.f k (m : Int) l) (tab m (hasP l)) := by
  unfold impl_Party_table.f
  simp only [if_pos (show (0 : Int) ≤ (m : Int) by omega), Int.toNat_natCast, if_pos (show m ≤ 140737488355328 by omega)]
  have := table_l0 m hm l hl hn l [] rfl
  rw [hasP_nil, tab_false] at this
  exact this

theorem implIsGroup_ev (n : Int) (l : List S79) (L : List Int) (hl : l.length ≤ 1048576) (hL : L.length ≤ 1048576) : Ev (fun k => impl_IsGroup.f k n l L) (good n l && groupR n l L, good n l) := by
  unfold impl_IsGroup.f groupR
  refine Ev.bind (implIsParty_ev _ _ (by omega)) ?_
  cases h : good n l with
  | true =>
    obtain ⟨m, rfl, hm, hn, ho⟩ := good_nat h
    simp only [if_true, Bool.true_and]
    refine Ev.bind (arePeople_ev _ l hl L) ?_
    rw [h, Bool.true_and]
    cases h1 : inAll L 0 ((m : Int) - 1) with
    | true =>
      simp only [if_true, Bool.true_and]
      refine Ev.bind (isRising_ev L (by omega)) ?_
      cases h2 : rising L with
      | true =>
        simp only [if_true, Bool.true_and]
        refine Ev.bind (table_ev m hm l (by omega) hn) ?_
        unfold impl_table_isGroup.f
        exact Ev.bind (implGroup_l0 m hm (hasP l) L hL (inAll_inP h1) L [] rfl) (Ev.now _)
      | false => simp only [Bool.false_eq_true, if_false, Bool.false_and]; exact Ev.now _
    | false => simp only [Bool.false_eq_true, if_false, Bool.false_and]; exact Ev.now _
  | false => simp only [Bool.false_eq_true, if_false, Bool.false_and]; exact Ev.now _
theorem rising_pairwise : ∀ (l : List Int), rising l = true → l.Pairwise (fun a b => a < b)
  | [], _ => List.Pairwise.nil
  | [x], _ => List.pairwise_singleton _ _
  | x :: y :: l, h => by
    rw [rising, Bool.and_eq_true, decide_eq_true_eq] at h
    have ih := rising_pairwise (y :: l) h.2
    refine List.Pairwise.cons (fun z hz => ?_) ih
    rcases List.mem_cons.1 hz with rfl | hz
    · exact h.1
    · have := (List.pairwise_cons.1 ih).1 z hz; omega
theorem rising_len (n : Int) : ∀ (l : List Int) (x : Int), rising (x :: l) = true → inAll (x :: l) 0 (n - 1) = true → (l.length : Int) + x < n
  | [], x, _, h => by simp [inAll] at h; simp; omega
  | y :: l, x, h, h2 => by
    simp only [rising, Bool.and_eq_true, decide_eq_true_eq] at h
    have h3 : inAll (y :: l) 0 (n - 1) = true := by
      unfold inAll at h2 ⊢
      rw [List.all_cons, Bool.and_eq_true] at h2
      exact h2.2
    have := rising_len n l y h.2 h3
    simp only [List.length_cons]
    omega
theorem rising_short (n : Int) (hn : 0 ≤ n) (l : List Int) (h : rising l = true) (h2 : inAll l 0 (n - 1) = true) : (l.length : Int) ≤ n := by
  cases l with
  | nil => simpa using hn
  | cons x l =>
    have := rising_len n l x h h2
    have h3 : 0 ≤ x := by unfold inAll at h2; simp at h2; exact h2.1.1
    simp only [List.length_cons]; omega
theorem contains_perm {l l' : List Int} (h : l.Perm l') (x : Int) : l.contains x = l'.contains x := by
  rw [Bool.eq_iff_iff, List.contains_iff_mem, List.contains_iff_mem]
  exact h.mem_iff
theorem grJoins_l0 (m : Nat) (hm : m ≤ 12) (r : Rel) (x : Int) (hx : inP m x) (P : List Int) (hP : ∀ y ∈ P, inP m y) (hl : P.length ≤ 1048576) : ∀ (rest pre : List Int), P = pre ++ rest → Ev (fun k => spec_grJoins.l0 k (mat m r) x P (P.length : Int) (pre.length : Int)) (knowsAll r rest x)
  | [], pre, e => by
    have el : P.length = pre.length := by rw [e]; simp
    refine Ev.one (fun k => ?_)
    rw [spec_grJoins.l0, if_neg (by omega)]; rfl
  | y :: rest, pre, e => by
    have el : pre.length < P.length := by rw [e]; simp
    have hy : rd P (pre.length : Int) = y := by rw [e]; exact rd_mid pre _ y
    have hyP := hP y (by rw [e]; simp)
    have ih := grJoins_l0 m hm r x hx P hP hl rest (pre ++ [y]) (by rw [e]; simp)
    rw [List.length_append, List.length_singleton] at ih
    have h0 := hx.1
    have h1 := hx.2
    have h2 := hyP.1
    have h3 := hyP.2
    obtain ⟨a, rfl⟩ := Int.eq_ofNat_of_zero_le h0
    obtain ⟨b, rfl⟩ := Int.eq_ofNat_of_zero_le h2
    have hrow : (rd_L4 (mat m r) (a : Int)).length = m := by rw [mat_row _ _ _ (by omega)]; simp
    have hat := mat_at m r a b (by omega) (by omega)
    cases hr : r a b with
    | true =>
      refine Ev.cast (Ev.step (fun k => ?_) ih) (by simp [knowsAll, hr])
      rw [spec_grJoins.l0, if_pos (by omega), if_pos (by omega), if_pos (by omega), if_pos (by omega), mat_len, if_pos (by omega), hy, if_pos (by omega), hrow, if_pos (by omega), hat, if_pos hr, w1 (by omega)]
    | false =>
      refine Ev.one (fun k => ?_)
      rw [spec_grJoins.l0, if_pos (by omega), if_pos (by omega), if_pos (by omega), if_pos (by omega), mat_len, if_pos (by omega), hy, if_pos (by omega), hrow, if_pos (by omega), hat, if_neg (by simp [hr])]
      simp [knowsAll, hr]
theorem grJoins_ev (m : Nat) (hm : m ≤ 12) (r : Rel) (x : Int) (hx : inP m x) (P : List Int) (hP : ∀ y ∈ P, inP m y) (hl : P.length ≤ 1048576) : Ev (fun k => spec_grJoins.f k (mat m r) P x) (knowsAll r P x) := by
  unfold spec_grJoins.f
  exact grJoins_l0 m hm r x hx P hP hl P [] rfl
/-! inserting into an increasing list -/
def insert1 (n : Int) : List Int → List Int
  | [] => [n]
  | x :: xs => if x < n then x :: insert1 n xs else n :: x :: xs
theorem insert1_perm (n : Int) : ∀ l : List Int, (insert1 n l).Perm (n :: l)
  | [] => List.Perm.refl _
  | x :: xs => by
    unfold insert1
    split
    · exact ((insert1_perm n xs).cons x).trans (List.Perm.swap n x xs)
    · exact List.Perm.refl _
theorem insert1_sorted (n : Int) : ∀ l : List Int, l.Pairwise (fun a b => a < b) → n ∉ l → (insert1 n l).Pairwise (fun a b => a < b)
  | [], _, _ => List.pairwise_singleton _ _
  | x :: xs, h, hn => by
    have h1 := List.pairwise_cons.1 h
    unfold insert1
    split
    · rename_i hx
      refine List.Pairwise.cons (fun y hy => ?_) (insert1_sorted n xs h1.2 (fun hm => hn (by simp [hm])))
      rcases List.mem_cons.1 ((insert1_perm n xs).mem_iff.1 hy) with rfl | hy
      · exact hx
      · exact h1.1 y hy
    · rename_i hx
      have hne : x ≠ n := fun e => hn (by simp [e])
      refine List.Pairwise.cons (fun y hy => ?_) h
      rcases List.mem_cons.1 hy with rfl | hy
      · omega
      · have := h1.1 y hy; omega
theorem knowsAll_perm (r : Rel) {l l' : List Int} (h : l.Perm l') (x : Int) : knowsAll r l x = knowsAll r l' x := by
  unfold knowsAll
  rw [Bool.eq_iff_iff, List.all_eq_true, List.all_eq_true]
  exact ⟨fun hh y hy => hh y (h.mem_iff.2 hy), fun hh y hy => hh y (h.mem_iff.1 hy)⟩
/-! whether a number is there -/
theorem l1Has_l0 (l : List Int) (a : Int) (hl : l.length < 4611686018427387904) : ∀ (rest pre : List Int), l = pre ++ rest → Ev (fun k => spec_l1Has.l0 k a l (l.length : Int) (pre.length : Int)) (rest.contains a)
  | [], pre, e => by
    have el : l.length = pre.length := by rw [e]; simp
    refine Ev.one (fun k => ?_)
    rw [spec_l1Has.l0, if_neg (by omega)]; rfl
  | x :: rest, pre, e => by
    have el : pre.length < l.length := by rw [e]; simp
    have hx : rd l (pre.length : Int) = x := by rw [e]; exact rd_mid pre _ x
    by_cases c : x = a
    · refine Ev.one (fun k => ?_)
      rw [spec_l1Has.l0, if_pos (by omega), if_pos (by omega), if_pos (by omega), hx, if_pos c]
      simp [c]
    · have ih := l1Has_l0 l a hl rest (pre ++ [x]) (by rw [e]; simp)
      rw [List.length_append, List.length_singleton] at ih
      refine Ev.cast (Ev.step (fun k => ?_) ih) ?_
      · rw [spec_l1Has.l0, if_pos (by omega), if_pos (by omega), if_pos (by omega), hx, if_neg c, w1 (by omega)]
      · have : ¬ a = x := fun h => c h.symm
        simp [this]
theorem l1Has_ev (l : List Int) (a : Int) (hl : l.length < 4611686018427387904) : Ev (fun k => spec_l1Has.f k l a) (l.contains a) := l1Has_l0 l a hl l [] rfl
theorem l1Put_l0 (L : List Int) (n : Int) (hL : L.length ≤ 100) (hn : n ∉ L) : ∀ (rest pre : List Int), L = pre ++ rest → Ev (fun k => spec_l1Put.l0 k L n (pre.length : Int)) (pre ++ insert1 n rest)
  | [], pre, e => by
    have el : L.length = pre.length := by rw [e]; simp
    refine Ev.one (fun k => ?_)
    rw [spec_l1Put.l0, if_neg (by omega)]
    simp only [Option.bind_some]
    rw [if_pos (by omega), if_pos (by omega)]
    have ht : L.take (pre.length : Int).toNat = pre := by rw [e]; simp
    have hd : L.drop (pre.length : Int).toNat = [] := by rw [e]; simp
    rw [ht, hd, if_pos (by simp; omega), if_pos (by simp; omega), if_pos (by simp; omega)]
    simp [insert1]
  | x :: rest, pre, e => by
    have el : pre.length < L.length := by rw [e]; simp
    have hx : rd L (pre.length : Int) = x := by rw [e]; exact rd_mid pre _ x
    have hxn : x ≠ n := fun h => hn (by rw [e, h]; simp)
    by_cases c : x < n
    · have ih := l1Put_l0 L n hL hn rest (pre ++ [x]) (by rw [e]; simp)
      rw [List.length_append, List.length_singleton] at ih
      refine Ev.cast (Ev.step (fun k => ?_) ih) (by rw [insert1, if_pos c]; simp)
      rw [spec_l1Put.l0, if_pos (by omega), if_pos (by omega), hx, if_pos c, w1 (by omega)]
    · refine Ev.one (fun k => ?_)
      rw [spec_l1Put.l0, if_pos (by omega), if_pos (by omega), hx, if_neg c, if_neg hxn]
      simp only [Option.bind_some]
      rw [if_pos (by omega)]
      have ht : L.take (pre.length : Int).toNat = pre := by rw [e]; simp
      have hd : L.drop (pre.length : Int).toNat = x :: rest := by rw [e]; simp
      have hlen : pre.length + (rest.length + 1) ≤ 100 := by rw [e] at hL; simpa using hL
      rw [ht, hd, if_pos (by simp; omega), if_pos (by simp; omega), if_pos (by simp; omega)]
      rw [insert1, if_neg c]
      simp
theorem l1Put_ev (L : List Int) (n : Int) (hL : L.length ≤ 100) (hn : n ∉ L) : Ev (fun k => spec_l1Put.f k L n) (insert1 n L) := l1Put_l0 L n hL hn L [] rfl
theorem sorted_unique {s l : List Int} (h : s.Pairwise (fun a b => a < b)) (hp : s.Perm l) : sorted l = s := by
  unfold sorted
  have hs := List.pairwise_mergeSort (le := fun x y : Int => decide (x ≤ y)) (fun a b c h1 h2 => by rw [decide_eq_true_eq] at *; omega) (fun a b => by rw [Bool.or_eq_true, decide_eq_true_eq, decide_eq_true_eq]; omega) l
  refine List.Perm.eq_of_pairwise (le := fun a b : Int => a ≤ b) (fun a b _ _ h1 h2 => by omega) (hs.imp (fun h => by simpa using h)) (h.imp (fun h => by omega)) ?_
  exact (List.mergeSort_perm _ _).trans hp.symm
theorem specGrow_l0 (m : Nat) (hm : m ≤ 12) (r : Rel) : ∀ (d a : Nat) (out so : List Int), a + d = m → so.length ≤ 12 + a → so.Pairwise (fun x y => x < y) → so.Perm out → (∀ y ∈ so, inP m y) → Ev (fun k => spec_GrowGroup.l0 k (mat m r) so (m : Int) (a : Int)) (sorted (growBy r d a out), true)
  | 0, a, out, so, hd, hl, hs, hp, hP => by
    refine Ev.one (fun k => ?_)
    rw [spec_GrowGroup.l0, if_neg (by omega), growBy, sorted_unique hs hp]
  | d + 1, a, out, so, hd, hl, hs, hp, hP => by
    have hx : inP m (a : Int) := ⟨by omega, by omega⟩
    refine Ev.step (f := fun k => (spec_l1Has.f k so (a : Int)).bind fun t => if t = true then spec_GrowGroup.l0 k (mat m r) so (m : Int) ((a + 1 : Nat) : Int) else (spec_grJoins.f k (mat m r) so (a : Int)).bind fun t => if t = true then (spec_l1Put.f k so (a : Int)).bind fun t => spec_GrowGroup.l0 k (mat m r) t (m : Int) ((a + 1 : Nat) : Int) else spec_GrowGroup.l0 k (mat m r) so (m : Int) ((a + 1 : Nat) : Int)) (fun k => ?_) ?_
    · rw [spec_GrowGroup.l0, if_pos (by omega), w1 (by omega)]
    · refine Ev.bind (l1Has_ev so (a : Int) (by omega)) ?_
      rw [growBy, ← contains_perm hp, ← knowsAll_perm r hp]
      cases hc : so.contains (a : Int) with
      | true =>
        simp only [if_true]
        refine Ev.cast (specGrow_l0 m hm r d (a + 1) out so (by omega) (by omega) hs hp hP) ?_
        simp
      | false =>
        simp only [Bool.false_eq_true, if_false]
        refine Ev.bind (grJoins_ev m hm r (a : Int) hx so hP (by omega)) ?_
        cases hk : knowsAll r so (a : Int) with
        | true =>
          simp only [if_true, and_self]
          have hnot : (a : Int) ∉ so := fun hh => by rw [← List.contains_iff_mem, hc] at hh; cases hh
          refine Ev.bind (l1Put_ev so (a : Int) (by omega) hnot) ?_
          have hpi := insert1_perm (a : Int) so
          exact specGrow_l0 m hm r d (a + 1) (out ++ [(a : Int)]) (insert1 (a : Int) so) (by omega) (by rw [hpi.length_eq]; simp; omega) (insert1_sorted _ so hs hnot) (hpi.trans ((hp.cons (a : Int)).trans (List.perm_append_singleton (a : Int) out).symm)) (fun y hy => by
            rcases List.mem_cons.1 (hpi.mem_iff.1 hy) with rfl | hy
            · exact hx
            · exact hP y hy)
        | false =>
          simp only [Bool.false_eq_true, if_false, and_false]
          exact specGrow_l0 m hm r d (a + 1) out so (by omega) (by omega) hs hp hP
theorem GrowGroup_common (n : Int) (l : List S79) (L : List Int) (w : (Lit.int .i64 n).wf = true) (hl : l.length ≤ 1048576) (hL : L.length ≤ 1048576) : ∃ R : List Int × Bool, Ev (fun k => spec_GrowGroup.f k n l L) R ∧ Ev (fun k => impl_GrowGroup.f k n l L) R ∧ R.1.length ≤ 1048576 := by
  cases h : (good n l && groupR n l L) with
  | false =>
    refine ⟨([], false), ?_, ?_, Nat.zero_le _⟩
    · unfold spec_GrowGroup.f
      refine Ev.bind (grGroup_ev n l L hl hL) ?_
      simp only [h, Bool.false_eq_true, if_false]
      exact Ev.now _
    · unfold impl_GrowGroup.f
      refine Ev.bind (implIsGroup_ev n l L hl hL) ?_
      simp only [h, Bool.false_eq_true, if_false]
      exact Ev.now _
  | true =>
    have h' := h
    rw [Bool.and_eq_true] at h'
    obtain ⟨hg, hR⟩ := h'
    obtain ⟨m, rfl, hm, hn, ho⟩ := good_nat hg
    unfold groupR at hR
    simp only [Bool.and_eq_true] at hR
    obtain ⟨h1, h2, h3⟩ := hR
    have hlen := rising_short (m : Int) (by omega) L h2 h1
    have hP := inAll_inP h1
    refine ⟨(sorted (growBy (hasP l) m 0 L), true), ?_, ?_, ?_⟩
    · unfold spec_GrowGroup.f
      refine Ev.bind (grGroup_ev _ l L hl hL) ?_
      simp only [h, if_true]
      refine Ev.bind (paTable_ev m hm l (by omega) hn) ?_
      unfold spec_l1Own.f
      simp only [Option.bind_some, List.length_nil, Nat.zero_add, if_pos (show L.length < 17592186044416 by omega), List.nil_append, mat_len]
      exact specGrow_l0 m hm (hasP l) m 0 L L (by omega) (by omega) (rising_pairwise L h2) (List.Perm.refl _) hP
    · unfold impl_GrowGroup.f
      refine Ev.bind (implIsGroup_ev _ l L hl hL) ?_
      simp only [h, if_true]
      refine Ev.bind (table_ev m hm l (by omega) hn) ?_
      unfold slices_Clone_int_int.f
      simp only [if_pos (show L.length ≤ 1000000000 by omega), Option.bind_some]
      exact implGrow_l0 m hm (hasP l) m 0 L (by omega) (by omega) hP h3
    · show (sorted (growBy (hasP l) m 0 L)).length ≤ _
      have hb := growBy_len (hasP l) m 0 L
      unfold sorted
      rw [List.length_mergeSort]
      omega

def conv (l : List S81) : List S79 := l.map fun x => ⟨x.f0, x.f1⟩
theorem conv_len (l : List S81) : (conv l).length = l.length := by simp [conv]
theorem ext_getD {a b : List Int} (h : a.length = b.length) (hj : ∀ j, j < a.length → a.getD j 0 = b.getD j 0) : a = b := by
  apply List.ext_getElem h
  intro i h1 h2
  have := hj i h1
  simpa [List.getD_eq_getElem?_getD, h1, h2] using this
theorem eqIntS_l0 (a b : List Int) (h : a.length = b.length) (hl : a.length < 4611686018427387904) : ∀ (d i : Nat), i + d = a.length → (∀ j, j < i → a.getD j 0 = b.getD j 0) → Ev (fun k => laws_eqIntS.l0 k a b i) (decide (a = b))
  | 0, i, hd, hj => by
    refine Ev.one (fun k => ?_)
    have : a = b := ext_getD h (fun j hj' => hj j (by omega))
    rw [laws_eqIntS.l0, if_neg (by omega)]; simp [this]
  | d + 1, i, hd, hj => by
    by_cases e : a.getD i 0 = b.getD i 0
    · refine Ev.step (f := fun k => laws_eqIntS.l0 k a b ((i + 1 : Nat) : Int)) (fun k => ?_) (eqIntS_l0 a b h hl d (i + 1) (by omega) ?_)
      · rw [laws_eqIntS.l0, if_pos (by omega), if_pos (by omega), if_pos (by omega), if_pos (by exact e), w1 (by omega)]
      · intro j hj'
        by_cases e2 : j = i
        · rw [e2]; exact e
        · exact hj j (by omega)
    · refine Ev.one (fun k => ?_)
      have : a ≠ b := fun h => e (by rw [h])
      rw [laws_eqIntS.l0, if_pos (by omega), if_pos (by omega), if_pos (by omega), if_neg (by exact e)]; simp [this]
theorem eqIntS_ev (a b : List Int) (hl : a.length < 4611686018427387904) : Ev (fun k => laws_eqIntS.f k a b) (decide (a = b)) := by
  unfold laws_eqIntS.f
  by_cases h : a.length = b.length
  · simp only [if_pos (show (a.length : Int) = (b.length : Int) by omega)]
    exact eqIntS_l0 a b h hl a.length 0 (by omega) (fun j hj => absurd hj (Nat.not_lt_zero _))
  · simp only [if_neg (show ¬ (a.length : Int) = (b.length : Int) by omega)]
    have : a ≠ b := fun e => h (by rw [e])
    exact Ev.one (fun k => by simp [this])
theorem eqIntS_self (a : List Int) (hl : a.length < 4611686018427387904) : Ev (fun k => laws_eqIntS.f k a a) true := by
  have h := eqIntS_ev a a hl
  rwa [decide_eq_true rfl] at h
theorem eqPairS_l0 (l : List S79) (hl : l.length < 4611686018427387904) : ∀ (d i : Nat), i + d = l.length → Ev (fun k => laws_eqPairS.l0 k l l i) true
  | 0, i, hd => by
    refine Ev.one (fun k => ?_)
    rw [laws_eqPairS.l0, if_neg (by omega)]
  | d + 1, i, hd => by
    refine Ev.step (fun k => ?_) (eqPairS_l0 l hl d (i + 1) (by omega))
    rw [laws_eqPairS.l0, if_pos (by omega), if_pos (by omega), if_pos (by omega), laws_eqPair.f, if_pos rfl, if_pos rfl, w1 (by omega)]
    rfl
theorem eqParty_self (a : Int) (l : List S79) (hl : l.length < 4611686018427387904) : Ev (fun k => laws_eqParty.f k a l a l) true := by
  unfold laws_eqParty.f laws_eqPairS.f
  simp only [if_true]
  have h : Ev (fun k => laws_eqPairS.l0 k l l 0) true := by simpa using eqPairS_l0 l hl l.length 0 (by omega)
  refine Ev.bind h ?_
  simp only [if_true]
  exact Ev.now _

/-- The list bears the marks m, m+1, .. -/
def Marked (m : Int) (z : List Int) : Prop := ∀ j, j < z.length → z.getD j 0 = m + j
theorem heldIntS_l0 (m : Int) (z : List Int) (h0 : 0 ≤ m) (hm : m + z.length < 4611686018427387904) (hz : Marked m z) : ∀ (d i : Nat), i + d = z.length → Ev (fun k => laws_heldIntS.l0 k z (m + i) i) (m + z.length)
  | 0, i, hd => by
    refine Ev.one (fun k => ?_)
    rw [laws_heldIntS.l0, if_neg (by omega), show i = z.length by omega]
  | d + 1, i, hd => by
    refine Ev.step (fun k => ?_) (heldIntS_l0 m z h0 hm hz d (i + 1) (by omega))
    rw [laws_heldIntS.l0, if_pos (by omega), if_pos (by omega), if_pos (by exact hz i (by omega)), w1 (by omega), w64 (by omega) (by omega), show m + (i : Int) + 1 = m + ((i + 1 : Nat) : Int) by omega]
theorem heldIntS_ev (z : List Int) (m : Int) (h0 : 0 ≤ m) (hm : m + z.length < 4611686018427387904) (hz : Marked m z) : Ev (fun k => laws_heldIntS.f k z m) (m + z.length) := by
  unfold laws_heldIntS.f
  simpa using heldIntS_l0 m z h0 hm hz z.length 0 (by omega)

theorem getD_set (l : List Int) (i j : Nat) (v : Int) (hi : i < l.length) : (l.set i v).getD j 0 = if i = j then v else l.getD j 0 := by
  rw [List.getD_eq_getElem?_getD, List.getElem?_set]
  by_cases h : i = j
  · subst h; simp [hi]
  · simp [h]
theorem markIntS_l0 (m : Int) (n : Nat) (h0 : 0 ≤ m) (hm : m + n < 4611686018427387904) : ∀ (d i : Nat) (y : List Int), i + d = n → y.length = n → (∀ j, j < i → y.getD j 0 = m + j) → ∃ z : List Int, z.length = n ∧ Marked m z ∧ Ev (fun k => laws_markIntS.l0 k y (m + i) i) (m + n, z)
  | 0, i, y, hd, hy, h => by
    refine ⟨y, hy, fun j hj => h j (by omega), Ev.one (fun k => ?_)⟩
    rw [laws_markIntS.l0, if_neg (by omega), show i = n by omega]
  | d + 1, i, y, hd, hy, h => by
    obtain ⟨z, hz, hj, hE⟩ := markIntS_l0 m n h0 hm d (i + 1) (y.set i (m + i)) (by omega) (by simpa using hy) (fun j hj => by
      rw [getD_set _ _ _ _ (by omega)]
      by_cases e : i = j
      · simp [e]
      · rw [if_neg e]; exact h j (by omega))
    refine ⟨z, hz, hj, Ev.step (fun k => ?_) hE⟩
    rw [laws_markIntS.l0, if_pos (by omega), if_pos (by omega), w1 (by omega), w64 (by omega) (by omega), show m + (i : Int) + 1 = m + ((i + 1 : Nat) : Int) by omega]
    rfl
theorem markIntS_ev (y : List Int) (m : Int) (h0 : 0 ≤ m) (hm : m + y.length < 4611686018427387904) : ∃ z : List Int, z.length = y.length ∧ Marked m z ∧ Ev (fun k => laws_markIntS.f k y m) (m + y.length, z) := by
  obtain ⟨z, hz, hj, hE⟩ := markIntS_l0 m y.length h0 hm y.length 0 y (by omega) rfl (fun j hj => absurd hj (Nat.not_lt_zero _))
  refine ⟨z, hz, hj, ?_⟩
  unfold laws_markIntS.f
  simpa using hE
/-- The pairs bear the marks m, m+1, .. -/
def MarkedP (m : Int) (z : List S79) : Prop := ∀ j, j < z.length → z[j]? = some ⟨m + 2 * j, m + 2 * j + 1⟩
theorem getD_of_get {α : Type} (l : List α) (i : Nat) (d x : α) (h : l[i]? = some x) : l.getD i d = x := by rw [List.getD_eq_getElem?_getD, h]; rfl
theorem rdT_set (y : List S79) (i : Nat) (v : S79) (h : i < y.length) : rd_T79 (y.set i v) (i : Int) = v := getD_of_get _ i _ _ (by rw [List.getElem?_set]; simp [h])
theorem markPairS_l0 (m : Int) (n : Nat) (h0 : 0 ≤ m) (hm : m + 2 * n < 4611686018427387904) : ∀ (d i : Nat) (y : List S79), i + d = n → y.length = n → (∀ j, j < i → y[j]? = some ⟨m + 2 * j, m + 2 * j + 1⟩) → ∃ z : List S79, z.length = n ∧ MarkedP m z ∧ Ev (fun k => laws_markPairS.l0 k y (m + 2 * i) i) (m + 2 * n, z)
  | 0, i, y, hd, hy, h => by
    refine ⟨y, hy, fun j hj => h j (by omega), Ev.one (fun k => ?_)⟩
    rw [laws_markPairS.l0, if_neg (by omega), show i = n by omega]
  | d + 1, i, y, hd, hy, h => by
    have hi : i < y.length := by omega
    obtain ⟨z, hz, hj, hE⟩ := markPairS_l0 m n h0 hm d (i + 1) (y.set i ⟨m + 2 * i, m + 2 * i + 1⟩) (by omega) (by simpa using hy) (fun j hj => by
      rw [List.getElem?_set]
      by_cases e : i = j
      · subst e; simp [hi]
      · rw [if_neg e]; exact h j (by omega))
    refine ⟨z, hz, hj, Ev.step (fun k => ?_) hE⟩
    rw [laws_markPairS.l0, if_pos (by omega), if_pos (by omega)]
    simp only [Option.bind_some, Int.toNat_natCast]
    rw [rdT_set _ _ _ (by omega), List.set_set, w1 (by omega), w64 (i := m + 2 * (i : Int) + 1) (by omega) (by omega), w64 (by omega) (by omega), show m + 2 * (i : Int) + 1 + 1 = m + 2 * ((i + 1 : Nat) : Int) by omega]
theorem markParty_ev (a : Int) (y : List S79) (m : Int) (h0 : 0 ≤ m) (hm : m + 2 * y.length < 4611686018427387904) : ∃ z : List S79, z.length = y.length ∧ MarkedP m z ∧ Ev (fun k => laws_markParty.f k a y m) (m + 2 * y.length, z) := by
  obtain ⟨z, hz, hj, hE⟩ := markPairS_l0 m y.length h0 hm y.length 0 y (by omega) rfl (fun j hj => absurd hj (Nat.not_lt_zero _))
  refine ⟨z, hz, hj, ?_⟩
  unfold laws_markParty.f laws_markPairS.f
  have hE' : Ev (fun k => laws_markPairS.l0 k y m 0) (m + 2 * y.length, z) := by simpa using hE
  exact Ev.bind hE' (Ev.now _)
theorem szParty_f (a0 : Int) (l : List S81) (a1 : Int) (h0 : 0 ≤ a1) (h1 : a1 ≤ 1048576) (hl : l.length ≤ maxLen) : laws_szParty.f a0 l a1 = some (if a1 - l.length < 0 then -1 else a1 - l.length) := by
  unfold maxLen at hl
  unfold laws_szParty.f laws_szPairS.f
  rw [w64 (by omega) (by omega)]
  by_cases h : a1 - l.length < 0
  · simp [h]
  · simp [h]
theorem toIntS_l0 (l : List Int) (hl : l.length < 4611686018427387904) : ∀ (d i : Nat) (y : List Int), i + d = l.length → y.length = l.length → (∀ j, j < i → y.getD j 0 = l.getD j 0) → Ev (fun k => laws_toIntS.l0 k l y i) l
  | 0, i, y, hd, hy, h => by
    refine Ev.one (fun k => ?_)
    rw [laws_toIntS.l0, if_neg (by omega), ext_getD hy (fun j hj => h j (by omega))]
  | d + 1, i, y, hd, hy, h => by
    refine Ev.step (f := fun k => laws_toIntS.l0 k l (y.set i (l.getD i 0)) ((i + 1 : Nat) : Int)) (fun k => ?_) (toIntS_l0 l hl d (i + 1) _ (by omega) (by simpa using hy) ?_)
    · rw [laws_toIntS.l0, if_pos (by omega), if_pos (by omega), if_pos (by omega), w1 (by omega)]; rfl
    · intro j hj
      rw [getD_set _ _ _ _ (by omega)]
      by_cases e : i = j
      · simp [e]
      · rw [if_neg e]; exact h j (by omega)
theorem toIntS_ev (l : List Int) (hl : l.length ≤ 35184372088832) : Ev (fun k => laws_toIntS.f k l) l := by
  unfold laws_toIntS.f
  simp only [if_pos (show (0 : Int) ≤ (l.length : Int) by omega), if_pos (show ((l.length : Int) : Int).toNat ≤ 35184372088832 by simpa using hl)]
  exact toIntS_l0 l (by omega) l.length 0 _ (by omega) (by simp) (fun j hj => absurd hj (Nat.not_lt_zero _))
theorem toPairS_l0 (l : List S81) (hl : l.length < 4611686018427387904) : ∀ (d i : Nat) (y : List S79), i + d = l.length → y.length = l.length → (∀ j, j < i → y[j]? = (conv l)[j]?) → Ev (fun k => laws_toPairS.l0 k l y i) (conv l)
  | 0, i, y, hd, hy, h => by
    refine Ev.one (fun k => ?_)
    have e : y = conv l := by
      apply List.ext_getElem?
      intro j
      by_cases hj : j < i
      · exact h j hj
      · rw [List.getElem?_eq_none (by omega), List.getElem?_eq_none (by rw [conv_len]; omega)]
    rw [laws_toPairS.l0, if_neg (by omega), e]
  | d + 1, i, y, hd, hy, h => by
    have hi : i < l.length := by omega
    have hx : rd_T81 l (i : Int) = l[i] := getD_of_get l i _ _ (List.getElem?_eq_getElem hi)
    refine Ev.step (fun k => ?_) (toPairS_l0 l hl d (i + 1) (y.set i ⟨l[i].f0, l[i].f1⟩) (by omega) (by simpa using hy) ?_)
    · rw [laws_toPairS.l0, if_pos (by omega), if_pos (by omega), hx, laws_toPair.f]
      simp only [Option.bind_some]
      rw [if_pos (by omega), w1 (by omega)]
      rfl
    · intro j hj
      rw [List.getElem?_set]
      by_cases e : i = j
      · subst e
        have hiy : i < y.length := by omega
        simp [conv, hi, hiy]
      · rw [if_neg e]; exact h j (by omega)
theorem toPairS_ev (l : List S81) (hl : l.length ≤ 17592186044416) : Ev (fun k => laws_toPairS.f k l) (conv l) := by
  unfold laws_toPairS.f
  simp only [if_pos (show (0 : Int) ≤ (l.length : Int) by omega), if_pos (show ((l.length : Int) : Int).toNat ≤ 17592186044416 by simpa using hl)]
  exact toPairS_l0 l (by omega) l.length 0 _ (by omega) (by simp) (fun j hj => absurd hj (Nat.not_lt_zero _))
theorem toParty_ev (a : Int) (l : List S81) (hl : l.length ≤ 17592186044416) : Ev (fun k => laws_toParty.f k a l) (a, conv l) := by
  unfold laws_toParty.f
  exact Ev.bind (toPairS_ev l hl) (Ev.now _)
theorem FnExactGrowGroup : ∀ (a0 : Int) (l0 : List S81) (l1 : List Int), (Lit.int .i64 a0).wf = true → l0.length ≤ maxLen → (∀ x ∈ l0, ∃ m n : Int, x = ⟨m, n⟩ ∧ (Lit.int .i64 m).wf = true ∧ (Lit.int .i64 n).wf = true) → l1.length ≤ maxLen → l1.length * 8 ≤ 140737488351232 → (∀ x ∈ l1, (Lit.int .i64 x).wf = true) → ∃ k, laws_FnExactGrowGroup.f k a0 l0 l1 = some true := by
  intro a0 l0 l1 w0 hm0 hw0 hm1 hb1 hw1
  refine Ev.rounds ?_
  unfold laws_FnExactGrowGroup.f
  by_cases hg1 : (l1.length : Int) > 1048576
  · simp only [if_pos hg1]; exact Ev.now _
  simp only [if_neg hg1]
  simp only [szParty_f a0 l0 1048576 (by omega) (by omega) hm0, Option.bind_some]
  by_cases hg0 : 1048576 - (l0.length : Int) < 0
  · simp only [if_pos hg0, show ((-1 : Int) < 0) from by decide, if_true]; exact Ev.now _
  simp only [if_neg hg0]
  have hlen0 : l0.length ≤ 1048576 := by omega
  have hcl0 := conv_len l0
  have hlen1 : l1.length ≤ 1048576 := by omega
  obtain ⟨R, hs, hi, hr0⟩ := GrowGroup_common a0 (conv l0) l1 w0 (by rw [conv_len]; omega) (by omega)
  refine Ev.bind (toParty_ev a0 l0 (by omega)) ?_
  refine Ev.bind (toIntS_ev l1 (by omega)) ?_
  refine Ev.bind hs ?_
  try simp only [if_true, if_false, bne_self_eq_false, Bool.false_eq_true, ↓reduceIte, decide_true]
  refine Ev.bind (toParty_ev a0 l0 (by omega)) ?_
  refine Ev.bind (toIntS_ev l1 (by omega)) ?_
  refine Ev.bind hi ?_
  try simp only [if_true, if_false, bne_self_eq_false, Bool.false_eq_true, ↓reduceIte, decide_true]
  refine Ev.bind (eqIntS_self R.1 (by omega)) ?_
  try simp only [if_true, if_false, bne_self_eq_false, Bool.false_eq_true, ↓reduceIte, decide_true]
  try simp only [if_true, if_false, bne_self_eq_false, Bool.false_eq_true, ↓reduceIte, decide_true]
  refine Ev.step (fun k => rfl) ?_
  simp only [laws_FnExactGrowGroup.j0]
  try simp only [if_true, if_false, bne_self_eq_false, Bool.false_eq_true, ↓reduceIte, decide_true]
  refine Ev.bind (toParty_ev a0 l0 (by omega)) ?_
  refine Ev.bind (eqParty_self a0 (conv l0) (by omega)) ?_
  try simp only [if_true, if_false, bne_self_eq_false, Bool.false_eq_true, ↓reduceIte, decide_true]
  refine Ev.bind (toIntS_ev l1 (by omega)) ?_
  refine Ev.bind (eqIntS_self l1 (by omega)) ?_
  try simp only [if_true, if_false, bne_self_eq_false, Bool.false_eq_true, ↓reduceIte, decide_true]
  obtain ⟨zk1, hzk1, _, hEk1⟩ := markParty_ev a0 (conv l0) (1 : Int) (by omega) (by omega)
  refine Ev.bind hEk1 ?_
  try simp only [if_true, if_false, bne_self_eq_false, Bool.false_eq_true, ↓reduceIte, decide_true]
  obtain ⟨zk2, hzk2, _, hEk2⟩ := markIntS_ev l1 ((1 : Int) + 2 * ((conv l0).length : Int)) (by omega) (by omega)
  refine Ev.bind hEk2 ?_
  try simp only [if_true, if_false, bne_self_eq_false, Bool.false_eq_true, ↓reduceIte, decide_true]
  simp only [if_neg (show ¬ ((((1 : Int) + 2 * ((conv l0).length : Int)) + (l1.length : Int)) < 0) by omega)]
  refine Ev.bind (eqIntS_self R.1 (by omega)) ?_
  try simp only [if_true, if_false, bne_self_eq_false, Bool.false_eq_true, ↓reduceIte, decide_true]
  try simp only [if_true, if_false, bne_self_eq_false, Bool.false_eq_true, ↓reduceIte, decide_true]
  refine Ev.step (fun k => rfl) ?_
  simp only [laws_FnExactGrowGroup.j1]
  try simp only [if_true, if_false, bne_self_eq_false, Bool.false_eq_true, ↓reduceIte, decide_true]
  obtain ⟨zm, hzm, hmm, hEm⟩ := markIntS_ev R.1 1 (by omega) (by omega)
  refine Ev.bind hEm ?_
  try simp only [if_true, if_false, bne_self_eq_false, Bool.false_eq_true, ↓reduceIte, decide_true]
  refine Ev.bind (heldIntS_ev zm 1 (by omega) (by omega) hmm) ?_
  simp only [hzm, if_neg (show ¬ ((1 + (R.1.length : Int)) < 0) by omega), if_true]
  refine Ev.bind (toParty_ev a0 l0 (by omega)) ?_
  refine Ev.bind (toIntS_ev l1 (by omega)) ?_
  refine Ev.bind hi ?_
  try simp only [if_true, if_false, bne_self_eq_false, Bool.false_eq_true, ↓reduceIte, decide_true]
  refine Ev.bind (eqIntS_self R.1 (by omega)) ?_
  try simp only [if_true, if_false, bne_self_eq_false, Bool.false_eq_true, ↓reduceIte, decide_true]
  try simp only [if_true, if_false, bne_self_eq_false, Bool.false_eq_true, ↓reduceIte, decide_true]
  refine Ev.step (fun k => rfl) ?_
  simp only [laws_FnExactGrowGroup.j2]
  try simp only [if_true, if_false, bne_self_eq_false, Bool.false_eq_true, ↓reduceIte, decide_true]
  refine Ev.bind (heldIntS_ev zm 1 (by omega) (by omega) hmm) ?_
  simp only [hzm, if_neg (show ¬ ((1 + (R.1.length : Int)) < 0) by omega), if_true]
  exact Ev.now _
end Go.Proofs.Ytifkaefccghgdaa.Pure
