/- The program's GreedyColouring returns what the reference's returns, for all arguments (the plain statement behind the printed walk); no condition. -/
import Derived.Lib.TrailingZeros
import Derived.Test.YtifkaefccghgdaaDoorPx0
import Derived.Test.YtifkaefccghgdaaDoorPx1
import Derived.Test.YtifkaefccghgdaaDoorPx10
import Derived.Test.YtifkaefccghgdaaDoorPx12
import Derived.Test.YtifkaefccghgdaaDoorPx16
import Derived.Test.YtifkaefccghgdaaDoorPx17
import Derived.Test.YtifkaefccghgdaaDoorPx5
import Derived.Test.YtifkaefccghgdaaDoorPx7
namespace Go.Proofs.YtifkaefccghgdaaDoor.Pure
open Go.RowKit Go.Proofs.YtifkaefccghgdaaDoor.P Go.Proofs.YtifkaefccghgdaaDoorW.PrintWords Go.Proofs.YtifkaefccghgdaaDoorW.PrintLast
set_option linter.unusedSimpArgs false
set_option linter.unusedVariables false
theorem Ev.one {α : Type} {g : Nat → Option α} {r : α} (h : ∀ k, g (k + 1) = some r) : Ev g r := Ev.step h (Ev.now r)
def crowd (n : Int) : Bool := decide (0 ≤ n ∧ n ≤ 12)
def lt2 (p q : S74) : Bool := decide (p.f0 < q.f0) || (decide (p.f0 = q.f0) && decide (p.f1 < q.f1))
def okPrev : Option S74 → S74 → Bool
  | none, _ => true
  | some p, x => lt2 p x
def okFrom (n : Int) : Option S74 → List S74 → Bool
  | _, [] => true
  | prev, x :: xs => (decide (0 ≤ x.f0) && (decide (x.f0 < x.f1) && (decide (x.f1 < n) && okPrev prev x))) && okFrom n (some x) xs
def good (n : Int) (l : List S74) : Bool := crowd n && okFrom n none l
def natPairs (m : Nat) (l : List S74) : Prop := ∀ x ∈ l, ∃ a b : Nat, x = ⟨(a : Int), (b : Int)⟩ ∧ a < b ∧ b < m
theorem okFrom_nat (m : Nat) : ∀ (l : List S74) (p : Option S74), okFrom (m : Int) p l = true → natPairs m l
  | [], _, _ => fun x hx => by simp at hx
  | x :: xs, p, h => by
    simp only [okFrom, Bool.and_eq_true, decide_eq_true_eq] at h
    obtain ⟨⟨h0, h1, h2, _⟩, h3⟩ := h
    intro y hy
    rcases List.mem_cons.1 hy with rfl | hy
    · refine ⟨y.f0.toNat, y.f1.toNat, ?_, by omega, by omega⟩
      rw [Int.toNat_of_nonneg h0, Int.toNat_of_nonneg (by omega)]
    · exact okFrom_nat m xs _ h3 y hy
theorem good_nat {n : Int} {l : List S74} (h : good n l = true) : ∃ m : Nat, n = (m : Int) ∧ m ≤ 12 ∧ natPairs m l ∧ okFrom (m : Int) none l = true := by
  unfold good crowd at h
  simp only [Bool.and_eq_true, decide_eq_true_eq] at h
  obtain ⟨⟨h0, h1⟩, h2⟩ := h
  obtain ⟨m, rfl⟩ := Int.eq_ofNat_of_zero_le h0
  exact ⟨m, rfl, by omega, okFrom_nat m l none h2, h2⟩
def chk : List Int → List Int → Bool
  | _, [] => true
  | pre, x :: rest => if pre.contains x then false else chk (pre ++ [x]) rest
theorem Ev.cast {α : Type} {g : Nat → Option α} {a b : α} (h : Ev g a) (e : a = b) : Ev g b := e ▸ h
theorem rd_mid (pre rest : List Int) (x : Int) : rd (pre ++ x :: rest) (pre.length : Int) = x := by
  unfold rd
  simp [List.getD_eq_getElem?_getD]
theorem w1 {n : Nat} (h : n < 4611686018427387904) : wrap64 ((n : Int) + 1) = ((n + 1 : Nat) : Int) := by unfold wrap64; omega
/-! whether a number is there -/
theorem l1Has_l0 (l : List Int) (a : Int) (hl : l.length < 4611686018427387904) : ∀ (rest pre : List Int), l = pre ++ rest → Ev (fun k => spec_l1Has.l0 k a l (l.length : Int) (pre.length : Int)) (rest.contains a)
  | [], pre, e => by
    have el : l.length = pre.length := by rw [e]; simp
    refine Ev.one (fun k => ?_)
    rw [spec_l1Has.l0, if_neg (by omega)]; rfl
  | x :: rest, pre, e => by
    have el : pre.length < l.length := by rw [e]; simp
    have hx : rd l (pre.length : Int) = x := by rw [e]; exact rd_mid pre _ x
    by_cases c : x = a
    · refine Ev.one (fun k => ?_)
      rw [spec_l1Has.l0, if_pos (by omega), if_pos (by omega), if_pos (by omega), hx, if_pos c]
      simp [c]
    · have ih := l1Has_l0 l a hl rest (pre ++ [x]) (by rw [e]; simp)
      rw [List.length_append, List.length_singleton] at ih
      refine Ev.cast (Ev.step (fun k => ?_) ih) ?_
      · rw [spec_l1Has.l0, if_pos (by omega), if_pos (by omega), if_pos (by omega), hx, if_neg c, w1 (by omega)]
      · have : ¬ a = x := fun h => c h.symm
        simp [this]
theorem l1Has_ev (l : List Int) (a : Int) (hl : l.length < 4611686018427387904) : Ev (fun k => spec_l1Has.f k l a) (l.contains a) := l1Has_l0 l a hl l [] rfl
theorem grOrder_l0 (q : List Int) (hq : q.length ≤ 1048576) : ∀ (rest pre : List Int), q = pre ++ rest → Ev (fun k => spec_grOrder.l0 k q q (q.length : Int) (pre.length : Int)) (chk pre rest)
  | [], pre, e => by
    rw [List.append_nil] at e
    subst e
    exact Ev.one fun k => by rw [spec_grOrder.l0, if_neg (by omega)]; rfl
  | x :: rest, pre, e => by
    have hl : q.length = pre.length + (rest.length + 1) := by rw [e, List.length_append, List.length_cons]
    have hrd : rd q (pre.length : Int) = x := by
      unfold rd
      rw [e, Int.toNat_natCast, List.getD_eq_getElem?_getD, List.getElem?_append_right (Nat.le_refl _), Nat.sub_self]
      rfl
    have htk : q.take pre.length = pre := by rw [e, List.take_left]
    refine Ev.step (f := fun k => (spec_l1Has.f k pre x).bind fun t => if t = true then some false else spec_grOrder.l0 k q q (q.length : Int) ((pre ++ [x]).length : Int)) (fun k => ?_) (Ev.bind (l1Has_ev pre x (by omega)) ?_)
    · rw [spec_grOrder.l0, if_pos (by omega), if_pos (by omega), if_pos (by omega), if_pos (by omega), Int.toNat_natCast, htk, hrd, w1 (by omega), List.length_append, List.length_singleton]
    · rw [chk]
      cases pre.contains x with
      | true => simp only [if_true]; exact Ev.now _
      | false =>
        simp only [Bool.false_eq_true, if_false]
        exact grOrder_l0 q hq rest (pre ++ [x]) (by rw [e, List.append_assoc]; rfl)
def inAll (l : List Int) (lo hi : Int) : Bool := l.all fun n => decide (lo ≤ n) && decide (n ≤ hi)
def isPerm (m : Nat) (q : List Int) : Bool := decide (q.length = m) && (inAll q 0 ((m : Int) - 1) && chk [] q)
theorem getD_get (l : List Int) (i : Nat) (h : i < l.length) : l.getD i 0 = l[i] := by simp [List.getD_eq_getElem?_getD, h]
theorem l1In_f (a lo hi : Int) : spec_l1In.f a lo hi = some (decide (lo ≤ a) && decide (a ≤ hi)) := by
  unfold spec_l1In.f
  by_cases h : lo ≤ a
  · rw [if_pos h]; simp [h]
  · rw [if_neg h]; simp [h]
theorem l1All_l0 (l : List Int) (lo hi : Int) (hl : l.length < 4611686018427387904) : ∀ (d i : Nat), i + d = l.length → Ev (fun k => spec_l1All.l0 k lo hi l (l.length : Int) i) (inAll (l.drop i) lo hi)
  | 0, i, hd => by
    refine Ev.one (fun k => ?_)
    rw [spec_l1All.l0, if_neg (by omega), List.drop_of_length_le (by omega)]; rfl
  | d + 1, i, hd => by
    have hi' : i < l.length := by omega
    have e : rd l (i : Int) = l[i] := getD_get l i hi'
    have eD : inAll (l.drop i) lo hi = ((decide (lo ≤ l[i]) && decide (l[i] ≤ hi)) && inAll (l.drop (i + 1)) lo hi) := by
      rw [List.drop_eq_getElem_cons hi']; rfl
    rw [eD]
    cases hb : (decide (lo ≤ l[i]) && decide (l[i] ≤ hi)) with
    | false =>
      refine Ev.one (fun k => ?_)
      rw [spec_l1All.l0, if_pos (by omega), if_pos (by omega), if_pos (by omega), l1In_f, e, hb]; rfl
    | true =>
      refine Ev.step (fun k => ?_) (l1All_l0 l lo hi hl d (i + 1) (by omega))
      rw [spec_l1All.l0, if_pos (by omega), if_pos (by omega), if_pos (by omega), l1In_f, e, hb, w1 (by omega)]; rfl
theorem l1All_ev (l : List Int) (lo hi : Int) (hl : l.length < 4611686018427387904) : Ev (fun k => spec_l1All.f k l lo hi) (inAll l lo hi) := by
  unfold spec_l1All.f
  simpa using l1All_l0 l lo hi hl l.length 0 (by omega)
theorem w64 {i : Int} (h0 : -9223372036854775808 ≤ i) (h : i ≤ 9223372036854775807) : wrap64 i = i := by unfold wrap64; omega
theorem grOrder_ev (m : Nat) (hm : m ≤ 12) (q : List Int) (hq : q.length ≤ 1048576) : Ev (fun k => spec_grOrder.f k (m : Int) q) (isPerm m q) := by
  unfold spec_grOrder.f isPerm
  by_cases hl : q.length = m
  · rw [decide_eq_true hl, Bool.true_and]
    simp only [if_pos (show (q.length : Int) = (m : Int) by omega)]
    rw [w64 (i := (m : Int) - 1) (by omega) (by omega)]
    refine Ev.bind (l1All_ev q 0 ((m : Int) - 1) (by omega)) ?_
    cases inAll q 0 ((m : Int) - 1) with
    | false =>
      simp only [Bool.not_false, Bool.false_and]
      exact Ev.one fun k => by rw [spec_grOrder.j0, if_pos rfl]
    | true =>
      simp only [Bool.not_true, Bool.true_and]
      refine Ev.step (fun k => by rw [spec_grOrder.j0, if_neg (by decide)]) ?_
      exact grOrder_l0 q hq q [] rfl
  · rw [decide_eq_false hl, Bool.false_and]
    simp only [if_neg (show ¬ (q.length : Int) = (m : Int) by omega)]
    exact Ev.one fun k => by rw [spec_grOrder.j0, if_pos rfl]
abbrev Rel := Nat → Nat → Bool
def fcN (P : Nat → Bool) : Nat → Nat → Nat
  | 0, c => c
  | e + 1, c => if P c = true then c else fcN P e (c + 1)
def frF (r : Rel) (m a : Nat) (X : List Int) (c : Nat) : Bool := (List.range m).all fun b => !r a b || rd X (b : Int) != (c : Int)
def fcO (r : Rel) (m a : Nat) (X : List Int) : Nat := fcN (frF r m a X) (m + 1) 0
def grS (r : Rel) (m : Nat) : List Int → List Int → List Int
  | [], X => X
  | a :: rest, X => grS r m rest (X.set a.toNat (fcO r m a.toNat X : Int))
theorem grS_len (r : Rel) (m : Nat) : ∀ (l X : List Int), (grS r m l X).length = X.length
  | [], _ => rfl
  | a :: l, X => by rw [grS, grS_len r m l, List.length_set]
/-! ### tables of bits -/
def bitsOf : Nat → (Nat → Bool) → Nat
  | 0, _ => 0
  | m + 1, f => bitsOf m f + (f m).toNat * 2 ^ m
theorem bitsOf_lt : ∀ (m : Nat) (f : Nat → Bool), bitsOf m f < 2 ^ m
  | 0, _ => by simp [bitsOf]
  | m + 1, f => by
    have := bitsOf_lt m f
    have h2 : (f m).toNat * 2 ^ m ≤ 2 ^ m := by cases f m <;> simp
    rw [bitsOf, Nat.pow_succ]; omega
theorem bitsOf_u16 (m : Nat) (hm : m ≤ 12) (f : Nat → Bool) : bitsOf m f < 65536 :=
  Nat.lt_of_lt_of_le (bitsOf_lt m f) (Nat.le_trans (Nat.pow_le_pow_right (by decide) hm) (by decide))
def ints (l : List Nat) : List Int := l.map Int.ofNat
theorem any_filter_free (r : Rel) (m a : Nat) (X : List Int) (c : Nat) : ((ints ((List.range m).filter (r a))).any fun b => rd X b == (c : Int)) = !frF r m a X c := by
  unfold ints frF
  rw [List.any_map, List.any_filter, List.not_all_eq_any_not]
  congr 1
  funext b
  show (r a b && (rd X (b : Int) == (c : Int))) = !(!r a b || rd X (b : Int) != (c : Int))
  cases r a b <;> simp [bne]
theorem fcN_spec (P : Nat → Bool) : ∀ (e c : Nat), (∃ c1, c ≤ c1 ∧ c1 < c + e ∧ P c1 = true) → P (fcN P e c) = true ∧ (∀ c2, c ≤ c2 → c2 < fcN P e c → P c2 = false) ∧ c ≤ fcN P e c ∧ fcN P e c < c + e
  | 0, c, ⟨c1, h1, h2, _⟩ => by omega
  | e + 1, c, ⟨c1, h1, h2, h3⟩ => by
    rw [fcN]
    by_cases h : P c = true
    · rw [if_pos h]
      exact ⟨h, fun c2 h4 h5 => by omega, Nat.le_refl _, by omega⟩
    · rw [if_neg h]
      have hne : c ≠ c1 := fun e => by subst e; exact h h3
      obtain ⟨g1, g2, g3, g4⟩ := fcN_spec P e (c + 1) ⟨c1, by omega, by omega, h3⟩
      refine ⟨g1, fun c2 h4 h5 => ?_, by omega, by omega⟩
      by_cases e2 : c2 = c
      · subst e2; simpa using h
      · exact g2 c2 (by omega) h5
theorem sub_len {α : Type} [DecidableEq α] : ∀ (l1 l2 : List α), l1.Nodup → (∀ x ∈ l1, x ∈ l2) → l1.length ≤ l2.length
  | [], _, _, _ => Nat.zero_le _
  | x :: l1, l2, hn, h => by
    obtain ⟨hx, hn2⟩ := List.nodup_cons.1 hn
    have h1 := sub_len l1 (l2.erase x) hn2 fun y hy => (List.mem_erase_of_ne (fun e => by subst e; exact hx hy)).2 (h y (List.mem_cons_of_mem _ hy))
    have h2 := h x List.mem_cons_self
    rw [List.length_erase_of_mem h2] at h1
    have := List.length_pos_of_mem h2
    rw [List.length_cons]
    omega
theorem frF_some (r : Rel) (m a : Nat) (X : List Int) (hX : X.length = m) : ∃ c1, 0 ≤ c1 ∧ c1 < 0 + (m + 1) ∧ frF r m a X c1 = true := by
  apply Classical.byContradiction
  intro h
  have hall : ∀ c, c < m + 1 → (c : Int) ∈ X := fun c hc => by
    have h1 : ¬ frF r m a X c = true := fun h2 => h ⟨c, by omega, by omega, h2⟩
    unfold frF at h1
    rw [Bool.not_eq_true, List.all_eq_false] at h1
    obtain ⟨b, hb, h2⟩ := h1
    have hb := List.mem_range.1 hb
    simp only [Bool.not_eq_true, Bool.or_eq_false_iff, bne_eq_false_iff_eq] at h2
    rw [← h2.2]
    unfold rd
    rw [Int.toNat_natCast, List.getD_eq_getElem?_getD, List.getElem?_eq_getElem (by omega)]
    exact List.getElem_mem _
  have h1 := sub_len ((List.range (m + 1)).map fun c : Nat => (c : Int)) X (by
    rw [List.nodup_iff_pairwise_ne, List.pairwise_map]
    exact List.nodup_range.imp fun h => by omega) fun x hx => by
    obtain ⟨c, hc, rfl⟩ := List.mem_map.1 hx
    exact hall c (List.mem_range.1 hc)
  rw [List.length_map, List.length_range] at h1
  omega
theorem frc_ev (r : Rel) (m a : Nat) (hm : m ≤ 12) (X : List Int) (hX : X.length = m) : ∀ (d c : Nat), c + d = fcO r m a X → frc (ints ((List.range m).filter (r a))) X (40 - c) (c : Int) = some (fcO r m a X : Int) := by
  obtain ⟨g1, g2, _, g4⟩ := fcN_spec (frF r m a X) (m + 1) 0 (frF_some r m a X hX)
  change frF r m a X (fcO r m a X) = true at g1
  change ∀ c2, 0 ≤ c2 → c2 < fcO r m a X → _ at g2
  change fcO r m a X < _ at g4
  intro d
  induction d with
  | zero =>
    intro c hc
    obtain rfl : c = fcO r m a X := by omega
    rw [show 40 - fcO r m a X = (39 - fcO r m a X) + 1 by omega, frc, any_filter_free, g1]
    rfl
  | succ d ih =>
    intro c hc
    have := ih (c + 1) (by omega)
    rw [show 40 - c = (40 - (c + 1)) + 1 by omega, frc, any_filter_free, g2 c (by omega) (by omega)]
    exact this
theorem wraps_u16 (n : Int) (h0 : 0 ≤ n) (h1 : n < 2 ^ 16) : IntKind.u16.wrap n = n := by
  simp [IntKind.wrap, IntKind.bits, IntKind.signed]; omega
theorem and16 (x y : Nat) (hx : x < 65536) (hy : y < 65536) : Go.bits .and .u16 (x : Int) (y : Int) = ((x &&& y : Nat) : Int) := (bits_nat .u16 16 (by decide) wraps_u16 x y hx hy).1
def lst (s : Nat) : List Nat := (List.range 16).filter s.testBit
theorem low_bits (c m i : Nat) : ((2 ^ c * (2 * m + 1)).testBit i = if i < c then false else (2 * m + 1).testBit (i - c)) := by
  have := Nat.testBit_two_pow_mul_add (2 * m + 1) (b := 0) (i := c) (by exact Nat.two_pow_pos c) i
  simpa using this
theorem pred_bits (c m i : Nat) : ((2 ^ c * (2 * m + 1) - 1).testBit i = if i < c then true else (2 * m).testBit (i - c)) := by
  have e : 2 ^ c * (2 * m + 1) - 1 = 2 ^ c * (2 * m) + (2 ^ c - 1) := by
    have := Nat.two_pow_pos c
    rw [Nat.mul_add, Nat.mul_one]; omega
  rw [e, Nat.testBit_two_pow_mul_add (2 * m) (b := 2 ^ c - 1) (i := c) (by have := Nat.two_pow_pos c; omega) i]
  split
  · rename_i h; rw [Nat.testBit_two_pow_sub_one]; simpa using h
  · rfl
theorem clear_bit (c m i : Nat) : ((2 ^ c * (2 * m + 1)) &&& (2 ^ c * (2 * m + 1) - 1)).testBit i = ((2 ^ c * (2 * m + 1)).testBit i && i != c) := by
  rw [Nat.testBit_and, low_bits, pred_bits]
  by_cases h : i < c
  · simp [h]
  · rw [if_neg h, if_neg h]
    by_cases he : i = c
    · subst he; simp
    · have h2 : i - c = (i - c - 1) + 1 := by omega
      have h3 : (i != c) = true := by simpa using he
      rw [h2, Nat.testBit_succ, Nat.testBit_succ, h3]
      have a1 : (2 * m + 1) / 2 = m := by omega
      have a2 : (2 * m) / 2 = m := by omega
      rw [a1, a2]; simp
theorem filter_first (p : Nat → Bool) (c : Nat) (hc : p c = true) : ∀ (len lo : Nat), lo ≤ c → c < lo + len → (∀ i, lo ≤ i → i < c → p i = false) →
    (List.range' lo len).filter p = c :: (List.range' lo len).filter (fun i => p i && i != c)
  | 0, lo, h1, h2, _ => by omega
  | len + 1, lo, h1, h2, h3 => by
    rw [List.range'_succ]
    by_cases he : lo = c
    · subst he
      rw [List.filter_cons_of_pos hc, List.filter_cons_of_neg (by simp)]
      congr 1
      refine List.filter_congr fun x hx => ?_
      have := List.mem_range'_1.1 hx
      have : (x != lo) = true := by simp; omega
      rw [this, Bool.and_true]
    · rw [List.filter_cons_of_neg (by rw [h3 lo (Nat.le_refl _) (by omega)]; simp), List.filter_cons_of_neg (by rw [h3 lo (Nat.le_refl _) (by omega)]; simp)]
      exact filter_first p c hc len (lo + 1) (by omega) (by omega) (fun i hi hic => h3 i (by omega) hic)
theorem lst_step (s : Nat) (h0 : 0 < s) (h : s < 65536) : lst s = Lib.ctz 16 s :: lst (s &&& (s - 1)) := by
  obtain ⟨m, e, hc⟩ := Lib.ctzFrom_spec 16 s h0 h
  have ec : Lib.ctz 16 s = Lib.ctzFrom 16 s := by unfold Lib.ctz; rw [if_neg (by omega)]
  rw [ec]
  generalize Lib.ctzFrom 16 s = c at e hc
  subst e
  unfold lst
  rw [List.range_eq_range', filter_first _ c (by rw [low_bits]; simp) 16 0 (by omega) (by omega) (fun i _ hi => by rw [low_bits, if_pos hi])]
  congr 1
  exact List.filter_congr fun x _ => (clear_bit c m x).symm
theorem listed_at : ∀ (k s : Nat) (acc : List Int), s < 65536 → (lst s).length < k → acc.length + 16 < 4611686018427 → k ≤ 20 → acc.length + (lst s).length ≤ 16 → impl_listed.l0 k (s : Int) acc = some (acc ++ ints (lst s)) := by
  intro k
  induction k with
  | zero => intro s acc hs hk; omega
  | succ k ih =>
    intro s acc hs hk hacc h20 h16
    by_cases h0 : s = 0
    · subst h0
      rw [impl_listed.l0, if_neg (by omega)]
      have : ints (lst 0) = [] := by decide
      rw [this, List.append_nil]
    · have hl := lst_step s (by omega) hs
      rw [hl, List.length_cons] at hk h16
      have hlt : s &&& (s - 1) ≤ s - 1 := Nat.and_le_right
      have h1 := ih (s &&& (s - 1)) (acc ++ [(Lib.ctz 16 s : Int)]) (by omega) (by omega) (by rw [List.length_append, List.length_singleton]; omega) (by omega) (by rw [List.length_append, List.length_singleton]; omega)
      rw [List.append_assoc] at h1
      have e : [(Lib.ctz 16 s : Int)] ++ ints (lst (s &&& (s - 1))) = ints (lst s) := by rw [hl]; rfl
      rw [e] at h1
      have hw : IntKind.u16.wrap ((s : Int) - 1) = ((s - 1 : Nat) : Int) := by rw [wraps_u16 _ (by omega) (by omega)]; omega
      rw [impl_listed.l0, if_pos (by omega), hw, and16 s (s - 1) hs (by omega)]
      unfold bits_TrailingZeros16.f
      rw [if_pos (by omega), Int.toNat_natCast]
      simp only [Option.bind_some]
      rw [if_pos (by omega)]
      exact h1
theorem lst_len (s : Nat) : (lst s).length ≤ 16 := by
  have := List.length_filter_le s.testBit (List.range 16)
  rw [List.length_range] at this
  exact this
theorem listed20 (s : Nat) (hs : s < 65536) : impl_listed.f 20 (s : Int) = some (ints (lst s)) := by
  have := lst_len s
  unfold impl_listed.f
  exact listed_at 20 s [] hs (by omega) (by simp) (by omega) (by simpa using this)
theorem filter_range_lt (p : Nat → Bool) (m : Nat) : ∀ d : Nat, (List.range (m + d)).filter (fun i => decide (i < m) && p i) = (List.range m).filter p
  | 0 => List.filter_congr fun x hx => by
    have : x < m := by simpa using hx
    simp [this]
  | d + 1 => by
    rw [← Nat.add_assoc, List.range_succ, List.filter_append, filter_range_lt p m d]
    have : ¬ (m + d < m) := by omega
    simp [this]
theorem testBit_bitsOf : ∀ (m : Nat) (f : Nat → Bool) (i : Nat), (bitsOf m f).testBit i = (decide (i < m) && f i)
  | 0, f, i => by simp [bitsOf]
  | m + 1, f, i => by
    have ih := testBit_bitsOf m f
    by_cases hi : i < m
    · have h1 : i < m + 1 := by omega
      cases hf : f m with
      | false => simp [bitsOf, hf, ih i, hi, h1]
      | true => rw [bitsOf, hf, Bool.toNat_true, Nat.one_mul, Nat.add_comm, Nat.testBit_two_pow_add_gt hi, ih i]; simp [hi, h1]
    · by_cases e : i = m
      · subst e
        cases hf : f i with
        | false => simp [bitsOf, hf, ih i]
        | true => rw [bitsOf, hf, Bool.toNat_true, Nat.one_mul, Nat.add_comm, Nat.testBit_two_pow_add_eq, ih i]; simp
      · have h1 : ¬ i < m + 1 := by omega
        rw [Nat.testBit_lt_two_pow (Nat.lt_of_lt_of_le (bitsOf_lt (m + 1) f) (Nat.pow_le_pow_right (by decide) (by omega)))]
        simp [h1]
theorem lst_bitsOf (m : Nat) (hm : m ≤ 12) (f : Nat → Bool) : lst (bitsOf m f) = (List.range m).filter f := by
  unfold lst
  have := filter_range_lt f m (16 - m)
  rw [show m + (16 - m) = 16 by omega] at this
  rw [← this]
  exact List.filter_congr fun x _ => testBit_bitsOf m f x
def tab (m : Nat) (r : Rel) : List Int := (List.range m).map fun a => ((bitsOf m (r a) : Nat) : Int)
theorem map_range_getD {α : Type} (m : Nat) (f : Nat → α) (d : α) (a : Nat) (h : a < m) : ((List.range m).map f).getD a d = f a := by simp [List.getD_eq_getElem?_getD, h]
theorem tab_at (m : Nat) (r : Rel) (a : Nat) (h : a < m) : rd (tab m r) (a : Int) = ((bitsOf m (r a) : Nat) : Int) := map_range_getD m _ _ a h
theorem tab_len (m : Nat) (r : Rel) : (tab m r).length = m := by simp [tab]
theorem grd_ev (r : Rel) (m : Nat) (hm : m ≤ 12) : ∀ (l X : List Int), X.length = m → (∀ a ∈ l, 0 ≤ a ∧ a < (m : Int)) → grd (tab m r) l X = some (grS r m l X)
  | [], X, _, _ => rfl
  | a :: l, X, hX, hl => by
    obtain ⟨h0, h1⟩ := hl a List.mem_cons_self
    obtain ⟨x, rfl⟩ := Int.eq_ofNat_of_zero_le h0
    have hfr : frc (ints ((List.range m).filter (r x))) X 40 0 = some (fcO r m x X : Int) := frc_ev r m x hm X hX (fcO r m x X) 0 (by omega)
    rw [grd, tab_len, hX, if_pos (by omega), tab_at m r x (by omega), listed20 _ (bitsOf_u16 m hm _), lst_bitsOf m hm, Option.bind_some, if_pos, hfr, Option.bind_some, grd_ev r m hm l _ (by rw [List.length_set]; exact hX) (fun b hb => hl b (List.mem_cons_of_mem _ hb)), grS]
    · rfl
    · rw [List.all_eq_true]
      intro b hb
      obtain ⟨i, hi, rfl⟩ := List.mem_map.1 hb
      have := List.mem_range.1 (List.mem_filter.1 hi).1
      rw [Bool.and_eq_true, decide_eq_true_eq, decide_eq_true_eq]
      exact ⟨Int.natCast_nonneg i, by show (i : Int) < _; omega⟩
def hasP (l : List S74) : Rel := fun a b => l.any fun x => (x.f0 == (a : Int) && x.f1 == (b : Int)) || (x.f0 == (b : Int) && x.f1 == (a : Int))
theorem within_f (a lo hi : Int) : impl_within.f a lo hi = some (decide (lo ≤ a) && decide (a ≤ hi)) := by
  unfold impl_within.f
  by_cases h : lo ≤ a
  · rw [if_pos h]; simp [h]
  · rw [if_neg h]; simp [h]
theorem areCrowd_f (a : Int) : impl_areCrowd.f a = some (decide (0 ≤ a ∧ a ≤ 12)) := by
  unfold impl_areCrowd.f
  rw [within_f]; simp [Bool.decide_and]
def cmp3 (a b : Int) : Int := if a < b then -1 else if a > b then 1 else 0
def cmpP (p q : S74) : Int := if cmp3 p.f0 q.f0 = 0 then cmp3 p.f1 q.f1 else cmp3 p.f0 q.f0
theorem cmpP_neg (p q : S74) : decide (cmpP p q ≥ 0) = !lt2 p q := by
  unfold cmpP cmp3 lt2
  by_cases h1 : p.f0 < q.f0
  · simp [h1]
  · by_cases h2 : p.f0 > q.f0
    · have h3 : ¬ p.f0 = q.f0 := by omega
      simp [h1, h2, h3]
    · have h3 : p.f0 = q.f0 := by omega
      by_cases h4 : p.f1 < q.f1
      · simp [h3, h4]
      · by_cases h5 : p.f1 > q.f1
        · simp [h3, h4, h5]
        · simp [h3, h4, h5]
theorem cmpOr_ev (a b : Int) : Ev (fun k => cmp_Or_int.f k [a, b]) (if a = 0 then b else a) := by
  refine ⟨3, fun k hk => ?_⟩
  obtain ⟨k, rfl⟩ : ∃ m, k = m + 3 := ⟨k - 3, by omega⟩
  have e1 : wrap64 (0 + 1) = 1 := by unfold wrap64; omega
  have e2 : wrap64 (1 + 1) = 2 := by unfold wrap64; omega
  have r0 : rd [a, b] 0 = a := rfl
  have r1 : rd [a, b] 1 = b := rfl
  simp only [cmp_Or_int.f, cmp_Or_int.l0, List.length_cons, List.length_nil, r0, r1, e1, e2]
  by_cases h : a = 0
  · by_cases h2 : b = 0
    · simp [h, h2]
    · simp [h, h2]
  · simp [h]
theorem compare_f (a b : Int) : cmp_Compare_int.f a b = some (cmp3 a b) := by
  unfold cmp_Compare_int.f cmp_isNaN_int.f cmp3
  simp
  by_cases h : a < b
  · simp [h]
  · by_cases h2 : a > b
    · simp [h, h2]
    · simp [h, h2]
theorem comparePairs_ev (p q : S74) : Ev (fun k => impl_comparePairs.f k p.f0 p.f1 q.f0 q.f1) (cmpP p q) := by
  unfold impl_comparePairs.f
  simp only [compare_f, Option.bind_some]
  exact Ev.bind (cmpOr_ev _ _) (Ev.now _)
theorem rdT_mid (pre rest : List S74) (x : S74) : rd_T74 (pre ++ x :: rest) (pre.length : Int) = x := by
  unfold rd_T74
  simp [List.getD_eq_getElem?_getD]
theorem implIsParty_l0 (n : Int) (l : List S74) (hl : l.length < 4611686018427387904) : ∀ (rest pre : List S74), l = pre ++ rest → Ev (fun k => impl_IsParty.l0 k l (l.length : Int) (pre.length : Int) n l) (okFrom n pre.getLast? rest && crowd n)
  | [], pre, h => by
    refine Ev.one (fun k => ?_)
    have e : l.length = pre.length := by rw [h]; simp
    rw [impl_IsParty.l0, if_neg (by omega), areCrowd_f]
    simp [okFrom, crowd]
  | x :: rest, pre, h => by
    have hlen : pre.length < l.length := by rw [h]; simp
    have hx : rd_T74 l (pre.length : Int) = x := by rw [h]; exact rdT_mid pre rest x
    have ih := implIsParty_l0 n l hl rest (pre ++ [x]) (by rw [h]; simp)
    rw [List.getLast?_concat, List.length_append, List.length_singleton] at ih
    by_cases c1 : x.f0 < 0
    · refine Ev.one (fun k => ?_)
      rw [impl_IsParty.l0, if_pos (by omega), if_pos (by omega), if_pos (by omega), hx, if_pos c1]
      have : decide (0 ≤ x.f0) = false := by simp; omega
      simp [okFrom, this]
    by_cases c2 : x.f0 ≥ x.f1
    · refine Ev.one (fun k => ?_)
      rw [impl_IsParty.l0, if_pos (by omega), if_pos (by omega), if_pos (by omega), hx, if_neg c1, if_pos c2]
      have : decide (x.f0 < x.f1) = false := by simp; omega
      simp [okFrom, this]
    by_cases c3 : x.f1 ≥ n
    · refine Ev.one (fun k => ?_)
      rw [impl_IsParty.l0, if_pos (by omega), if_pos (by omega), if_pos (by omega), hx, if_neg c1, if_neg c2, if_pos c3]
      have : decide (x.f1 < n) = false := by simp; omega
      simp [okFrom, this]
    have d1 : decide (0 ≤ x.f0) = true := by simp; omega
    have d2 : decide (x.f0 < x.f1) = true := by simp; omega
    have d3 : decide (x.f1 < n) = true := by simp; omega
    rcases List.eq_nil_or_concat pre with rfl | ⟨q, p, rfl⟩
    · refine Ev.cast (Ev.step (fun k => ?_) ih) ?_
      · rw [impl_IsParty.l0, if_pos (by omega), if_pos (by omega), if_pos (by omega), hx, if_neg c1, if_neg c2, if_neg c3, if_neg (by simp), w1 (by simp)]
      · simp [okFrom, d1, d2, d3, okPrev]
    · rw [List.concat_eq_append] at hlen hx ih h ⊢
      have hp : rd_T74 l (q.length : Int) = p := by rw [h, List.append_assoc]; exact rdT_mid q (x :: rest) p
      have hq : (q ++ [p]).length = q.length + 1 := by simp
      rw [hq] at hlen hx ih ⊢
      refine Ev.step (f := fun k => (impl_comparePairs.f k p.f0 p.f1 x.f0 x.f1).bind fun t => if t ≥ 0 then some false else impl_IsParty.l0 k l (l.length : Int) ((q.length + 1 + 1 : Nat) : Int) n l) (fun k => ?_) (Ev.bind (comparePairs_ev p x) ?_)
      · rw [impl_IsParty.l0, if_pos (by omega), if_pos (by omega), if_pos (by omega), hx, if_neg c1, if_neg c2, if_neg c3, if_pos (by omega), w64 (i := ((q.length + 1 : Nat) : Int) - 1) (by omega) (by omega), show ((q.length + 1 : Nat) : Int) - 1 = (q.length : Int) by omega, if_pos (by omega), if_pos (by omega), hp, w1 (by omega)]
      · have hc := cmpP_neg p x
        rw [List.getLast?_concat]
        by_cases hlt : lt2 p x = true
        · have c4 : ¬ cmpP p x ≥ 0 := by rw [hlt] at hc; simpa using hc
          simp only [if_neg c4]
          refine Ev.cast ih ?_
          simp [okFrom, d1, d2, d3, okPrev, hlt]
        · have hlt' : lt2 p x = false := by simpa using hlt
          have c4 : cmpP p x ≥ 0 := by rw [hlt'] at hc; simpa using hc
          simp only [if_pos c4]
          refine Ev.cast (Ev.now _) ?_
          simp [okFrom, okPrev, hlt']
theorem implIsParty_ev (n : Int) (l : List S74) (hl : l.length < 4611686018427387904) : Ev (fun k => impl_IsParty.f k n l) (good n l) := by
  unfold impl_IsParty.f
  have := implIsParty_l0 n l hl l [] rfl
  rw [Bool.and_comm] at this
  exact this
theorem equal_l0 (a b : List Int) (hl : a.length = b.length) (hb : a.length ≤ 4611686018427387000) : ∀ (d i : Nat), i + d = a.length → Ev (fun k => slices_Equal_int_int.l0 k a b (a.length : Int) (i : Int)) (decide (a.drop i = b.drop i))
  | 0, i, hd => by
    refine Ev.cast (a := true) (Ev.one fun k => ?_) ?_
    · rw [slices_Equal_int_int.l0, if_neg (by omega)]
    · rw [List.drop_of_length_le (by omega), List.drop_of_length_le (by omega)]; rfl
  | d + 1, i, hd => by
    have ih := equal_l0 a b hl hb d (i + 1) (by omega)
    have ea : rd a (i : Int) = a[i] := getD_get a i (by omega)
    have eb : rd b (i : Int) = b[i]'(by omega) := getD_get b i (by omega)
    have da : a.drop i = a[i] :: a.drop (i + 1) := List.drop_eq_getElem_cons (by omega)
    have db : b.drop i = b[i]'(by omega) :: b.drop (i + 1) := List.drop_eq_getElem_cons (by omega)
    by_cases h : a[i] = b[i]'(by omega)
    · refine Ev.cast (Ev.step (fun k => ?_) ih) ?_
      · rw [slices_Equal_int_int.l0, if_pos (by omega), if_pos (by omega), if_pos (by omega), if_pos (by omega), ea, eb, if_pos h, w1 (by omega)]
      · rw [da, db, h]; simp only [List.cons.injEq, true_and]
    · refine Ev.cast (a := false) (Ev.one fun k => ?_) ?_
      · rw [slices_Equal_int_int.l0, if_pos (by omega), if_pos (by omega), if_pos (by omega), if_pos (by omega), ea, eb, if_neg h]
      · rw [da, db]; exact (decide_eq_false (fun e => h (List.cons.inj e).1)).symm
theorem equal_ev (a b : List Int) (hb : a.length ≤ 4611686018427387000) : Ev (fun k => slices_Equal_int_int.f k a b) (decide (a = b)) := by
  unfold slices_Equal_int_int.f
  by_cases h : a.length = b.length
  · simp only [if_pos (show (a.length : Int) = (b.length : Int) by omega)]
    exact equal_l0 a b h hb a.length 0 (by omega)
  · simp only [if_neg (show ¬ (a.length : Int) = (b.length : Int) by omega)]
    have : ¬ a = b := fun e => h (by rw [e])
    rw [decide_eq_false this]
    exact Ev.now _
theorem chk_iff : ∀ (rest pre : List Int), pre.Nodup → (chk pre rest = true ↔ (pre ++ rest).Nodup)
  | [], pre, h => by simp [chk, h]
  | x :: rest, pre, h => by
    rw [chk]
    cases hc : pre.contains x with
    | true =>
      have hx : x ∈ pre := by simpa using hc
      simp only [if_true, Bool.false_eq_true, false_iff]
      intro hn
      have := (List.nodup_append.1 hn).2.2 x hx x (List.mem_cons_self ..)
      exact this rfl
    | false =>
      have hx : x ∉ pre := by simpa using hc
      have hp : (pre ++ [x]).Nodup := by
        rw [List.nodup_append]
        exact ⟨h, by simp, fun a ha b hb => by rw [List.mem_singleton.1 hb]; exact fun e => hx (e ▸ ha)⟩
      simp only [Bool.false_eq_true, if_false]
      rw [chk_iff rest (pre ++ [x]) hp, List.append_assoc]; rfl
theorem ints_len (l : List Nat) : (ints l).length = l.length := by simp [ints]
theorem rng_lt (m : Nat) : (ints (List.range m)).Pairwise (· < ·) := by
  unfold ints
  rw [List.pairwise_map]
  exact List.pairwise_lt_range.imp fun h => by simpa using h
theorem strict_range : ∀ (l : List Int) (lo : Nat), l.Pairwise (· < ·) → (∀ x ∈ l, (lo : Int) ≤ x ∧ x < (lo : Int) + (l.length : Int)) → l = (List.range' lo l.length).map Int.ofNat
  | [], lo, _, _ => rfl
  | x :: l, lo, hp, hb => by
    rw [List.pairwise_cons] at hp
    have hx := hb x (List.mem_cons_self ..)
    rw [List.length_cons] at hx
    have ih := strict_range l (lo + 1) hp.2 (fun y hy => by
      have h1 := hp.1 y hy
      have h2 := hb y (List.mem_cons_of_mem _ hy)
      rw [List.length_cons] at h2
      omega)
    rw [List.length_cons, List.range'_succ, List.map_cons, ← ih]
    congr 1
    show x = (lo : Int)
    cases l with
    | nil => simp only [List.length_nil] at hx; omega
    | cons y l =>
      have h1 := hp.1 y (List.mem_cons_self ..)
      rw [List.length_cons, List.range'_succ, List.map_cons] at ih
      injection ih with ih1 _
      have : y = ((lo + 1 : Nat) : Int) := ih1
      omega
theorem sort_perm (m : Nat) (q : List Int) : ((q.mergeSort fun x y => decide (x ≤ y)) = ints (List.range m)) ↔ isPerm m q = true := by
  have hp := List.mergeSort_perm q (fun x y => decide (x ≤ y))
  have hs := List.pairwise_mergeSort (le := fun x y : Int => decide (x ≤ y)) (fun a b c h1 h2 => by rw [decide_eq_true_eq] at *; omega) (fun a b => by rw [Bool.or_eq_true, decide_eq_true_eq, decide_eq_true_eq]; omega) q
  unfold isPerm
  simp only [Bool.and_eq_true, decide_eq_true_eq]
  rw [chk_iff q [] List.nodup_nil, List.nil_append]
  constructor
  · intro h
    rw [h] at hp
    have hn : (ints (List.range m)).Nodup := (rng_lt m).imp fun h => by omega
    refine ⟨?_, ?_, hp.nodup_iff.1 hn⟩
    · rw [← hp.length_eq, ints_len, List.length_range]
    · unfold inAll
      rw [List.all_eq_true]
      intro x hx
      obtain ⟨i, hi, rfl⟩ := List.mem_map.1 (hp.mem_iff.2 hx)
      have := List.mem_range.1 hi
      simp only [Bool.and_eq_true, decide_eq_true_eq]
      exact ⟨Int.natCast_nonneg i, by show (i : Int) ≤ _; omega⟩
  · rintro ⟨h1, h2, h3⟩
    have hn := hp.nodup_iff.2 h3
    have hl := hp.length_eq
    have hlt : (q.mergeSort fun x y => decide (x ≤ y)).Pairwise (· < ·) := by
      refine (hs.and hn).imp fun h => ?_
      have := h.1
      rw [decide_eq_true_eq] at this
      have := h.2
      omega
    have := strict_range _ 0 hlt (fun x hx => by
      have := List.all_eq_true.1 h2 x (hp.mem_iff.1 hx)
      simp only [Bool.and_eq_true, decide_eq_true_eq] at this
      omega)
    rw [this, hl, h1, List.range_eq_range']; rfl
theorem upTo_l0 (m : Nat) (hm : m ≤ 1000) : ∀ (d i : Nat), i + d = m → Ev (fun k => impl_upTo.l0 k (ints (List.range i)) (m : Int) (i : Int)) (ints (List.range m))
  | 0, i, hd => by
    obtain rfl : i = m := by omega
    refine Ev.one fun k => ?_
    rw [impl_upTo.l0, if_neg (by omega)]
  | d + 1, i, hd => by
    have ih := upTo_l0 m hm d (i + 1) (by omega)
    have e : ints (List.range (i + 1)) = ints (List.range i) ++ [(i : Int)] := by unfold ints; rw [List.range_succ, List.map_append]; rfl
    rw [e] at ih
    refine Ev.step (fun k => ?_) ih
    rw [impl_upTo.l0, if_pos (by omega), if_pos (by rw [ints_len, List.length_range]; omega), w1 (by omega)]
theorem upTo_ev (m : Nat) (hm : m ≤ 1000) : Ev (fun k => impl_upTo.f k (m : Int)) (ints (List.range m)) := by
  unfold impl_upTo.f
  exact upTo_l0 m hm m 0 (by omega)
theorem isPermutation_ev (m : Nat) (hm : m ≤ 1000) (q : List Int) (hq : q.length ≤ 17592186044416) : Ev (fun k => impl_isPermutation.f k q (m : Int)) (isPerm m q) := by
  unfold impl_isPermutation.f
  simp only [if_pos hq]
  refine Ev.bind (upTo_ev m hm) ?_
  have h := equal_ev (q.mergeSort fun x y => decide (x ≤ y)) (ints (List.range m)) (by rw [List.length_mergeSort]; omega)
  refine Ev.cast h ?_
  rw [Bool.eq_iff_iff, decide_eq_true_eq]
  exact sort_perm m q

/-! ### matrices -/
def mat (m : Nat) (r : Rel) : List (List Bool) := (List.range m).map fun a => (List.range m).map fun b => r a b
/-! the number of pairs -/
def below (m : Nat) : Nat → Nat
  | 0 => 0
  | a + 1 => below m a + (m - 1 - a)
theorem below_all (m : Nat) (h : m ≤ 12) : Int.tdiv ((m : Int) * ((m : Int) - 1)) 2 = (below m m : Int) := by
  have : m = 0 ∨ m = 1 ∨ m = 2 ∨ m = 3 ∨ m = 4 ∨ m = 5 ∨ m = 6 ∨ m = 7 ∨ m = 8 ∨ m = 9 ∨ m = 10 ∨ m = 11 ∨ m = 12 := by omega
  rcases this with rfl | rfl | rfl | rfl | rfl | rfl | rfl | rfl | rfl | rfl | rfl | rfl | rfl <;> rfl
/-- where a pair stands among all pairs of m people -/
def rank (m : Nat) (x : S74) : Nat := below m x.f0.toNat + (x.f1.toNat - x.f0.toNat - 1)
theorem below_mono (m a : Nat) : ∀ d, below m a ≤ below m (a + d)
  | 0 => Nat.le_refl _
  | d + 1 => Nat.le_trans (below_mono m a d) (by show below m (a + d) ≤ below m (a + d) + _; omega)
theorem rank_lt (m : Nat) (p x : S74) (h : lt2 p x = true) (p0 : 0 ≤ p.f0) (p1 : p.f0 < p.f1) (p2 : p.f1 < m) (x0 : 0 ≤ x.f0) (x1 : x.f0 < x.f1) : rank m p < rank m x := by
  unfold lt2 at h
  unfold rank
  simp at h
  rcases h with h | ⟨h, h2⟩
  · have h1 := below_mono m (p.f0.toNat + 1) (x.f0.toNat - (p.f0.toNat + 1))
    rw [show p.f0.toNat + 1 + (x.f0.toNat - (p.f0.toNat + 1)) = x.f0.toNat by omega] at h1
    have h3 : below m (p.f0.toNat + 1) = below m p.f0.toNat + (m - 1 - p.f0.toNat) := rfl
    omega
  · rw [h]; omega
theorem rank_top (m : Nat) (x : S74) (x0 : 0 ≤ x.f0) (x1 : x.f0 < x.f1) (x2 : x.f1 < m) : rank m x < below m m := by
  unfold rank
  have h1 := below_mono m (x.f0.toNat + 1) (m - (x.f0.toNat + 1))
  rw [show x.f0.toNat + 1 + (m - (x.f0.toNat + 1)) = m by omega] at h1
  have h3 : below m (x.f0.toNat + 1) = below m x.f0.toNat + (m - 1 - x.f0.toNat) := rfl
  omega
theorem okFrom_len (m : Nat) : ∀ (l : List S74) (p : S74), 0 ≤ p.f0 → p.f0 < p.f1 → p.f1 < m → okFrom m (some p) l = true → rank m p + l.length < below m m
  | [], p, p0, p1, p2, _ => rank_top m p p0 p1 p2
  | x :: xs, p, p0, p1, p2, h => by
    simp [okFrom, okPrev] at h
    obtain ⟨⟨x0, x1, x2, hlt⟩, h⟩ := h
    have ih := okFrom_len m xs x x0 x1 x2 h
    have := rank_lt m p x hlt p0 p1 p2 x0 x1
    simp only [List.length_cons]
    omega
theorem good_len (m : Nat) (l : List S74) (h : okFrom m none l = true) : l.length ≤ below m m := by
  cases l with
  | nil => simp
  | cons x xs =>
    simp [okFrom, okPrev] at h
    obtain ⟨⟨x0, x1, x2⟩, h⟩ := h
    have := okFrom_len m xs x x0 x1 x2 h
    simp only [List.length_cons]
    omega
theorem paLess_f (p x : S74) : spec_paLess.f p.f0 p.f1 x.f0 x.f1 = some (lt2 p x) := by
  unfold spec_paLess.f lt2
  by_cases h : p.f0 < x.f0
  · simp [h]
  · by_cases h2 : p.f0 = x.f0
    · simp [h2]
    · simp [h, h2]
theorem paGood_l0 (m : Nat) (hm : m ≤ 12) (l : List S74) (hl : l.length < 4611686018427387904) : ∀ (rest pre : List S74), l = pre ++ rest → Ev (fun k => spec_paGood.l0 k l (l.length : Int) (pre.length : Int) (m : Int) l) (okFrom m pre.getLast? rest)
  | [], pre, h => by
    refine Ev.one (fun k => ?_)
    have e : l.length = pre.length := by rw [h]; simp
    rw [spec_paGood.l0, if_neg (by omega)]
    simp [okFrom]
  | x :: rest, pre, h => by
    have hlen : pre.length < l.length := by rw [h]; simp
    have hx : rd_T74 l (pre.length : Int) = x := by rw [h]; exact rdT_mid pre rest x
    have ih := paGood_l0 m hm l hl rest (pre ++ [x]) (by rw [h]; simp)
    rw [List.getLast?_concat, List.length_append, List.length_singleton] at ih
    have em : wrap64 ((m : Int) - 1) = (m : Int) - 1 := w64 (by omega) (by omega)
    by_cases c1 : 0 ≤ x.f0 ∧ x.f0 ≤ (m : Int) - 1
    · have e1 : wrap64 (x.f0 + 1) = x.f0 + 1 := w64 (by omega) (by omega)
      have b1 : (decide (0 ≤ x.f0) && decide (x.f0 ≤ (m : Int) - 1)) = true := by simp; exact c1
      by_cases c2 : x.f0 + 1 ≤ x.f1 ∧ x.f1 ≤ (m : Int) - 1
      · have b2 : (decide (x.f0 + 1 ≤ x.f1) && decide (x.f1 ≤ (m : Int) - 1)) = true := by simp; exact c2
        have d1 : decide (0 ≤ x.f0) = true := by simp; omega
        have d2 : decide (x.f0 < x.f1) = true := by simp; omega
        have d3 : decide (x.f1 < (m : Int)) = true := by simp; omega
        rcases List.eq_nil_or_concat pre with rfl | ⟨q, p, rfl⟩
        · refine Ev.cast (Ev.step (fun k => ?_) ih) ?_
          · rw [spec_paGood.l0, if_pos (by omega), if_pos (by omega), if_pos (by omega), hx, em, e1, l1In_f, l1In_f, b1, b2]
            simp only [Option.bind_some, if_true]
            rw [if_neg (by simp), w1 (by simp)]
          · simp [okFrom, d1, d2, d3, okPrev]
        · rw [List.concat_eq_append] at hlen hx ih h ⊢
          have hp : rd_T74 l (q.length : Int) = p := by rw [h, List.append_assoc]; exact rdT_mid q (x :: rest) p
          have hq : (q ++ [p]).length = q.length + 1 := by simp
          rw [hq] at hlen hx ih ⊢
          rw [List.getLast?_concat]
          cases hlt : lt2 p x with
          | true =>
            refine Ev.cast (Ev.step (fun k => ?_) ih) ?_
            · rw [spec_paGood.l0, if_pos (by omega), if_pos (by omega), if_pos (by omega), hx, em, e1, l1In_f, l1In_f, b1, b2]
              simp only [Option.bind_some, if_true]
              rw [if_pos (by omega), w64 (i := ((q.length + 1 : Nat) : Int) - 1) (by omega) (by omega), show ((q.length + 1 : Nat) : Int) - 1 = (q.length : Int) by omega, if_pos (by omega), if_pos (by omega), hp, paLess_f, hlt, w1 (by omega)]
              rfl
            · simp [okFrom, d1, d2, d3, okPrev, hlt]
          | false =>
            refine Ev.one (fun k => ?_)
            rw [spec_paGood.l0, if_pos (by omega), if_pos (by omega), if_pos (by omega), hx, em, e1, l1In_f, l1In_f, b1, b2]
            simp only [Option.bind_some, if_true]
            rw [if_pos (by omega), w64 (i := ((q.length + 1 : Nat) : Int) - 1) (by omega) (by omega), show ((q.length + 1 : Nat) : Int) - 1 = (q.length : Int) by omega, if_pos (by omega), if_pos (by omega), hp, paLess_f, hlt]
            simp [okFrom, okPrev, hlt]
      · refine Ev.one (fun k => ?_)
        have b2 : (decide (x.f0 + 1 ≤ x.f1) && decide (x.f1 ≤ (m : Int) - 1)) = false := by simp; omega
        rw [spec_paGood.l0, if_pos (by omega), if_pos (by omega), if_pos (by omega), hx, em, e1, l1In_f, l1In_f, b1, b2]
        have : (decide (x.f0 < x.f1) && decide (x.f1 < (m : Int))) = false := by simp; omega
        simp only [okFrom, ← Bool.and_assoc (decide (x.f0 < x.f1)), this]
        simp
    · refine Ev.one (fun k => ?_)
      have b1 : (decide (0 ≤ x.f0) && decide (x.f0 ≤ (m : Int) - 1)) = false := by simp; omega
      rw [spec_paGood.l0, if_pos (by omega), if_pos (by omega), if_pos (by omega), hx, em, l1In_f, b1]
      have : (decide (0 ≤ x.f0) && (decide (x.f0 < x.f1) && (decide (x.f1 < (m : Int)) && okPrev pre.getLast? x))) = false := by
        by_cases z0 : 0 ≤ x.f0
        · by_cases z1 : x.f0 < x.f1
          · have : ¬ x.f1 < (m : Int) := by omega
            simp [this]
          · simp [z1]
        · simp [z0]
      simp [okFrom, this]
theorem paPeople_f (a : Int) : spec_paPeople.f a = some (decide (0 ≤ a ∧ a ≤ 12)) := by
  unfold spec_paPeople.f
  rw [l1In_f]; simp [Bool.decide_and]
theorem paGood_ev (n : Int) (l : List S74) (hl : l.length < 4611686018427387904) : Ev (fun k => spec_paGood.f k n l) (good n l) := by
  unfold spec_paGood.f
  rw [paPeople_f]
  by_cases h : 0 ≤ n ∧ n ≤ 12
  · obtain ⟨m, rfl⟩ := Int.eq_ofNat_of_zero_le h.1
    have hm : m ≤ 12 := by omega
    have hc : crowd (m : Int) = true := by unfold crowd; simp; omega
    have hmul : (m : Int) * ((m : Int) - 1) ≤ 144 := by
      have : m = 0 ∨ m = 1 ∨ m = 2 ∨ m = 3 ∨ m = 4 ∨ m = 5 ∨ m = 6 ∨ m = 7 ∨ m = 8 ∨ m = 9 ∨ m = 10 ∨ m = 11 ∨ m = 12 := by omega
      rcases this with rfl | rfl | rfl | rfl | rfl | rfl | rfl | rfl | rfl | rfl | rfl | rfl | rfl <;> decide
    have hmul0 : 0 ≤ (m : Int) * ((m : Int) - 1) := by
      have : m = 0 ∨ m = 1 ∨ m = 2 ∨ m = 3 ∨ m = 4 ∨ m = 5 ∨ m = 6 ∨ m = 7 ∨ m = 8 ∨ m = 9 ∨ m = 10 ∨ m = 11 ∨ m = 12 := by omega
      rcases this with rfl | rfl | rfl | rfl | rfl | rfl | rfl | rfl | rfl | rfl | rfl | rfl | rfl <;> decide
    have hb : (below m m : Int) ≤ 144 := by
      have : m = 0 ∨ m = 1 ∨ m = 2 ∨ m = 3 ∨ m = 4 ∨ m = 5 ∨ m = 6 ∨ m = 7 ∨ m = 8 ∨ m = 9 ∨ m = 10 ∨ m = 11 ∨ m = 12 := by omega
      rcases this with rfl | rfl | rfl | rfl | rfl | rfl | rfl | rfl | rfl | rfl | rfl | rfl | rfl <;> decide
    have e : wrap64 (Int.tdiv (wrap64 ((m : Int) * (wrap64 ((m : Int) - 1)))) 2) = (below m m : Int) := by
      rw [w64 (i := (m : Int) - 1) (by omega) (by omega), w64 (i := (m : Int) * ((m : Int) - 1)) (by omega) (by omega), below_all m hm, w64 (by omega) (by omega)]
    simp only [h, decide_true, Option.bind_some, if_true, e, and_self]
    unfold good
    rw [hc, Bool.true_and]
    by_cases hlen : l.length ≤ below m m
    · refine Ev.step (fun k => ?_) (paGood_l0 m hm l hl l [] rfl)
      have : decide ((l.length : Int) > (below m m : Int)) = false := by simp; omega
      rw [this, spec_paGood.j0, if_neg (by decide)]
      rfl
    · refine Ev.one (fun k => ?_)
      have : decide ((l.length : Int) > (below m m : Int)) = true := by simp; omega
      rw [this, spec_paGood.j0, if_pos rfl]
      have hn : okFrom (m : Int) none l = false := by
        cases hok : okFrom (m : Int) none l with
        | false => rfl
        | true => exact absurd (good_len m l hok) hlen
      rw [hn]
  · have hc : crowd n = false := by unfold crowd; simp; omega
    simp only [h, decide_false, Option.bind_some]
    unfold good
    rw [hc]
    refine Ev.one (fun k => ?_)
    rw [if_neg (by decide), spec_paGood.j0]; simp

theorem hasP_nil : hasP [] = fun _ _ => false := by funext x y; rfl
theorem map_range_const {α : Type} (c : α) : ∀ m : Nat, (List.range m).map (fun _ => c) = List.replicate m c
  | 0 => rfl
  | m + 1 => by rw [List.range_succ, List.map_append, map_range_const c m, List.replicate_succ']; rfl
theorem mat_false (m : Nat) : mat m (fun _ _ => false) = List.replicate m (List.replicate m false) := by
  unfold mat; rw [map_range_const, map_range_const]
theorem mat_len (m : Nat) (r : Rel) : (mat m r).length = m := by simp [mat]
theorem mat_row (m : Nat) (r : Rel) (a : Nat) (h : a < m) : rd_L4 (mat m r) (a : Int) = (List.range m).map fun b => r a b := map_range_getD m _ _ a h
theorem map_range_congr {α : Type} (m : Nat) (f g : Nat → α) (h : ∀ a, a < m → f a = g a) : (List.range m).map f = (List.range m).map g := List.map_congr_left fun a ha => h a (List.mem_range.1 ha)
theorem map_range_set {α : Type} (m : Nat) (f : Nat → α) (a : Nat) (v : α) : ((List.range m).map f).set a v = (List.range m).map fun i => if i = a then v else f i := by
  apply List.ext_getElem?
  intro j
  rw [List.getElem?_set]
  by_cases hj : j < m
  · by_cases e : a = j
    · subst e; simp [hj]
    · have e' : ¬ j = a := fun h => e h.symm
      simp [hj, e, e']
  · by_cases e : a = j
    · subst e; simp [hj]
    · simp [hj, e]
def upd (r : Rel) (a b : Nat) (v : Bool) : Rel := fun x y => if x = a ∧ y = b then v else r x y
theorem mat_set (m : Nat) (r : Rel) (a b : Nat) (v : Bool) (ha : a < m) : (mat m r).set a ((rd_L4 (mat m r) (a : Int)).set b v) = mat m (upd r a b v) := by
  rw [mat_row m r a ha, map_range_set]
  show ((List.range m).map fun a => (List.range m).map fun b => r a b).set a _ = _
  rw [map_range_set]
  refine map_range_congr m _ _ fun i hi => ?_
  by_cases e : i = a
  · subst e
    rw [if_pos rfl]
    refine map_range_congr m _ _ fun j hj => ?_
    simp [upd]
  · rw [if_neg e]
    refine map_range_congr m _ _ fun j hj => ?_
    simp [upd, e]
theorem hasP_snoc (pre : List S74) (a b x y : Nat) : hasP (pre ++ [⟨(a : Int), (b : Int)⟩]) x y = (hasP pre x y || ((decide (a = x) && decide (b = y)) || (decide (a = y) && decide (b = x)))) := by
  unfold hasP
  rw [List.any_append]
  congr 1
  simp only [List.any_cons, List.any_nil, Bool.or_false]
  have e : ∀ u v : Nat, ((u : Int) == (v : Int)) = decide (u = v) := fun u v => by
    by_cases h : u = v
    · simp [h]
    · have : ¬ (u : Int) = (v : Int) := by omega
      simp [h, this]
  rw [e, e, e, e]
theorem upd2_hasP (pre : List S74) (a b : Nat) : upd (upd (hasP pre) a b true) b a true = hasP (pre ++ [⟨(a : Int), (b : Int)⟩]) := by
  funext x y
  rw [hasP_snoc]
  unfold upd
  by_cases h1 : x = b ∧ y = a
  · simp [h1]
  · by_cases h2 : x = a ∧ y = b
    · simp [h2]
    · have e1 : (decide (a = x) && decide (b = y)) = false := by simp; intro h3 h4; exact h2 ⟨h3.symm, h4.symm⟩
      have e2 : (decide (a = y) && decide (b = x)) = false := by simp; intro h3 h4; exact h1 ⟨h4.symm, h3.symm⟩
      simp [h1, h2, e1, e2]
theorem paTable_l1 (m : Nat) (l : List S74) (hl : l.length < 4611686018427387904) (hn : natPairs m l) : ∀ (rest pre : List S74), l = pre ++ rest → Ev (fun k => spec_paTable.l1 k (mat m (hasP pre)) l (l.length : Int) (pre.length : Int)) (mat m (hasP l))
  | [], pre, h => by
    refine Ev.one (fun k => ?_)
    have e : l = pre := by rw [h]; simp
    rw [spec_paTable.l1, if_neg (by rw [e]; omega), e]
  | x :: rest, pre, h => by
    have hlen : pre.length < l.length := by rw [h]; simp
    obtain ⟨a, b, rfl, hab, hb⟩ := hn x (by rw [h]; simp)
    have hx : rd_T74 l (pre.length : Int) = ⟨(a : Int), (b : Int)⟩ := by rw [h]; exact rdT_mid pre rest _
    have ih := paTable_l1 m l hl hn rest (pre ++ [⟨(a : Int), (b : Int)⟩]) (by rw [h]; simp)
    rw [List.length_append, List.length_singleton, ← upd2_hasP] at ih
    refine Ev.step (fun k => ?_) ih
    have hrow : (rd_L4 (mat m (hasP pre)) (a : Int)).length = m := by rw [mat_row _ _ _ (by omega)]; simp
    have hrow2 : (rd_L4 (mat m (upd (hasP pre) a b true)) (b : Int)).length = m := by rw [mat_row _ _ _ (by omega)]; simp
    rw [spec_paTable.l1, if_pos (by omega), if_pos (by omega), if_pos (by omega), hx]
    dsimp only
    rw [mat_len, hrow, if_pos (by omega), if_pos (by omega), if_pos (by omega), if_pos (by omega), Int.toNat_natCast, Int.toNat_natCast, mat_set _ _ _ _ _ (by omega)]
    simp only [Option.bind_some]
    rw [if_pos (by omega), hrow2, if_pos (by omega), mat_set _ _ _ _ _ (by omega), w1 (by omega)]
theorem paTable_l0 (m : Nat) (hm : m ≤ 12) (l : List S74) (hl : l.length < 4611686018427387904) (hn : natPairs m l) : ∀ (d i : Nat), i + d = m → Ev (fun k => spec_paTable.l0 k (List.replicate i (List.replicate m false)) (i : Int) (m : Int) l) (mat m (hasP l))
  | 0, i, hd => by
    refine Ev.step (fun k => ?_) (paTable_l1 m l hl hn l [] rfl)
    obtain rfl : i = m := by omega
    rw [spec_paTable.l0, if_neg (by omega), hasP_nil, mat_false]
    rfl
  | d + 1, i, hd => by
    refine Ev.step (fun k => ?_) (paTable_l0 m hm l hl hn d (i + 1) (by omega))
    rw [spec_paTable.l0, if_pos (by omega), if_pos (by omega), if_pos (by omega), if_pos (by simp; omega), w1 (by omega), Int.toNat_natCast, List.replicate_succ']
theorem paTable_ev (m : Nat) (hm : m ≤ 12) (l : List S74) (hl : l.length < 4611686018427387904) (hn : natPairs m l) : Ev (fun k => spec_paTable.f k (m : Int) l) (mat m (hasP l)) := by
  unfold spec_paTable.f
  exact paTable_l0 m hm l hl hn m 0 (by omega)
theorem sgr_l0 (m : Nat) (hm : m ≤ 12) (T : List (List Bool)) (ord : List Int) (R : List Int × Bool) (h : Ev (fun k => spec_GreedyColouring.l1 k T (List.replicate m (-1)) ord (ord.length : Int) 0) R) : ∀ (Y : List Int) (i : Nat), i + Y.length = m → Ev (fun k => spec_GreedyColouring.l0 k ord T (List.replicate i (-1) ++ Y) (m : Int) (i : Int)) R
  | [], i, hi => by
    obtain rfl : i = m := by simpa using hi
    rw [List.append_nil]
    refine Ev.step (fun k => ?_) h
    rw [spec_GreedyColouring.l0, if_neg (by omega)]
  | y :: Y, i, hi => by
    rw [List.length_cons] at hi
    have e : (List.replicate i (-1 : Int) ++ y :: Y).set i (-1) = List.replicate (i + 1) (-1) ++ Y := by
      rw [List.set_append_right _ _ (by simp), List.length_replicate, Nat.sub_self, List.set_cons_zero, List.replicate_succ', List.append_assoc]; rfl
    refine Ev.step (fun k => ?_) (sgr_l0 m hm T ord R h Y (i + 1) (by omega))
    rw [spec_GreedyColouring.l0, if_pos (by omega), if_pos (by omega), List.length_append, List.length_replicate, List.length_cons, if_pos (by omega), Int.toNat_natCast, e, w1 (by omega)]
theorem sgr_l3 (r : Rel) (m : Nat) (hm : m ≤ 12) (a : Nat) (ha : a < m) (X : List Int) (hX : X.length = m) (ord : List Int) (j c : Nat) (hc : c < 1000) (hj : j ≤ 1048576) (R : List Int × Bool) : ∀ (d b : Nat) (free : Bool), b + d = m → (free = (List.range b).all fun b => !r a b || rd X (b : Int) != (c : Int)) →
    Ev (fun k => if frF r m a X c = true then spec_GreedyColouring.l1 k (mat m r) (X.set a (c : Int)) ord (ord.length : Int) ((j + 1 : Nat) : Int) else spec_GreedyColouring.l2 k (mat m r) X (a : Int) ((c + 1 : Nat) : Int) ord (ord.length : Int) (j : Int)) R →
    Ev (fun k => spec_GreedyColouring.l3 k (mat m r) X (a : Int) (c : Int) free ord (ord.length : Int) (j : Int) ((List.range m).map fun b => r a b) (m : Int) (b : Int)) R
  | 0, b, free, hd, hf, h => by
    obtain rfl : b = m := by omega
    have hfr : free = frF r b a X c := hf
    refine Ev.step (fun k => ?_) h
    rw [spec_GreedyColouring.l3, if_neg (by omega), hfr]
    cases frF r b a X c with
    | true => rw [if_pos rfl, if_pos rfl, if_pos (by omega), hX, if_pos (by omega), Int.toNat_natCast, w1 (by omega)]
    | false => rw [if_neg (by decide), if_neg (by decide), w1 (by omega)]
  | d + 1, b, free, hd, hf, h => by
    have hb : b < m := by omega
    have hrd : rdOf false ((List.range m).map fun b => r a b) (b : Int) = r a b := map_range_getD m (fun b => r a b) false b hb
    have hl : ((List.range m).map fun b => r a b).length = m := by simp
    have hstep : ((List.range (b + 1)).all fun b => !r a b || rd X (b : Int) != (c : Int)) = (free && (!r a b || rd X (b : Int) != (c : Int))) := by
      rw [List.range_succ, List.all_append, ← hf]; simp
    refine Ev.step (fun k => ?_) (sgr_l3 r m hm a ha X hX ord j c hc hj R d (b + 1) (free && (!r a b || rd X (b : Int) != (c : Int))) (by omega) hstep.symm h)
    rw [spec_GreedyColouring.l3, hl, hX, if_pos (by omega), if_pos (by omega), if_pos (by omega), hrd, w1 (by omega)]
    cases free with
    | false => simp
    | true =>
      rw [if_pos rfl]
      cases r a b with
      | true => rw [if_pos rfl, if_pos (by omega)]; simp
      | false => rw [if_neg (by decide)]; simp
theorem sgr_l2 (r : Rel) (m : Nat) (hm : m ≤ 12) (a : Nat) (ha : a < m) (X : List Int) (hX : X.length = m) (ord : List Int) (j : Nat) (hj : j ≤ 1048576) (R : List Int × Bool) (h : Ev (fun k => spec_GreedyColouring.l1 k (mat m r) (X.set a (fcO r m a X : Int)) ord (ord.length : Int) ((j + 1 : Nat) : Int)) R) : ∀ (d c : Nat), c + d = fcO r m a X →
    Ev (fun k => spec_GreedyColouring.l2 k (mat m r) X (a : Int) (c : Int) ord (ord.length : Int) (j : Int)) R := by
  obtain ⟨g1, g2, _, g4⟩ := fcN_spec (frF r m a X) (m + 1) 0 (frF_some r m a X hX)
  change frF r m a X (fcO r m a X) = true at g1
  change ∀ c2, 0 ≤ c2 → c2 < fcO r m a X → _ at g2
  change fcO r m a X < _ at g4
  have hgo : ∀ c, c < 1000 → Ev (fun k => if frF r m a X c = true then spec_GreedyColouring.l1 k (mat m r) (X.set a (c : Int)) ord (ord.length : Int) ((j + 1 : Nat) : Int) else spec_GreedyColouring.l2 k (mat m r) X (a : Int) ((c + 1 : Nat) : Int) ord (ord.length : Int) (j : Int)) R → Ev (fun k => spec_GreedyColouring.l2 k (mat m r) X (a : Int) (c : Int) ord (ord.length : Int) (j : Int)) R := fun c hc h => by
    have h3 := sgr_l3 r m hm a ha X hX ord j c hc hj R m 0 true (by omega) rfl h
    refine Ev.step (fun k => ?_) h3
    rw [spec_GreedyColouring.l2, if_pos (by omega), mat_len, if_pos (by omega), mat_row m r a ha]
    simp
  intro d
  induction d with
  | zero =>
    intro c hc
    obtain rfl : c = fcO r m a X := by omega
    refine hgo _ (by omega) ?_
    simp only [g1, if_true]
    exact h
  | succ d ih =>
    intro c hc
    refine hgo c (by omega) ?_
    simp only [g2 c (by omega) (by omega), Bool.false_eq_true, if_false]
    exact ih (c + 1) (by omega)
theorem sgr_l1 (r : Rel) (m : Nat) (hm : m ≤ 12) (ord : List Int) (ho : ord.length ≤ 1048576) (hb : ∀ a ∈ ord, 0 ≤ a ∧ a < (m : Int)) : ∀ (rest pre X : List Int), ord = pre ++ rest → X.length = m → Ev (fun k => spec_GreedyColouring.l1 k (mat m r) X ord (ord.length : Int) (pre.length : Int)) (grS r m rest X, true)
  | [], pre, X, e, hX => by
    rw [List.append_nil] at e
    subst e
    exact Ev.one fun k => by rw [spec_GreedyColouring.l1, if_neg (by omega)]; rfl
  | a :: rest, pre, X, e, hX => by
    have hl : ord.length = pre.length + (rest.length + 1) := by rw [e, List.length_append, List.length_cons]
    obtain ⟨h0, h1⟩ := hb a (by rw [e]; simp)
    obtain ⟨x, rfl⟩ := Int.eq_ofNat_of_zero_le h0
    have hrd : rd ord (pre.length : Int) = (x : Int) := by
      unfold rd
      rw [e, Int.toNat_natCast, List.getD_eq_getElem?_getD, List.getElem?_append_right (Nat.le_refl _), Nat.sub_self]
      rfl
    have ih := sgr_l1 r m hm ord ho hb rest (pre ++ [(x : Int)]) (X.set x (fcO r m x X : Int)) (by rw [e, List.append_assoc]; rfl) (by rw [List.length_set]; exact hX)
    rw [List.length_append, List.length_singleton] at ih
    have h2 := sgr_l2 r m hm x (by omega) X hX ord pre.length (by omega) _ ih (fcO r m x X) 0 (by omega)
    rw [grS]
    refine Ev.step (fun k => ?_) h2
    rw [spec_GreedyColouring.l1, if_pos (by omega), if_pos (by omega), if_pos (by omega), hrd]
    rfl
theorem tab_false (m : Nat) : tab m (fun _ _ => false) = List.replicate m 0 := by
  unfold tab
  rw [← map_range_const (0 : Int) m]
  refine map_range_congr m _ _ fun i hi => ?_
  have : bitsOf m (fun _ => false) = 0 := by
    apply Nat.eq_of_testBit_eq
    intro i
    rw [testBit_bitsOf]; simp
  rw [this]; rfl
theorem bitsOf_or (m : Nat) (f : Nat → Bool) (b : Nat) (hb : b < m) : bitsOf m f ||| 2 ^ b = bitsOf m fun j => if j = b then true else f j := by
  apply Nat.eq_of_testBit_eq
  intro i
  rw [Nat.testBit_or, testBit_bitsOf, testBit_bitsOf, Nat.testBit_two_pow]
  by_cases e : i = b
  · subst e; simp [hb]
  · have e' : ¬ b = i := fun h => e h.symm
    simp [e, e']
theorem or16 (x y : Nat) (hx : x < 65536) (hy : y < 65536) : Go.bits .or .u16 (x : Int) (y : Int) = ((x ||| y : Nat) : Int) := (bits_nat .u16 16 (by decide) wraps_u16 x y hx hy).2
theorem pow_u16 (b : Nat) (h : b ≤ 12) : 2 ^ b < 65536 := Nat.lt_of_le_of_lt (Nat.pow_le_pow_right (by decide) h) (by decide)
theorem shl1 (b : Nat) (h : b ≤ 12) : shl .u16 1 (b : Int) = ((2 ^ b : Nat) : Int) := by
  have : b = 0 ∨ b = 1 ∨ b = 2 ∨ b = 3 ∨ b = 4 ∨ b = 5 ∨ b = 6 ∨ b = 7 ∨ b = 8 ∨ b = 9 ∨ b = 10 ∨ b = 11 ∨ b = 12 := by omega
  rcases this with rfl | rfl | rfl | rfl | rfl | rfl | rfl | rfl | rfl | rfl | rfl | rfl | rfl <;> decide
theorem bitsOf_congr (m : Nat) (f g : Nat → Bool) (h : ∀ i, i < m → f i = g i) : bitsOf m f = bitsOf m g := by
  apply Nat.eq_of_testBit_eq
  intro i
  rw [testBit_bitsOf, testBit_bitsOf]
  by_cases hi : i < m
  · simp [hi, h i hi]
  · simp [hi]
theorem tab_congr (m : Nat) (r s : Rel) (h : ∀ a b, a < m → b < m → r a b = s a b) : tab m r = tab m s := map_range_congr m _ _ fun a ha => by rw [bitsOf_congr m _ _ fun b hb => h a b ha hb]
theorem tab_set (m : Nat) (r : Rel) (a : Nat) (f : Nat → Bool) : (tab m r).set a ((bitsOf m f : Nat) : Int) = tab m (fun x => if x = a then f else r x) := by
  unfold tab
  rw [map_range_set]
  refine map_range_congr m _ _ fun i hi => ?_
  by_cases e : i = a <;> simp [e]
theorem tab_or (m : Nat) (hm : m ≤ 12) (r : Rel) (a b : Nat) (ha : a < m) (hb : b < m) : (tab m r).set a (Go.bits .or .u16 (rd (tab m r) (a : Int)) (shl .u16 1 (b : Int))) = tab m (upd r a b true) := by
  rw [tab_at m r a ha, shl1 b (by omega), or16 _ _ (bitsOf_u16 m hm _) (pow_u16 b (by omega)), bitsOf_or m _ b hb, tab_set]
  refine tab_congr m _ _ fun x y hx hy => ?_
  by_cases e : x = a
  · subst e; simp [upd]
  · simp [upd, e]
theorem table_l0 (m : Nat) (hm : m ≤ 12) (l : List S74) (hl : l.length < 4611686018427387904) (hn : natPairs m l) : ∀ (rest pre : List S74), l = pre ++ rest → Ev (fun k => impl_Party_table.l0 k (tab m (hasP pre)) l (l.length : Int) (pre.length : Int)) (tab m (hasP l))
  | [], pre, h => by
    refine Ev.one (fun k => ?_)
    have e : l = pre := by rw [h]; simp
    rw [impl_Party_table.l0, if_neg (by rw [e]; omega), e]
  | x :: rest, pre, h => by
    have hlen : pre.length < l.length := by rw [h]; simp
    obtain ⟨a, b, rfl, hab, hb⟩ := hn x (by rw [h]; simp)
    have hx : rd_T74 l (pre.length : Int) = ⟨(a : Int), (b : Int)⟩ := by rw [h]; exact rdT_mid pre rest _
    have ih := table_l0 m hm l hl hn rest (pre ++ [⟨(a : Int), (b : Int)⟩]) (by rw [h]; simp)
    rw [List.length_append, List.length_singleton, ← upd2_hasP] at ih
    refine Ev.step (fun k => ?_) ih
    rw [impl_Party_table.l0, if_pos (by omega), if_pos (by omega), if_pos (by omega), hx]
    dsimp only
    rw [tab_len, if_pos (by omega), if_pos (by omega), if_pos (by omega), Int.toNat_natCast, Int.toNat_natCast, tab_or m hm _ a b (by omega) (by omega)]
    simp only [Option.bind_some]
    rw [if_pos (by omega), tab_or m hm _ b a (by omega) (by omega), w1 (by omega)]
theorem table_ev (m : Nat) (hm : m ≤ 12) (l : List S74) (hl : l.length < 4611686018427387904) (hn : natPairs m l) : Ev (fun k => impl_Party_table.f k (m : Int) l) (tab m (hasP l)) := by
  unfold impl_Party_table.f
  simp only [if_pos (show (0 : Int) ≤ (m : Int) by omega), Int.toNat_natCast, if_pos (show m ≤ 140737488355328 by omega)]
  have := table_l0 m hm l hl hn l [] rfl
  rw [hasP_nil, tab_false] at this
  exact this

theorem GreedyColouring_common (n : Int) (l : List S74) (q : List Int) (w : (Lit.int .i64 n).wf = true) (hl : l.length ≤ 1048576) (hq : q.length ≤ 1048576) : ∃ R : List Int × Bool, Ev (fun k => spec_GreedyColouring.f k n l q) R ∧ Ev (fun k => impl_GreedyColouring.f k n l q) R ∧ R.1.length ≤ 1048576 := by
  have hi := implIsParty_ev n l (by omega)
  have hg' := paGood_ev n l (by omega)
  cases h : good n l with
  | false =>
    rw [h] at hi hg'
    refine ⟨([], false), ?_, ?_, by simp⟩
    · unfold spec_GreedyColouring.f
      refine Ev.bind hg' ?_
      simp only [Bool.false_eq_true, if_false]
      exact Ev.one fun k => by rw [spec_GreedyColouring.j0, if_pos rfl]
    · unfold impl_GreedyColouring.f
      refine Ev.bind hi ?_
      simp only [Bool.false_eq_true, if_false]; exact Ev.now _
  | true =>
    rw [h] at hi hg'
    obtain ⟨m, rfl, hm, hn, _⟩ := good_nat h
    cases hp : isPerm m q with
    | false =>
      refine ⟨([], false), ?_, ?_, by simp⟩
      · unfold spec_GreedyColouring.f
        refine Ev.bind hg' ?_
        simp only [if_true]
        refine Ev.bind (grOrder_ev m hm q hq) ?_
        rw [hp]
        exact Ev.one fun k => by rw [Bool.not_false, spec_GreedyColouring.j0, if_pos rfl]
      · unfold impl_GreedyColouring.f
        refine Ev.bind hi ?_
        simp only [if_true]
        refine Ev.bind (isPermutation_ev m (by omega) q (by omega)) ?_
        rw [hp]
        simp only [Bool.false_eq_true, if_false]; exact Ev.now _
    | true =>
      have hb : ∀ a ∈ q, 0 ≤ a ∧ a < (m : Int) := fun a ha => by
        have h1 := hp
        unfold isPerm at h1
        rw [Bool.and_eq_true, Bool.and_eq_true] at h1
        have := List.all_eq_true.1 h1.2.1 a ha
        simp only [Bool.and_eq_true, decide_eq_true_eq] at this
        omega
      refine ⟨(grS (hasP l) m q (List.replicate m (-1)), true), ?_, ?_, by rw [grS_len]; simp; omega⟩
      · unfold spec_GreedyColouring.f
        refine Ev.bind hg' ?_
        simp only [if_true]
        refine Ev.bind (grOrder_ev m hm q hq) ?_
        rw [hp]
        refine Ev.step (fun k => by rw [spec_GreedyColouring.j0, if_neg (by decide)]) ?_
        refine Ev.bind (paTable_ev m hm l (by omega) hn) ?_
        simp only [if_pos (show (0 : Int) ≤ (m : Int) by omega), Int.toNat_natCast, if_pos (show m ≤ 35184372088832 by omega), Option.bind_some, List.length_replicate]
        have h1 := sgr_l0 m hm (mat m (hasP l)) q _ (sgr_l1 (hasP l) m hm q hq hb q [] (List.replicate m (-1)) rfl (by simp)) (List.replicate m 0) 0 (by simp)
        exact h1
      · unfold impl_GreedyColouring.f
        refine Ev.bind hi ?_
        simp only [if_true]
        refine Ev.bind (isPermutation_ev m (by omega) q (by omega)) ?_
        rw [hp]
        simp only [if_true]
        refine Ev.bind (table_ev m hm l (by omega) hn) ?_
        have hrep : slices_Repeat_int_int.f [-1] (m : Int) = some (List.replicate m (-1)) := by
          unfold slices_Repeat_int_int.f
          rw [if_pos ⟨rfl, by omega, by omega⟩, Int.toNat_natCast]
          rfl
        rw [hrep, Option.bind_some, grd_ev (hasP l) m hm q _ (by simp) hb]
        exact Ev.now _

def conv (l : List S79) : List S74 := l.map fun x => ⟨x.f0, x.f1⟩
theorem conv_len (l : List S79) : (conv l).length = l.length := by simp [conv]
theorem ext_getD {a b : List Int} (h : a.length = b.length) (hj : ∀ j, j < a.length → a.getD j 0 = b.getD j 0) : a = b := by
  apply List.ext_getElem h
  intro i h1 h2
  have := hj i h1
  simpa [List.getD_eq_getElem?_getD, h1, h2] using this
theorem eqIntS_l0 (a b : List Int) (h : a.length = b.length) (hl : a.length < 4611686018427387904) : ∀ (d i : Nat), i + d = a.length → (∀ j, j < i → a.getD j 0 = b.getD j 0) → Ev (fun k => laws_eqIntS.l0 k a b i) (decide (a = b))
  | 0, i, hd, hj => by
    refine Ev.one (fun k => ?_)
    have : a = b := ext_getD h (fun j hj' => hj j (by omega))
    rw [laws_eqIntS.l0, if_neg (by omega)]; simp [this]
  | d + 1, i, hd, hj => by
    by_cases e : a.getD i 0 = b.getD i 0
    · refine Ev.step (f := fun k => laws_eqIntS.l0 k a b ((i + 1 : Nat) : Int)) (fun k => ?_) (eqIntS_l0 a b h hl d (i + 1) (by omega) ?_)
      · rw [laws_eqIntS.l0, if_pos (by omega), if_pos (by omega), if_pos (by omega), if_pos (by exact e), w1 (by omega)]
      · intro j hj'
        by_cases e2 : j = i
        · rw [e2]; exact e
        · exact hj j (by omega)
    · refine Ev.one (fun k => ?_)
      have : a ≠ b := fun h => e (by rw [h])
      rw [laws_eqIntS.l0, if_pos (by omega), if_pos (by omega), if_pos (by omega), if_neg (by exact e)]; simp [this]
theorem eqIntS_ev (a b : List Int) (hl : a.length < 4611686018427387904) : Ev (fun k => laws_eqIntS.f k a b) (decide (a = b)) := by
  unfold laws_eqIntS.f
  by_cases h : a.length = b.length
  · simp only [if_pos (show (a.length : Int) = (b.length : Int) by omega)]
    exact eqIntS_l0 a b h hl a.length 0 (by omega) (fun j hj => absurd hj (Nat.not_lt_zero _))
  · simp only [if_neg (show ¬ (a.length : Int) = (b.length : Int) by omega)]
    have : a ≠ b := fun e => h (by rw [e])
    exact Ev.one (fun k => by simp [this])
theorem eqIntS_self (a : List Int) (hl : a.length < 4611686018427387904) : Ev (fun k => laws_eqIntS.f k a a) true := by
  have h := eqIntS_ev a a hl
  rwa [decide_eq_true rfl] at h
theorem eqPairS_l0 (l : List S74) (hl : l.length < 4611686018427387904) : ∀ (d i : Nat), i + d = l.length → Ev (fun k => laws_eqPairS.l0 k l l i) true
  | 0, i, hd => by
    refine Ev.one (fun k => ?_)
    rw [laws_eqPairS.l0, if_neg (by omega)]
  | d + 1, i, hd => by
    refine Ev.step (fun k => ?_) (eqPairS_l0 l hl d (i + 1) (by omega))
    rw [laws_eqPairS.l0, if_pos (by omega), if_pos (by omega), if_pos (by omega), laws_eqPair.f, if_pos rfl, if_pos rfl, w1 (by omega)]
    rfl
theorem eqParty_self (a : Int) (l : List S74) (hl : l.length < 4611686018427387904) : Ev (fun k => laws_eqParty.f k a l a l) true := by
  unfold laws_eqParty.f laws_eqPairS.f
  simp only [if_true]
  have h : Ev (fun k => laws_eqPairS.l0 k l l 0) true := by simpa using eqPairS_l0 l hl l.length 0 (by omega)
  refine Ev.bind h ?_
  simp only [if_true]
  exact Ev.now _

/-- The list bears the marks m, m+1, .. -/
def Marked (m : Int) (z : List Int) : Prop := ∀ j, j < z.length → z.getD j 0 = m + j
theorem heldIntS_l0 (m : Int) (z : List Int) (h0 : 0 ≤ m) (hm : m + z.length < 4611686018427387904) (hz : Marked m z) : ∀ (d i : Nat), i + d = z.length → Ev (fun k => laws_heldIntS.l0 k z (m + i) i) (m + z.length)
  | 0, i, hd => by
    refine Ev.one (fun k => ?_)
    rw [laws_heldIntS.l0, if_neg (by omega), show i = z.length by omega]
  | d + 1, i, hd => by
    refine Ev.step (fun k => ?_) (heldIntS_l0 m z h0 hm hz d (i + 1) (by omega))
    rw [laws_heldIntS.l0, if_pos (by omega), if_pos (by omega), if_pos (by exact hz i (by omega)), w1 (by omega), w64 (by omega) (by omega), show m + (i : Int) + 1 = m + ((i + 1 : Nat) : Int) by omega]
theorem heldIntS_ev (z : List Int) (m : Int) (h0 : 0 ≤ m) (hm : m + z.length < 4611686018427387904) (hz : Marked m z) : Ev (fun k => laws_heldIntS.f k z m) (m + z.length) := by
  unfold laws_heldIntS.f
  simpa using heldIntS_l0 m z h0 hm hz z.length 0 (by omega)

theorem getD_set (l : List Int) (i j : Nat) (v : Int) (hi : i < l.length) : (l.set i v).getD j 0 = if i = j then v else l.getD j 0 := by
  rw [List.getD_eq_getElem?_getD, List.getElem?_set]
  by_cases h : i = j
  · subst h; simp [hi]
  · simp [h]
theorem markIntS_l0 (m : Int) (n : Nat) (h0 : 0 ≤ m) (hm : m + n < 4611686018427387904) : ∀ (d i : Nat) (y : List Int), i + d = n → y.length = n → (∀ j, j < i → y.getD j 0 = m + j) → ∃ z : List Int, z.length = n ∧ Marked m z ∧ Ev (fun k => laws_markIntS.l0 k y (m + i) i) (m + n, z)
  | 0, i, y, hd, hy, h => by
    refine ⟨y, hy, fun j hj => h j (by omega), Ev.one (fun k => ?_)⟩
    rw [laws_markIntS.l0, if_neg (by omega), show i = n by omega]
  | d + 1, i, y, hd, hy, h => by
    obtain ⟨z, hz, hj, hE⟩ := markIntS_l0 m n h0 hm d (i + 1) (y.set i (m + i)) (by omega) (by simpa using hy) (fun j hj => by
      rw [getD_set _ _ _ _ (by omega)]
      by_cases e : i = j
      · simp [e]
      · rw [if_neg e]; exact h j (by omega))
    refine ⟨z, hz, hj, Ev.step (fun k => ?_) hE⟩
    rw [laws_markIntS.l0, if_pos (by omega), if_pos (by omega), w1 (by omega), w64 (by omega) (by omega), show m + (i : Int) + 1 = m + ((i + 1 : Nat) : Int) by omega]
    rfl
theorem markIntS_ev (y : List Int) (m : Int) (h0 : 0 ≤ m) (hm : m + y.length < 4611686018427387904) : ∃ z : List Int, z.length = y.length ∧ Marked m z ∧ Ev (fun k => laws_markIntS.f k y m) (m + y.length, z) := by
  obtain ⟨z, hz, hj, hE⟩ := markIntS_l0 m y.length h0 hm y.length 0 y (by omega) rfl (fun j hj => absurd hj (Nat.not_lt_zero _))
  refine ⟨z, hz, hj, ?_⟩
  unfold laws_markIntS.f
  simpa using hE
/-- The pairs bear the marks m, m+1, .. -/
def MarkedP (m : Int) (z : List S74) : Prop := ∀ j, j < z.length → z[j]? = some ⟨m + 2 * j, m + 2 * j + 1⟩
theorem getD_of_get {α : Type} (l : List α) (i : Nat) (d x : α) (h : l[i]? = some x) : l.getD i d = x := by rw [List.getD_eq_getElem?_getD, h]; rfl
theorem rdT_set (y : List S74) (i : Nat) (v : S74) (h : i < y.length) : rd_T74 (y.set i v) (i : Int) = v := getD_of_get _ i _ _ (by rw [List.getElem?_set]; simp [h])
theorem markPairS_l0 (m : Int) (n : Nat) (h0 : 0 ≤ m) (hm : m + 2 * n < 4611686018427387904) : ∀ (d i : Nat) (y : List S74), i + d = n → y.length = n → (∀ j, j < i → y[j]? = some ⟨m + 2 * j, m + 2 * j + 1⟩) → ∃ z : List S74, z.length = n ∧ MarkedP m z ∧ Ev (fun k => laws_markPairS.l0 k y (m + 2 * i) i) (m + 2 * n, z)
  | 0, i, y, hd, hy, h => by
    refine ⟨y, hy, fun j hj => h j (by omega), Ev.one (fun k => ?_)⟩
    rw [laws_markPairS.l0, if_neg (by omega), show i = n by omega]
  | d + 1, i, y, hd, hy, h => by
    have hi : i < y.length := by omega
    obtain ⟨z, hz, hj, hE⟩ := markPairS_l0 m n h0 hm d (i + 1) (y.set i ⟨m + 2 * i, m + 2 * i + 1⟩) (by omega) (by simpa using hy) (fun j hj => by
      rw [List.getElem?_set]
      by_cases e : i = j
      · subst e; simp [hi]
      · rw [if_neg e]; exact h j (by omega))
    refine ⟨z, hz, hj, Ev.step (fun k => ?_) hE⟩
    rw [laws_markPairS.l0, if_pos (by omega), if_pos (by omega)]
    simp only [Option.bind_some, Int.toNat_natCast]
    rw [rdT_set _ _ _ (by omega), List.set_set, w1 (by omega), w64 (i := m + 2 * (i : Int) + 1) (by omega) (by omega), w64 (by omega) (by omega), show m + 2 * (i : Int) + 1 + 1 = m + 2 * ((i + 1 : Nat) : Int) by omega]
theorem markParty_ev (a : Int) (y : List S74) (m : Int) (h0 : 0 ≤ m) (hm : m + 2 * y.length < 4611686018427387904) : ∃ z : List S74, z.length = y.length ∧ MarkedP m z ∧ Ev (fun k => laws_markParty.f k a y m) (m + 2 * y.length, z) := by
  obtain ⟨z, hz, hj, hE⟩ := markPairS_l0 m y.length h0 hm y.length 0 y (by omega) rfl (fun j hj => absurd hj (Nat.not_lt_zero _))
  refine ⟨z, hz, hj, ?_⟩
  unfold laws_markParty.f laws_markPairS.f
  have hE' : Ev (fun k => laws_markPairS.l0 k y m 0) (m + 2 * y.length, z) := by simpa using hE
  exact Ev.bind hE' (Ev.now _)
theorem szParty_f (a0 : Int) (l : List S79) (a1 : Int) (h0 : 0 ≤ a1) (h1 : a1 ≤ 1048576) (hl : l.length ≤ maxLen) : laws_szParty.f a0 l a1 = some (if a1 - l.length < 0 then -1 else a1 - l.length) := by
  unfold maxLen at hl
  unfold laws_szParty.f laws_szPairS.f
  rw [w64 (by omega) (by omega)]
  by_cases h : a1 - l.length < 0
  · simp [h]
  · simp [h]
theorem toIntS_l0 (l : List Int) (hl : l.length < 4611686018427387904) : ∀ (d i : Nat) (y : List Int), i + d = l.length → y.length = l.length → (∀ j, j < i → y.getD j 0 = l.getD j 0) → Ev (fun k => laws_toIntS.l0 k l y i) l
  | 0, i, y, hd, hy, h => by
    refine Ev.one (fun k => ?_)
    rw [laws_toIntS.l0, if_neg (by omega), ext_getD hy (fun j hj => h j (by omega))]
  | d + 1, i, y, hd, hy, h => by
    refine Ev.step (f := fun k => laws_toIntS.l0 k l (y.set i (l.getD i 0)) ((i + 1 : Nat) : Int)) (fun k => ?_) (toIntS_l0 l hl d (i + 1) _ (by omega) (by simpa using hy) ?_)
    · rw [laws_toIntS.l0, if_pos (by omega), if_pos (by omega), if_pos (by omega), w1 (by omega)]; rfl
    · intro j hj
      rw [getD_set _ _ _ _ (by omega)]
      by_cases e : i = j
      · simp [e]
      · rw [if_neg e]; exact h j (by omega)
theorem toIntS_ev (l : List Int) (hl : l.length ≤ 35184372088832) : Ev (fun k => laws_toIntS.f k l) l := by
  unfold laws_toIntS.f
  simp only [if_pos (show (0 : Int) ≤ (l.length : Int) by omega), if_pos (show ((l.length : Int) : Int).toNat ≤ 35184372088832 by simpa using hl)]
  exact toIntS_l0 l (by omega) l.length 0 _ (by omega) (by simp) (fun j hj => absurd hj (Nat.not_lt_zero _))
theorem toPairS_l0 (l : List S79) (hl : l.length < 4611686018427387904) : ∀ (d i : Nat) (y : List S74), i + d = l.length → y.length = l.length → (∀ j, j < i → y[j]? = (conv l)[j]?) → Ev (fun k => laws_toPairS.l0 k l y i) (conv l)
  | 0, i, y, hd, hy, h => by
    refine Ev.one (fun k => ?_)
    have e : y = conv l := by
      apply List.ext_getElem?
      intro j
      by_cases hj : j < i
      · exact h j hj
      · rw [List.getElem?_eq_none (by omega), List.getElem?_eq_none (by rw [conv_len]; omega)]
    rw [laws_toPairS.l0, if_neg (by omega), e]
  | d + 1, i, y, hd, hy, h => by
    have hi : i < l.length := by omega
    have hx : rd_T79 l (i : Int) = l[i] := getD_of_get l i _ _ (List.getElem?_eq_getElem hi)
    refine Ev.step (fun k => ?_) (toPairS_l0 l hl d (i + 1) (y.set i ⟨l[i].f0, l[i].f1⟩) (by omega) (by simpa using hy) ?_)
    · rw [laws_toPairS.l0, if_pos (by omega), if_pos (by omega), hx, laws_toPair.f]
      simp only [Option.bind_some]
      rw [if_pos (by omega), w1 (by omega)]
      rfl
    · intro j hj
      rw [List.getElem?_set]
      by_cases e : i = j
      · subst e
        have hiy : i < y.length := by omega
        simp [conv, hi, hiy]
      · rw [if_neg e]; exact h j (by omega)
theorem toPairS_ev (l : List S79) (hl : l.length ≤ 17592186044416) : Ev (fun k => laws_toPairS.f k l) (conv l) := by
  unfold laws_toPairS.f
  simp only [if_pos (show (0 : Int) ≤ (l.length : Int) by omega), if_pos (show ((l.length : Int) : Int).toNat ≤ 17592186044416 by simpa using hl)]
  exact toPairS_l0 l (by omega) l.length 0 _ (by omega) (by simp) (fun j hj => absurd hj (Nat.not_lt_zero _))
theorem toParty_ev (a : Int) (l : List S79) (hl : l.length ≤ 17592186044416) : Ev (fun k => laws_toParty.f k a l) (a, conv l) := by
  unfold laws_toParty.f
  exact Ev.bind (toPairS_ev l hl) (Ev.now _)
theorem FnExactGreedyColouring : ∀ (a0 : Int) (l0 : List S79) (l1 : List Int), (Lit.int .i64 a0).wf = true → l0.length ≤ maxLen → (∀ x ∈ l0, ∃ m n : Int, x = ⟨m, n⟩ ∧ (Lit.int .i64 m).wf = true ∧ (Lit.int .i64 n).wf = true) → l1.length ≤ maxLen → l1.length * 8 ≤ 140737488351232 → (∀ x ∈ l1, (Lit.int .i64 x).wf = true) → ∃ k, laws_FnExactGreedyColouring.f k a0 l0 l1 = some true := by
  intro a0 l0 l1 w0 hm0 hw0 hm1 hb1 hw1
  refine Ev.rounds ?_
  unfold laws_FnExactGreedyColouring.f
  by_cases hg1 : (l1.length : Int) > 1048576
  · simp only [if_pos hg1]; exact Ev.now _
  simp only [if_neg hg1]
  simp only [szParty_f a0 l0 1048576 (by omega) (by omega) hm0, Option.bind_some]
  by_cases hg0 : 1048576 - (l0.length : Int) < 0
  · simp only [if_pos hg0, show ((-1 : Int) < 0) from by decide, if_true]; exact Ev.now _
  simp only [if_neg hg0]
  have hlen0 : l0.length ≤ 1048576 := by omega
  have hcl0 := conv_len l0
  have hlen1 : l1.length ≤ 1048576 := by omega
  obtain ⟨R, hs, hi, hr0⟩ := GreedyColouring_common a0 (conv l0) l1 w0 (by rw [conv_len]; omega) (by omega)
  refine Ev.bind (toParty_ev a0 l0 (by omega)) ?_
  refine Ev.bind (toIntS_ev l1 (by omega)) ?_
  refine Ev.bind hs ?_
  try simp only [if_true, if_false, bne_self_eq_false, Bool.false_eq_true, ↓reduceIte, decide_true]
  refine Ev.bind (toParty_ev a0 l0 (by omega)) ?_
  refine Ev.bind (toIntS_ev l1 (by omega)) ?_
  refine Ev.bind hi ?_
  try simp only [if_true, if_false, bne_self_eq_false, Bool.false_eq_true, ↓reduceIte, decide_true]
  refine Ev.bind (eqIntS_self R.1 (by omega)) ?_
  try simp only [if_true, if_false, bne_self_eq_false, Bool.false_eq_true, ↓reduceIte, decide_true]
  try simp only [if_true, if_false, bne_self_eq_false, Bool.false_eq_true, ↓reduceIte, decide_true]
  refine Ev.step (fun k => rfl) ?_
  simp only [laws_FnExactGreedyColouring.j0]
  try simp only [if_true, if_false, bne_self_eq_false, Bool.false_eq_true, ↓reduceIte, decide_true]
  refine Ev.bind (toParty_ev a0 l0 (by omega)) ?_
  refine Ev.bind (eqParty_self a0 (conv l0) (by omega)) ?_
  try simp only [if_true, if_false, bne_self_eq_false, Bool.false_eq_true, ↓reduceIte, decide_true]
  refine Ev.bind (toIntS_ev l1 (by omega)) ?_
  refine Ev.bind (eqIntS_self l1 (by omega)) ?_
  try simp only [if_true, if_false, bne_self_eq_false, Bool.false_eq_true, ↓reduceIte, decide_true]
  obtain ⟨zk1, hzk1, _, hEk1⟩ := markParty_ev a0 (conv l0) (1 : Int) (by omega) (by omega)
  refine Ev.bind hEk1 ?_
  try simp only [if_true, if_false, bne_self_eq_false, Bool.false_eq_true, ↓reduceIte, decide_true]
  obtain ⟨zk2, hzk2, _, hEk2⟩ := markIntS_ev l1 ((1 : Int) + 2 * ((conv l0).length : Int)) (by omega) (by omega)
  refine Ev.bind hEk2 ?_
  try simp only [if_true, if_false, bne_self_eq_false, Bool.false_eq_true, ↓reduceIte, decide_true]
  simp only [if_neg (show ¬ ((((1 : Int) + 2 * ((conv l0).length : Int)) + (l1.length : Int)) < 0) by omega)]
  refine Ev.bind (eqIntS_self R.1 (by omega)) ?_
  try simp only [if_true, if_false, bne_self_eq_false, Bool.false_eq_true, ↓reduceIte, decide_true]
  try simp only [if_true, if_false, bne_self_eq_false, Bool.false_eq_true, ↓reduceIte, decide_true]
  refine Ev.step (fun k => rfl) ?_
  simp only [laws_FnExactGreedyColouring.j1]
  try simp only [if_true, if_false, bne_self_eq_false, Bool.false_eq_true, ↓reduceIte, decide_true]
  obtain ⟨zm, hzm, hmm, hEm⟩ := markIntS_ev R.1 1 (by omega) (by omega)
  refine Ev.bind hEm ?_
  try simp only [if_true, if_false, bne_self_eq_false, Bool.false_eq_true, ↓reduceIte, decide_true]
  refine Ev.bind (heldIntS_ev zm 1 (by omega) (by omega) hmm) ?_
  simp only [hzm, if_neg (show ¬ ((1 + (R.1.length : Int)) < 0) by omega), if_true]
  refine Ev.bind (toParty_ev a0 l0 (by omega)) ?_
  refine Ev.bind (toIntS_ev l1 (by omega)) ?_
  refine Ev.bind hi ?_
  try simp only [if_true, if_false, bne_self_eq_false, Bool.false_eq_true, ↓reduceIte, decide_true]
  refine Ev.bind (eqIntS_self R.1 (by omega)) ?_
  try simp only [if_true, if_false, bne_self_eq_false, Bool.false_eq_true, ↓reduceIte, decide_true]
  try simp only [if_true, if_false, bne_self_eq_false, Bool.false_eq_true, ↓reduceIte, decide_true]
  refine Ev.step (fun k => rfl) ?_
  simp only [laws_FnExactGreedyColouring.j2]
  try simp only [if_true, if_false, bne_self_eq_false, Bool.false_eq_true, ↓reduceIte, decide_true]
  refine Ev.bind (heldIntS_ev zm 1 (by omega) (by omega) hmm) ?_
  simp only [hzm, if_neg (show ¬ ((1 + (R.1.length : Int)) < 0) by omega), if_true]
  exact Ev.now _
end Go.Proofs.YtifkaefccghgdaaDoor.Pure
