/- The program's AllNumbers returns what the reference's returns, for all arguments (the plain statement behind the walk by hand); no condition. -/
import Derived.Test.YtjipjcdeoajnjaaPx0
import Derived.Test.YtjipjcdeoajnjaaPx1
import Derived.Test.YtjipjcdeoajnjaaPx2
namespace Go.Proofs.Ytjipjcdeoajnjaa.Pure
open Go.RowKit Go.Proofs.Ytjipjcdeoajnjaa.P Go.Proofs.YtjipjcdeoajnjaaW.PrintWords Go.Proofs.YtjipjcdeoajnjaaW.PrintLast
set_option linter.unusedSimpArgs false
set_option linter.unusedVariables false
def allR (R : List Int → Bool) (n : Nat) : Nat → List Int → Int → List (List Int)
  | 0, _, _ => []
  | d + 1, l, most => if l.length = n then (if R l = true then [l] else []) else (List.range (most + 1).toNat).flatMap fun k : Nat => allR R n d (l ++ [(k : Int)]) (k : Int)
/-! the first place where the numbers are too much -/
def capped (k : Nat) (l : List Int) : Int := (l.map fun n => if (k : Int) < n then (k : Int) else n).sum
def mostOf (s : List Int) (k : Nat) : Int := (k : Int) * ((k : Int) - 1) + capped k (s.drop k)
def failFrom (s : List Int) : Nat → Nat → Int
  | 0, _ => 0
  | d + 1, k => if (s.take k).sum > mostOf s k then (k : Int) else failFrom s d (k + 1)
def fallen (l : List Int) : List Int := (l.mergeSort fun x y => decide (x ≤ y)).reverse
def failsR (l : List Int) : Int := failFrom (fallen l) l.length 1
def canR (l : List Int) : Bool := decide (Int.tmod l.sum 2 = 0) && (failsR l == 0)
def allNR (a : Int) : List (List Int) × Bool := if 0 ≤ a ∧ a ≤ 7 then (allR canR a.toNat (a.toNat + 1) [] (a - 1), true) else ([], false)
def fb : Nat → Nat → Nat
  | 0, _ => 1
  | d + 1, m => ((List.range (m + 1)).map (fb d)).sum
theorem sumAll_le {f g : Nat → Nat} : ∀ L : List Nat, (∀ x ∈ L, f x ≤ g x) → (L.map f).sum ≤ (L.map g).sum
  | [], _ => Nat.le_refl _
  | x :: L, h => by
    have h1 := h x (List.mem_cons_self ..)
    have h2 := sumAll_le L fun y hy => h y (List.mem_cons_of_mem _ hy)
    simp only [List.map_cons, List.sum_cons]
    omega
theorem allR_len (R : List Int → Bool) (n : Nat) : ∀ (d : Nat) (l : List Int) (m : Nat), d + l.length = n → (allR R n (d + 1) l (m : Int)).length ≤ fb d m
  | 0, l, m, hd => by
    rw [allR, if_pos (by omega), fb]
    split <;> simp
  | d + 1, l, m, hd => by
    rw [allR, if_neg (by omega), fb, List.length_flatMap, show ((m : Int) + 1).toNat = m + 1 by omega]
    exact sumAll_le _ fun k _ => allR_len R n d (l ++ [(k : Int)]) k (by rw [List.length_append, List.length_singleton]; omega)
theorem allR_mem (R : List Int → Bool) (n : Nat) : ∀ (d : Nat) (l : List Int) (most : Int), ∀ x ∈ allR R n d l most, x.length = n
  | 0, _, _, x, hx => by rw [allR] at hx; cases hx
  | d + 1, l, most, x, hx => by
    rw [allR] at hx
    split at hx
    · split at hx
      · rw [List.mem_singleton.1 hx]; assumption
      · cases hx
    · obtain ⟨k, _, hk⟩ := List.mem_flatMap.1 hx
      exact allR_mem R n d _ _ x hk
theorem allNR_small (a : Int) : (allNR a).1.length ≤ 2000 ∧ ∀ x ∈ (allNR a).1, x.length ≤ 1000 := by
  unfold allNR
  by_cases h : 0 ≤ a ∧ a ≤ 7
  · rw [if_pos h]
    refine ⟨?_, fun x hx => by have := allR_mem _ _ _ _ _ x hx; omega⟩
    obtain ⟨n, rfl⟩ := Int.eq_ofNat_of_zero_le h.1
    rw [Int.toNat_natCast]
    have hb : ∀ n : Fin 8, fb n.val (n.val - 1) ≤ 2000 := by decide
    by_cases h0 : n = 0
    · subst h0
      rw [allR, if_pos (by simp)]
      split <;> simp
    · have := allR_len canR n n [] (n - 1) (by simp)
      rw [show ((n - 1 : Nat) : Int) = (n : Int) - 1 by omega] at this
      exact Nat.le_trans this (hb ⟨n, by omega⟩)
  · rw [if_neg h]
    exact ⟨Nat.zero_le _, fun x hx => by cases hx⟩
theorem Ev.one {α : Type} {g : Nat → Option α} {r : α} (h : ∀ k, g (k + 1) = some r) : Ev g r := Ev.step h (Ev.now r)
theorem ext_getD {a b : List Int} (h : a.length = b.length) (hj : ∀ j, j < a.length → a.getD j 0 = b.getD j 0) : a = b := by
  apply List.ext_getElem h
  intro i h1 h2
  have := hj i h1
  simpa [List.getD_eq_getElem?_getD, h1, h2] using this
theorem w1 {n : Nat} (h : n < 4611686018427387904) : wrap64 ((n : Int) + 1) = ((n + 1 : Nat) : Int) := by unfold wrap64; omega
theorem eqIntS_l0 (a b : List Int) (h : a.length = b.length) (hl : a.length < 4611686018427387904) : ∀ (d i : Nat), i + d = a.length → (∀ j, j < i → a.getD j 0 = b.getD j 0) → Ev (fun k => laws_eqIntS.l0 k a b i) (decide (a = b))
  | 0, i, hd, hj => by
    refine Ev.one (fun k => ?_)
    have : a = b := ext_getD h (fun j hj' => hj j (by omega))
    rw [laws_eqIntS.l0, if_neg (by omega)]; simp [this]
  | d + 1, i, hd, hj => by
    by_cases e : a.getD i 0 = b.getD i 0
    · refine Ev.step (f := fun k => laws_eqIntS.l0 k a b ((i + 1 : Nat) : Int)) (fun k => ?_) (eqIntS_l0 a b h hl d (i + 1) (by omega) ?_)
      · rw [laws_eqIntS.l0, if_pos (by omega), if_pos (by omega), if_pos (by omega), if_pos (by exact e), w1 (by omega)]
      · intro j hj'
        by_cases e2 : j = i
        · rw [e2]; exact e
        · exact hj j (by omega)
    · refine Ev.one (fun k => ?_)
      have : a ≠ b := fun h => e (by rw [h])
      rw [laws_eqIntS.l0, if_pos (by omega), if_pos (by omega), if_pos (by omega), if_neg (by exact e)]; simp [this]
theorem eqIntS_ev (a b : List Int) (hl : a.length < 4611686018427387904) : Ev (fun k => laws_eqIntS.f k a b) (decide (a = b)) := by
  unfold laws_eqIntS.f
  by_cases h : a.length = b.length
  · simp only [if_pos (show (a.length : Int) = (b.length : Int) by omega)]
    exact eqIntS_l0 a b h hl a.length 0 (by omega) (fun j hj => absurd hj (Nat.not_lt_zero _))
  · simp only [if_neg (show ¬ (a.length : Int) = (b.length : Int) by omega)]
    have : a ≠ b := fun e => h (by rw [e])
    exact Ev.one (fun k => by simp [this])
theorem eqIntS_self (a : List Int) (hl : a.length < 4611686018427387904) : Ev (fun k => laws_eqIntS.f k a a) true := by
  have h := eqIntS_ev a a hl
  rwa [decide_eq_true rfl] at h
theorem rdL_mid (pre rest : List (List Int)) (x : List Int) : rd_L1 (pre ++ x :: rest) (pre.length : Int) = x := by
  show (pre ++ x :: rest).getD _ [] = x
  simp [List.getD_eq_getElem?_getD]
def smallSS (L : List (List Int)) : Prop := L.length ≤ 100000 ∧ ∀ x ∈ L, x.length ≤ 1000
theorem eqIntSS_l0 (L : List (List Int)) (h : smallSS L) : ∀ (rest pre : List (List Int)), L = pre ++ rest → Ev (fun k => laws_eqIntSS.l0 k L L (pre.length : Int)) true
  | [], pre, e => by
    have e2 : L.length = pre.length := by rw [e]; simp
    refine Ev.one fun k => ?_
    rw [laws_eqIntSS.l0, if_neg (by omega)]
  | x :: rest, pre, e => by
    have e2 : L.length = pre.length + (rest.length + 1) := by rw [e]; simp
    have hx : rd_L1 L (pre.length : Int) = x := by rw [e]; exact rdL_mid pre rest x
    have hl := h.1
    have hxl := h.2 x (by rw [e]; simp)
    have ih := eqIntSS_l0 L h rest (pre ++ [x]) (by rw [e]; simp)
    rw [List.length_append, List.length_singleton] at ih
    refine Ev.step (f := fun k => (laws_eqIntS.f k x x).bind fun t => if t = true then laws_eqIntSS.l0 k L L ((pre.length + 1 : Nat) : Int) else some false) (fun k => ?_) (Ev.bind (eqIntS_self x (by omega)) ?_)
    · rw [laws_eqIntSS.l0, if_pos (by omega), if_pos (by omega), if_pos (by omega), hx, w1 (by omega)]
    · simp only [if_true]; exact ih
theorem eqIntSS_self (L : List (List Int)) (h : smallSS L) : Ev (fun k => laws_eqIntSS.f k L L) true := by
  unfold laws_eqIntSS.f
  simp only [if_true]
  exact eqIntSS_l0 L h L [] rfl
theorem alkL_ev {α : Type} (g : Nat → Nat → Option (List α)) (G : Nat → List α) : ∀ M : Nat, (∀ j, j < M → Ev (fun k => g k j) (G j)) → Ev (fun k => alkL (g k) M) ((List.range M).flatMap G)
  | 0, _ => Ev.now _
  | M + 1, h => by
    have e : (List.range (M + 1)).flatMap G = (List.range M).flatMap G ++ G M := by rw [List.range_succ, List.flatMap_append]; simp
    rw [e]
    refine Ev.bind (g := fun k => alkL (g k) M) (alkL_ev g G M fun j hj => h j (by omega)) ?_
    exact Ev.bind (h M (by omega)) (Ev.now _)
def inAll (l : List Int) (lo hi : Int) : Bool := l.all fun n => decide (lo ≤ n) && decide (n ≤ hi)
def isNums (l : List Int) : Bool := decide (l.length ≤ 12) && inAll l 0 ((l.length : Int) - 1)
theorem alkO_ev (can : Nat → List Int → Option Bool) (R : List Int → Bool) (n : Nat) (hn : n ≤ 7) (hc : ∀ l, isNums l = true → Ev (fun k => can k l) (R l)) : ∀ (d : Nat) (l : List Int) (most : Int), d + l.length = n + 1 → l.length ≤ n → (∀ x ∈ l, 0 ≤ x ∧ x ≤ (n : Int) - 1) → most ≤ (n : Int) - 1 → Ev (fun k => alkO (can k) n d l most) (allR R n d l most)
  | 0, l, most, hd, hl, hx, hm => absurd hd (by omega)
  | d + 1, l, most, hd, hl, hx, hm => by
    unfold alkO allR
    by_cases h : l.length = n
    · simp only [if_pos h]
      have hN : isNums l = true := by
        unfold isNums inAll
        simp only [Bool.and_eq_true, decide_eq_true_eq, List.all_eq_true]
        exact ⟨by omega, fun x hx1 => by have := hx x hx1; omega⟩
      exact Ev.bind (hc l hN) (Ev.now _)
    · simp only [if_neg h]
      refine alkL_ev _ _ _ fun j hj => ?_
      exact alkO_ev can R n hn hc d (l ++ [(j : Int)]) (j : Int) (by rw [List.length_append, List.length_singleton]; omega) (by rw [List.length_append, List.length_singleton]; omega) (fun x hx1 => by
        rcases List.mem_append.1 hx1 with h1 | h1
        · exact hx x h1
        · rw [List.mem_singleton.1 h1]; omega) (by omega)
theorem allF_ev (can : Nat → List Int → Option Bool) (hc : ∀ l, isNums l = true → Ev (fun k => can k l) (canR l)) (a : Int) (h : 0 ≤ a ∧ a ≤ 7) : Ev (fun k => allF (can k) a) (allNR a) := by
  have hs := (allNR_small a).1
  unfold allF
  unfold allNR at hs ⊢
  rw [if_pos h] at hs ⊢
  simp only [if_pos h]
  refine Ev.bind (alkO_ev can canR a.toNat (by omega) hc (a.toNat + 1) [] (a - 1) (by simp) (by simp) (fun x hx => by cases hx) (by omega)) ?_
  simp only at hs
  rw [if_pos (by omega)]
  exact Ev.now _
theorem fallen_perm (l : List Int) : (fallen l).Perm l := (List.reverse_perm _).trans (List.mergeSort_perm _ _)
theorem fallen_len (l : List Int) : (fallen l).length = l.length := (fallen_perm l).length_eq
theorem isNums_bounds {l : List Int} (h : isNums l = true) : l.length ≤ 12 ∧ ∀ x ∈ l, 0 ≤ x ∧ x ≤ 12 := by
  unfold isNums inAll at h
  simp at h
  exact ⟨h.1, fun x hx => by have := h.2 x hx; omega⟩
/-! sums -/
def small (l : List Int) : Prop := l.length ≤ 12 ∧ ∀ x ∈ l, 0 ≤ x ∧ x ≤ 12
theorem fallen_small {l : List Int} (h : isNums l = true) : small (fallen l) := by
  have hb := isNums_bounds h
  exact ⟨by rw [fallen_len]; exact hb.1, fun x hx => hb.2 x ((fallen_perm l).mem_iff.1 hx)⟩
theorem getD_set (l : List Int) (i j : Nat) (v : Int) (hi : i < l.length) : (l.set i v).getD j 0 = if i = j then v else l.getD j 0 := by
  rw [List.getD_eq_getElem?_getD, List.getElem?_set]
  by_cases h : i = j
  · subst h; simp [hi]
  · simp [h]
theorem w64 {i : Int} (h0 : -9223372036854775808 ≤ i) (h : i ≤ 9223372036854775807) : wrap64 i = i := by unfold wrap64; omega
theorem rev_l0 (l : List Int) (hl : l.length < 4611686018427387904) : ∀ (d i : Nat) (y : List Int), 2 * i + d = l.length + 1 → y.length = l.length → (∀ j, j < l.length → y.getD j 0 = if j < i ∨ l.length ≤ j + i then l.getD (l.length - 1 - j) 0 else l.getD j 0) → Ev (fun k => slices_Reverse_int_int.l0 k y i ((l.length : Int) - 1 - i)) l.reverse
  | 0, i, y, hd, hy, h => by
    refine Ev.one (fun k => ?_)
    rw [slices_Reverse_int_int.l0, if_neg (by omega)]
    congr 1
    apply ext_getD (by simp [hy])
    intro j hj
    have hj' : j < l.length := by omega
    rw [h j hj', if_pos (by omega), List.getD_eq_getElem?_getD, List.getD_eq_getElem?_getD, List.getElem?_reverse hj']
  | 1, i, y, hd, hy, h => by
    refine Ev.one (fun k => ?_)
    rw [slices_Reverse_int_int.l0, if_neg (by omega)]
    congr 1
    apply ext_getD (by simp [hy])
    intro j hj
    have hj' : j < l.length := by omega
    rw [h j hj', List.getD_eq_getElem?_getD, List.getD_eq_getElem?_getD, List.getD_eq_getElem?_getD, List.getElem?_reverse hj']
    split
    · rfl
    · rw [show l.length - 1 - j = j by omega]
  | d + 2, i, y, hd, hy, h => by
    by_cases hlt : (i : Int) < (l.length : Int) - 1 - i
    · refine Ev.step (f := fun k => slices_Reverse_int_int.l0 k ((y.set i (rd y ((l.length : Int) - 1 - i))).set (l.length - 1 - i) (rd y (i : Int))) ((i + 1 : Nat) : Int) ((l.length : Int) - 1 - ((i + 1 : Nat) : Int))) (fun k => ?_) (rev_l0 l hl d (i + 1) _ (by omega) (by simpa using hy) ?_)
      · rw [slices_Reverse_int_int.l0, if_pos hlt, if_pos (by omega), if_pos (by omega), if_pos (by omega), if_pos (by omega), w1 (by omega), w64 (by omega) (by omega), show ((l.length : Int) - 1 - (i : Int)).toNat = l.length - 1 - i by omega, Int.toNat_natCast, show (l.length : Int) - 1 - (i : Int) - 1 = (l.length : Int) - 1 - ((i + 1 : Nat) : Int) by omega]
      · intro j hj
        have e1 : rd y ((l.length : Int) - 1 - i) = l.getD (l.length - 1 - i) 0 := by
          show y.getD ((l.length : Int) - 1 - i).toNat 0 = _
          rw [show ((l.length : Int) - 1 - (i : Int)).toNat = l.length - 1 - i by omega, h _ (by omega), if_neg (by omega)]
        have e2 : rd y (i : Int) = l.getD i 0 := by
          show y.getD (i : Int).toNat 0 = _
          rw [Int.toNat_natCast, h _ (by omega), if_neg (by omega)]
        rw [getD_set _ _ _ _ (by simp; omega), getD_set _ _ _ _ (by omega), e1, e2, h j hj]
        by_cases c1 : l.length - 1 - i = j
        · rw [if_pos c1, if_pos (by omega), show l.length - 1 - j = i by omega]
        · rw [if_neg c1]
          by_cases c2 : i = j
          · rw [if_pos c2, if_pos (by omega), c2]
          · rw [if_neg c2]
            by_cases c3 : j < i ∨ l.length ≤ j + i
            · rw [if_pos c3, if_pos (by omega)]
            · rw [if_neg c3, if_neg (by omega)]
    · refine Ev.one (fun k => ?_)
      rw [slices_Reverse_int_int.l0, if_neg hlt]
      congr 1
      apply ext_getD (by simp [hy])
      intro j hj
      have hj' : j < l.length := by omega
      rw [h j hj', List.getD_eq_getElem?_getD, List.getD_eq_getElem?_getD, List.getD_eq_getElem?_getD, List.getElem?_reverse hj']
      split
      · rfl
      · rw [show l.length - 1 - j = j by omega]
theorem rev_ev (l : List Int) (hl : l.length < 4611686018427387904) : Ev (fun k => slices_Reverse_int_int.f k l) l.reverse := by
  unfold slices_Reverse_int_int.f
  have := rev_l0 l hl (l.length + 1) 0 l (by omega) rfl (fun j hj => by rw [if_neg (by omega)])
  rw [w64 (by omega) (by omega)]
  simpa using this
theorem falling_ev (l : List Int) (hl : l.length ≤ 1048576) : Ev (fun k => impl_falling.f k l) (fallen l) := by
  unfold impl_falling.f fallen
  simp only [if_pos (show l.length ≤ 17592186044416 by omega)]
  exact rev_ev _ (by rw [List.length_mergeSort]; omega)
theorem capped_le (k : Nat) (hk : k ≤ 12) : ∀ (l : List Int), (∀ x ∈ l, 0 ≤ x ∧ x ≤ 12) → 0 ≤ capped k l ∧ capped k l ≤ 12 * l.length
  | [], _ => by simp [capped]
  | x :: l, h => by
    have h1 := h x (by simp)
    have h2 := capped_le k hk l (fun y hy => h y (by simp [hy]))
    have e : capped k (x :: l) = (if (k : Int) < x then (k : Int) else x) + capped k l := by simp [capped]
    rw [e, List.length_cons]
    split <;> omega
theorem capped_snoc (k : Nat) (l : List Int) (x : Int) : capped k (l ++ [x]) = capped k l + (if (k : Int) < x then (k : Int) else x) := by simp [capped, List.sum_append_int]
theorem mn_if (a b : Int) : mn a b = if a < b then a else b := by unfold mn; split <;> split <;> omega
theorem rd_mid (pre rest : List Int) (x : Int) : rd (pre ++ x :: rest) (pre.length : Int) = x := by
  unfold rd
  simp [List.getD_eq_getElem?_getD]
theorem square_le (k : Nat) (hk : k ≤ 12) : 0 ≤ (k : Int) * ((k : Int) - 1) ∧ (k : Int) * ((k : Int) - 1) ≤ 132 := by
  have : k = 0 ∨ k = 1 ∨ k = 2 ∨ k = 3 ∨ k = 4 ∨ k = 5 ∨ k = 6 ∨ k = 7 ∨ k = 8 ∨ k = 9 ∨ k = 10 ∨ k = 11 ∨ k = 12 := by omega
  rcases this with rfl | rfl | rfl | rfl | rfl | rfl | rfl | rfl | rfl | rfl | rfl | rfl | rfl <;> decide
theorem implFails_l1 (s : List Int) (hs : small s) (k0 : Nat) (h1 : 1 ≤ k0) (hk0 : k0 ≤ s.length) (R : Int) (tail : List Int) (ht : tail.length ≤ 12) (htb : ∀ x ∈ tail, 0 ≤ x ∧ x ≤ 12)
    (hE : Ev (fun k => (impl_sum.f k (s.take k0)).bind fun t => if t > (k0 : Int) * ((k0 : Int) - 1) + capped k0 tail then some (k0 : Int) else impl_failsAt.l0 k s ((k0 + 1 : Nat) : Int)) R) :
    ∀ (rest pre : List Int), tail = pre ++ rest → Ev (fun k => impl_failsAt.l1 k s (k0 : Int) ((k0 : Int) * ((k0 : Int) - 1) + capped k0 pre) tail (tail.length : Int) (pre.length : Int)) R
  | [], pre, e => by
    have el : tail.length = pre.length := by rw [e]; simp
    have hl := hs.1
    refine Ev.step (fun k => ?_) hE
    rw [impl_failsAt.l1, if_neg (by omega), if_pos (by omega), if_pos (by omega), Int.toNat_natCast, w1 (by omega), e, List.append_nil]
  | x :: rest, pre, e => by
    have el : pre.length < tail.length := by rw [e]; simp
    have hx : rd tail (pre.length : Int) = x := by rw [e]; exact rd_mid pre _ x
    have hxb := htb x (by rw [e]; simp)
    have hl := hs.1
    have hp := capped_le k0 (by omega) pre (fun y hy => htb y (by rw [e]; simp [hy]))
    have hq := square_le k0 (by omega)
    have ih := implFails_l1 s hs k0 h1 hk0 R tail ht htb hE rest (pre ++ [x]) (by rw [e]; simp)
    rw [List.length_append, List.length_singleton, capped_snoc] at ih
    refine Ev.step (fun k => ?_) ih
    rw [impl_failsAt.l1, if_pos (by omega), if_pos (by omega), if_pos (by omega), hx, w1 (by omega), mn_if, w64 (by split <;> omega) (by split <;> omega), Int.add_assoc]
theorem sum_le : ∀ (l : List Int), (∀ x ∈ l, 0 ≤ x ∧ x ≤ 12) → 0 ≤ l.sum ∧ l.sum ≤ 12 * l.length
  | [], _ => by simp
  | x :: l, h => by
    have h1 := h x (by simp)
    have h2 := sum_le l (fun y hy => h y (by simp [hy]))
    simp only [List.sum_cons, List.length_cons]
    omega
theorem implSum_l0 (l : List Int) (hs : small l) : ∀ (rest pre : List Int), l = pre ++ rest → Ev (fun k => impl_sum.l0 k pre.sum l (l.length : Int) (pre.length : Int)) l.sum
  | [], pre, e => by
    have el : l.length = pre.length := by rw [e]; simp
    refine Ev.one (fun k => ?_)
    rw [impl_sum.l0, if_neg (by omega), e]; simp
  | x :: rest, pre, e => by
    have el : pre.length < l.length := by rw [e]; simp
    have hx : rd l (pre.length : Int) = x := by rw [e]; exact rd_mid pre _ x
    have hl := hs.1
    have hxb := hs.2 x (by rw [e]; simp)
    have hp := sum_le pre (fun y hy => hs.2 y (by rw [e]; simp [hy]))
    have ih := implSum_l0 l hs rest (pre ++ [x]) (by rw [e]; simp)
    rw [List.length_append, List.length_singleton, List.sum_append_int] at ih
    simp only [List.sum_cons, List.sum_nil, Int.add_zero] at ih
    refine Ev.step (fun k => ?_) ih
    rw [impl_sum.l0, if_pos (by omega), if_pos (by omega), if_pos (by omega), hx, w1 (by omega), w64 (by omega) (by omega)]
theorem implSum_ev (l : List Int) (hs : small l) : Ev (fun k => impl_sum.f k l) l.sum := implSum_l0 l hs l [] rfl
theorem implFails_l0 (s : List Int) (hs : small s) : ∀ (d k0 : Nat), d + k0 = s.length + 1 → 1 ≤ k0 → Ev (fun k => impl_failsAt.l0 k s (k0 : Int)) (failFrom s d k0)
  | 0, k0, hd, h1 => by
    refine Ev.one (fun k => ?_)
    rw [impl_failsAt.l0, if_neg (by omega)]; rfl
  | d + 1, k0, hd, h1 => by
    have hl := hs.1
    have hq := square_le k0 (by omega)
    have ih := implFails_l0 s hs d (k0 + 1) (by omega) (by omega)
    have ht : small (s.take k0) := ⟨by rw [List.length_take]; omega, fun x hx => hs.2 x (List.mem_of_mem_take hx)⟩
    have hE : Ev (fun k => (impl_sum.f k (s.take k0)).bind fun t => if t > (k0 : Int) * ((k0 : Int) - 1) + capped k0 (s.drop k0) then some (k0 : Int) else impl_failsAt.l0 k s ((k0 + 1 : Nat) : Int)) (failFrom s (d + 1) k0) := by
      refine Ev.bind (implSum_ev _ ht) ?_
      unfold failFrom mostOf
      by_cases c : (s.take k0).sum > (k0 : Int) * ((k0 : Int) - 1) + capped k0 (s.drop k0)
      · simp only [if_pos c]; exact Ev.now _
      · simp only [if_neg c]; exact ih
    have h2 := implFails_l1 s hs k0 h1 (by omega) _ (s.drop k0) (by rw [List.length_drop]; omega) (fun x hx => hs.2 x (List.mem_of_mem_drop hx)) hE (s.drop k0) [] rfl
    refine Ev.step (fun k => ?_) h2
    rw [impl_failsAt.l0, if_pos (by omega), if_pos (by omega), Int.toNat_natCast]
    simp only [Option.bind_some]
    rw [w64 (i := (k0 : Int) - 1) (by omega) (by omega), w64 (by omega) (by omega)]
    simp [capped]
theorem failsAt_ev (l : List Int) (h : isNums l = true) : Ev (fun k => impl_failsAt.f k l) (failsR l) := by
  unfold impl_failsAt.f failsR
  have hb := isNums_bounds h
  refine Ev.bind (falling_ev l (by omega)) ?_
  exact implFails_l0 (fallen l) (fallen_small h) l.length 1 (by rw [fallen_len]) (by omega)
theorem canBe_ev (l : List Int) (h : isNums l = true) : Ev (fun k => impl_canBe.f k l) (canR l) := by
  unfold impl_canBe.f canR
  refine Ev.bind (implSum_ev l (isNums_bounds h)) ?_
  by_cases c : Int.tmod l.sum 2 = 0
  · simp only [if_pos c, c, decide_true, Bool.true_and]
    exact Ev.bind (failsAt_ev l h) (Ev.now _)
  · simp only [if_neg c, c, decide_false, Bool.false_and]; exact Ev.now _
theorem within_f (a lo hi : Int) : impl_within.f a lo hi = some (decide (lo ≤ a) && decide (a ≤ hi)) := by
  unfold impl_within.f
  by_cases h : lo ≤ a
  · rw [if_pos h]; simp [h]
  · rw [if_neg h]; simp [h]
theorem implAll_ev (a : Int) : Ev (fun k => impl_AllNumbers.f k a) (allNR a) := by
  unfold impl_AllNumbers.f
  simp only [within_f, Option.bind_some]
  by_cases h : 0 ≤ a ∧ a ≤ 7
  · simp only [h.1, h.2, decide_true, Bool.and_self, if_true]
    exact allF_ev _ (fun l hl => canBe_ev l hl) a h
  · have hq : ¬ (decide (0 ≤ a) && decide (a ≤ 7)) = true := by simp only [Bool.and_eq_true, decide_eq_true_eq]; exact h
    simp only [if_neg hq]
    unfold allNR
    rw [if_neg h]
    exact Ev.now _

/-- The list bears the marks m, m+1, .. -/
def Marked (m : Int) (z : List Int) : Prop := ∀ j, j < z.length → z.getD j 0 = m + j
inductive MarkedSS : Nat → List (List Int) → Prop
  | nil (m : Nat) : MarkedSS m []
  | cons (m : Nat) (z : List Int) (Z : List (List Int)) : Marked (m : Int) z → MarkedSS (m + z.length) Z → MarkedSS m (z :: Z)
theorem heldIntS_l0 (m : Int) (z : List Int) (h0 : 0 ≤ m) (hm : m + z.length < 4611686018427387904) (hz : Marked m z) : ∀ (d i : Nat), i + d = z.length → Ev (fun k => laws_heldIntS.l0 k z (m + i) i) (m + z.length)
  | 0, i, hd => by
    refine Ev.one (fun k => ?_)
    rw [laws_heldIntS.l0, if_neg (by omega), show i = z.length by omega]
  | d + 1, i, hd => by
    refine Ev.step (fun k => ?_) (heldIntS_l0 m z h0 hm hz d (i + 1) (by omega))
    rw [laws_heldIntS.l0, if_pos (by omega), if_pos (by omega), if_pos (by exact hz i (by omega)), w1 (by omega), w64 (by omega) (by omega), show m + (i : Int) + 1 = m + ((i + 1 : Nat) : Int) by omega]
theorem heldIntS_ev (z : List Int) (m : Int) (h0 : 0 ≤ m) (hm : m + z.length < 4611686018427387904) (hz : Marked m z) : Ev (fun k => laws_heldIntS.f k z m) (m + z.length) := by
  unfold laws_heldIntS.f
  simpa using heldIntS_l0 m z h0 hm hz z.length 0 (by omega)

def sumLen : List (List Int) → Nat
  | [] => 0
  | x :: l => x.length + sumLen l
theorem heldSS_l0 (L : List (List Int)) (hb : L.length < 4611686018427387904) : ∀ (rest pre : List (List Int)) (m : Nat), L = pre ++ rest → MarkedSS m rest → m + sumLen rest < 4611686018427387904 → Ev (fun k => laws_heldIntSS.l0 k L (m : Int) (pre.length : Int)) ((m + sumLen rest : Nat) : Int)
  | [], pre, m, e, _, _ => by
    have e2 : L.length = pre.length := by rw [e]; simp
    refine Ev.one fun k => ?_
    rw [laws_heldIntSS.l0, if_neg (by omega)]; rfl
  | x :: rest, pre, m, e, hM, hs => by
    have e2 : L.length = pre.length + (rest.length + 1) := by rw [e]; simp
    have hx : rd_L1 L (pre.length : Int) = x := by rw [e]; exact rdL_mid pre rest x
    rw [sumLen] at hs
    cases hM with
    | cons _ _ _ hm hr =>
      have ih := heldSS_l0 L hb rest (pre ++ [x]) (m + x.length) (by rw [e]; simp) hr (by omega)
      rw [List.length_append, List.length_singleton] at ih
      have eN : (m : Int) + (x.length : Int) = ((m + x.length : Nat) : Int) := by omega
      have hh := heldIntS_ev x (m : Int) (by omega) (by omega) hm
      rw [eN] at hh
      refine Ev.step (f := fun k => (laws_heldIntS.f k x (m : Int)).bind fun t => if t < 0 then some (-1) else laws_heldIntSS.l0 k L t ((pre.length + 1 : Nat) : Int)) (fun k => ?_) (Ev.bind hh ?_)
      · rw [laws_heldIntSS.l0, if_pos (by omega), if_pos (by omega), hx, w1 (by omega)]
      · simp only [if_neg (show ¬ (((m + x.length : Nat) : Int) < 0) by omega)]
        rw [sumLen, ← Nat.add_assoc]; exact ih
theorem markIntS_l0 (m : Int) (n : Nat) (h0 : 0 ≤ m) (hm : m + n < 4611686018427387904) : ∀ (d i : Nat) (y : List Int), i + d = n → y.length = n → (∀ j, j < i → y.getD j 0 = m + j) → ∃ z : List Int, z.length = n ∧ Marked m z ∧ Ev (fun k => laws_markIntS.l0 k y (m + i) i) (m + n, z)
  | 0, i, y, hd, hy, h => by
    refine ⟨y, hy, fun j hj => h j (by omega), Ev.one (fun k => ?_)⟩
    rw [laws_markIntS.l0, if_neg (by omega), show i = n by omega]
  | d + 1, i, y, hd, hy, h => by
    obtain ⟨z, hz, hj, hE⟩ := markIntS_l0 m n h0 hm d (i + 1) (y.set i (m + i)) (by omega) (by simpa using hy) (fun j hj => by
      rw [getD_set _ _ _ _ (by omega)]
      by_cases e : i = j
      · simp [e]
      · rw [if_neg e]; exact h j (by omega))
    refine ⟨z, hz, hj, Ev.step (fun k => ?_) hE⟩
    rw [laws_markIntS.l0, if_pos (by omega), if_pos (by omega), w1 (by omega), w64 (by omega) (by omega), show m + (i : Int) + 1 = m + ((i + 1 : Nat) : Int) by omega]
    rfl
theorem markIntS_ev (y : List Int) (m : Int) (h0 : 0 ≤ m) (hm : m + y.length < 4611686018427387904) : ∃ z : List Int, z.length = y.length ∧ Marked m z ∧ Ev (fun k => laws_markIntS.f k y m) (m + y.length, z) := by
  obtain ⟨z, hz, hj, hE⟩ := markIntS_l0 m y.length h0 hm y.length 0 y (by omega) rfl (fun j hj => absurd hj (Nat.not_lt_zero _))
  refine ⟨z, hz, hj, ?_⟩
  unfold laws_markIntS.f
  simpa using hE
theorem markSS_go : ∀ (L : List (List Int)) (m : Nat), m + sumLen L < 4611686018427387904 → ∃ Z : List (List Int), Z.length = L.length ∧ sumLen Z = sumLen L ∧ MarkedSS m Z ∧ Ev (fun k => laws_markIntSS.go k L (m : Int)) (((m + sumLen L : Nat) : Int), Z)
  | [], m, h => ⟨[], rfl, rfl, .nil m, Ev.now _⟩
  | x :: L, m, h => by
    rw [sumLen] at h
    obtain ⟨z, hz, hm, hE⟩ := markIntS_ev x (m : Int) (by omega) (by omega)
    obtain ⟨Z, h1, h2, h3, h4⟩ := markSS_go L (m + x.length) (by omega)
    refine ⟨z :: Z, by rw [List.length_cons, List.length_cons, h1], by rw [sumLen, sumLen, hz, h2], .cons m z Z hm (by rw [hz]; exact h3), ?_⟩
    unfold laws_markIntSS.go
    refine Ev.bind hE ?_
    have e : (m : Int) + (x.length : Int) = ((m + x.length : Nat) : Int) := by omega
    simp only [e]
    refine Ev.bind h4 ?_
    rw [sumLen, ← Nat.add_assoc]
    exact Ev.now _
theorem sumLen_le : ∀ (L : List (List Int)) (b : Nat), (∀ x ∈ L, x.length ≤ b) → sumLen L ≤ L.length * b
  | [], b, h => by simp [sumLen]
  | x :: l, b, h => by
    have h1 := h x (List.mem_cons_self ..)
    have h2 := sumLen_le l b (fun y hy => h y (List.mem_cons_of_mem _ hy))
    rw [sumLen, List.length_cons, Nat.succ_mul]; omega
theorem markIntSS_ev (L : List (List Int)) (h : smallSS L) : ∃ (Z : List (List Int)) (m : Int), 0 ≤ m ∧ Ev (fun k => laws_markIntSS.f k L 1) (m, Z) ∧ Ev (fun k => laws_heldIntSS.f k Z 1) m := by
  have hs := sumLen_le L 1000 h.2
  have hl := h.1
  have hs2 : sumLen L ≤ 100000000 := Nat.le_trans hs (by have := Nat.mul_le_mul_right 1000 hl; omega)
  obtain ⟨Z, h1, h2, h3, h4⟩ := markSS_go L 1 (by omega)
  refine ⟨Z, ((1 + sumLen L : Nat) : Int), by omega, ?_, ?_⟩
  · unfold laws_markIntSS.f
    simp only [if_pos (show L.length ≤ 1000000000 by omega)]
    exact h4
  · unfold laws_heldIntSS.f
    have := heldSS_l0 Z (by omega) Z [] 1 rfl h3 (by rw [h2]; omega)
    rw [h2] at this
    exact this

theorem least_f (a b : Int) : spec_l1Least.f a b = some (if a < b then a else b) := by unfold spec_l1Least.f; split <;> rfl
theorem deFails_l1 (s : List Int) (hs : small s) (k0 : Nat) (h1 : 1 ≤ k0) (hk0 : k0 ≤ s.length) (sum R : Int) (tail : List Int) (ht : tail.length ≤ 12) (htb : ∀ x ∈ tail, 0 ≤ x ∧ x ≤ 12)
    (hE : Ev (fun k => if sum > (k0 : Int) * ((k0 : Int) - 1) + capped k0 tail then some (k0 : Int) else spec_deFails.l0 k s sum ((k0 + 1 : Nat) : Int)) R) :
    ∀ (rest pre : List Int), tail = pre ++ rest → Ev (fun k => spec_deFails.l1 k s sum (k0 : Int) ((k0 : Int) * ((k0 : Int) - 1) + capped k0 pre) tail (tail.length : Int) (pre.length : Int)) R
  | [], pre, e => by
    have el : tail.length = pre.length := by rw [e]; simp
    have hl := hs.1
    refine Ev.step (fun k => ?_) hE
    rw [spec_deFails.l1, if_neg (by omega), w1 (by omega), e, List.append_nil]
  | x :: rest, pre, e => by
    have el : pre.length < tail.length := by rw [e]; simp
    have hx : rd tail (pre.length : Int) = x := by rw [e]; exact rd_mid pre _ x
    have hxb := htb x (by rw [e]; simp)
    have hl := hs.1
    have hp := capped_le k0 (by omega) pre (fun y hy => htb y (by rw [e]; simp [hy]))
    have hq := square_le k0 (by omega)
    have ih := deFails_l1 s hs k0 h1 hk0 sum R tail ht htb hE rest (pre ++ [x]) (by rw [e]; simp)
    rw [List.length_append, List.length_singleton, capped_snoc] at ih
    refine Ev.step (fun k => ?_) ih
    rw [spec_deFails.l1, if_pos (by omega), if_pos (by omega), if_pos (by omega), hx, w1 (by omega), least_f]
    simp only [Option.bind_some]
    rw [w64 (by split <;> omega) (by split <;> omega), Int.add_assoc]
theorem getD_get (l : List Int) (i : Nat) (h : i < l.length) : l.getD i 0 = l[i] := by simp [List.getD_eq_getElem?_getD, h]
theorem deFails_l0 (s : List Int) (hs : small s) : ∀ (d k0 : Nat), d + k0 = s.length + 1 → 1 ≤ k0 → Ev (fun k => spec_deFails.l0 k s (s.take (k0 - 1)).sum (k0 : Int)) (failFrom s d k0)
  | 0, k0, hd, h1 => by
    refine Ev.one (fun k => ?_)
    rw [spec_deFails.l0, if_neg (by omega)]; rfl
  | d + 1, k0, hd, h1 => by
    have hl := hs.1
    have hq := square_le k0 (by omega)
    have hlt : k0 - 1 < s.length := by omega
    have ih := deFails_l0 s hs d (k0 + 1) (by omega) (by omega)
    rw [Nat.add_sub_cancel] at ih
    have hsp := sum_le (s.take (k0 - 1)) (fun x hx => hs.2 x (List.mem_of_mem_take hx))
    have hspl : (s.take (k0 - 1)).length ≤ 12 := by rw [List.length_take]; omega
    have hx : rd s ((k0 : Int) - 1) = s[k0 - 1] := by
      show s.getD ((k0 : Int) - 1).toNat 0 = _
      rw [show ((k0 : Int) - 1).toNat = k0 - 1 by omega]
      exact getD_get s (k0 - 1) hlt
    have hxb := hs.2 _ (List.getElem_mem hlt)
    have hsum : (s.take k0).sum = (s.take (k0 - 1)).sum + s[k0 - 1] := by
      have h3 := List.take_succ_eq_append_getElem hlt
      rw [Nat.sub_add_cancel h1] at h3
      rw [h3, List.sum_append_int]
      simp
    have hE : Ev (fun k => if (s.take k0).sum > (k0 : Int) * ((k0 : Int) - 1) + capped k0 (s.drop k0) then some (k0 : Int) else spec_deFails.l0 k s (s.take k0).sum ((k0 + 1 : Nat) : Int)) (failFrom s (d + 1) k0) := by
      unfold failFrom mostOf
      by_cases c : (s.take k0).sum > (k0 : Int) * ((k0 : Int) - 1) + capped k0 (s.drop k0)
      · simp only [if_pos c]; exact Ev.now _
      · simp only [if_neg c]; exact ih
    have h2 := deFails_l1 s hs k0 h1 (by omega) _ _ (s.drop k0) (by rw [List.length_drop]; omega) (fun x hx => hs.2 x (List.mem_of_mem_drop hx)) hE (s.drop k0) [] rfl
    refine Ev.step (fun k => ?_) h2
    rw [spec_deFails.l0, w64 (i := (k0 : Int) - 1) (by omega) (by omega), if_pos (by omega), if_pos (by omega), if_pos (by omega), if_pos (by omega), Int.toNat_natCast]
    simp only [Option.bind_some]
    rw [hx, w64 (i := (k0 : Int) * ((k0 : Int) - 1)) (by omega) (by omega), w64 (by omega) (by omega), ← hsum]
    simp [capped]
theorem Ev.cast {α : Type} {g : Nat → Option α} {a b : α} (h : Ev g a) (e : a = b) : Ev g b := e ▸ h
theorem deSorted_l1 (l : List Int) (hl : l.length ≤ 12) (x : Nat) (hx : x ≤ 12) (R : List Int) : ∀ (rest pre acc : List Int), l = pre ++ rest → acc.length ≤ 13 * 13 + pre.length → Ev (fun k => spec_deSorted.l0 k l (acc ++ rest.filter fun y => decide ((x : Int) = y)) ((x : Int) - 1)) R → Ev (fun k => spec_deSorted.l1 k l acc (x : Int) l (l.length : Int) (pre.length : Int)) R
  | [], pre, acc, e, hacc, hE => by
    have el : l.length = pre.length := by rw [e]; simp
    refine Ev.step (fun k => ?_) hE
    rw [spec_deSorted.l1, if_neg (by omega), w64 (by omega) (by omega)]
    simp
  | y :: rest, pre, acc, e, hacc, hE => by
    have el : pre.length < l.length := by rw [e]; simp
    have hy : rd l (pre.length : Int) = y := by rw [e]; exact rd_mid pre _ y
    have e' : l = (pre ++ [y]) ++ rest := by rw [e]; simp
    by_cases h : (x : Int) = y
    · have ih := deSorted_l1 l hl x hx R rest (pre ++ [y]) (acc ++ [(x : Int)]) e' (by simp; omega) (by simpa [List.filter_cons, h] using hE)
      rw [List.length_append, List.length_singleton] at ih
      refine Ev.step (fun k => ?_) ih
      rw [spec_deSorted.l1, if_pos (by omega), if_pos (by omega), if_pos (by omega), hy, if_pos h, if_pos (by omega), w1 (by omega)]
    · have ih := deSorted_l1 l hl x hx R rest (pre ++ [y]) acc e' (by simp; omega) (by simpa [List.filter_cons, h] using hE)
      rw [List.length_append, List.length_singleton] at ih
      refine Ev.step (fun k => ?_) ih
      rw [spec_deSorted.l1, if_pos (by omega), if_pos (by omega), if_pos (by omega), hy, if_neg h, w1 (by omega)]
/-- the numbers x, x - 1, .., 0 of a list, each as often as it is there -/
def downs (l : List Int) : Nat → List Int
  | 0 => l.filter fun y => decide ((0 : Int) = y)
  | x + 1 => (l.filter fun y => decide (((x + 1 : Nat) : Int) = y)) ++ downs l x
theorem deSorted_l0 (l : List Int) (hl : l.length ≤ 12) : ∀ (x : Nat) (acc : List Int), x ≤ 12 → acc.length ≤ 13 * (12 - x) → Ev (fun k => spec_deSorted.l0 k l acc (x : Int)) (acc ++ downs l x)
  | 0, acc, hx, hacc => by
    have h1 := deSorted_l1 l hl 0 hx (acc ++ downs l 0) l [] acc rfl (by simp; omega) (by
      refine Ev.one (fun k => ?_)
      rw [spec_deSorted.l0, if_neg (by omega)]
      rfl)
    refine Ev.step (fun k => ?_) h1
    rw [spec_deSorted.l0, if_pos (by omega)]
    rfl
  | x + 1, acc, hx, hacc => by
    have hf : (l.filter fun y => decide (((x + 1 : Nat) : Int) = y)).length ≤ 12 := Nat.le_trans (List.length_filter_le _ _) hl
    have h1 := deSorted_l1 l hl (x + 1) hx (acc ++ downs l (x + 1)) l [] acc rfl (by simp; omega) (by
      have h0 := deSorted_l0 l hl x (acc ++ l.filter fun y => decide (((x + 1 : Nat) : Int) = y)) (by omega) (by rw [List.length_append]; omega)
      rw [show ((x + 1 : Nat) : Int) - 1 = (x : Int) by omega]
      refine Ev.cast h0 ?_
      rw [downs, List.append_assoc])
    refine Ev.step (fun k => ?_) h1
    rw [spec_deSorted.l0, if_pos (by omega)]
    rfl
theorem filter_split (p q r : Int → Bool) : ∀ (l : List Int), (∀ y, r y = (p y || q y)) → (∀ y, p y = true → q y = false) → (l.filter p ++ l.filter q).Perm (l.filter r)
  | [], _, _ => List.Perm.refl _
  | y :: l, h, hd => by
    have ih := filter_split p q r l h hd
    cases hp : p y with
    | true =>
      have hq := hd y hp
      have hr : r y = true := by rw [h, hp]; rfl
      simp only [List.filter_cons, hp, hq, hr, if_true, Bool.false_eq_true, if_false, List.cons_append]
      exact ih.cons y
    | false =>
      cases hq : q y with
      | true =>
        have hr : r y = true := by rw [h, hp, hq]; rfl
        simp only [List.filter_cons, hp, hq, hr, if_true, Bool.false_eq_true, if_false]
        exact List.perm_middle.trans (ih.cons y)
      | false =>
        have hr : r y = false := by rw [h, hp, hq]; rfl
        simp only [List.filter_cons, hp, hq, hr, Bool.false_eq_true, if_false]
        exact ih
theorem downs_perm (l : List Int) : ∀ (x : Nat), (downs l x).Perm (l.filter fun y => decide (0 ≤ y) && decide (y ≤ (x : Int)))
  | 0 => by
    have : (l.filter fun y => decide (0 ≤ y) && decide (y ≤ ((0 : Nat) : Int))) = downs l 0 := by
      unfold downs
      apply List.filter_congr
      intro y _
      by_cases h : (0 : Int) = y
      · simp [← h]
      · simp [h]; omega
    rw [this]
  | x + 1 => by
    rw [downs]
    refine (List.Perm.append_left _ (downs_perm l x)).trans (filter_split _ _ _ l (fun y => ?_) (fun y hy => ?_))
    · rw [Bool.eq_iff_iff]; simp; omega
    · simp at hy; simp; omega
theorem downs_mem (l : List Int) : ∀ (x : Nat) (y : Int), y ∈ downs l x → y ∈ l ∧ 0 ≤ y ∧ y ≤ x
  | 0, y, h => by
    simp only [downs, List.mem_filter, decide_eq_true_eq] at h
    exact ⟨h.1, by omega, by omega⟩
  | x + 1, y, h => by
    simp only [downs, List.mem_append, List.mem_filter, decide_eq_true_eq] at h
    rcases h with ⟨h1, h2⟩ | h
    · exact ⟨h1, by omega, by omega⟩
    · have := downs_mem l x y h
      exact ⟨this.1, this.2.1, by omega⟩
theorem pairwise_const (c : Int) : ∀ (l : List Int), (∀ y ∈ l, c = y) → l.Pairwise (fun a b => b ≤ a)
  | [], _ => List.Pairwise.nil
  | x :: xs, h => List.Pairwise.cons (fun y hy => by have h1 := h x (by simp); have h2 := h y (by simp [hy]); omega) (pairwise_const c xs (fun y hy => h y (by simp [hy])))
theorem downs_sorted (l : List Int) : ∀ (x : Nat), (downs l x).Pairwise (fun a b => b ≤ a)
  | 0 => pairwise_const 0 _ (fun y hy => by simp [downs] at hy; exact hy.2)
  | x + 1 => by
    rw [downs, List.pairwise_append]
    refine ⟨pairwise_const ((x + 1 : Nat) : Int) _ (fun y hy => by simp only [List.mem_filter, decide_eq_true_eq] at hy; exact hy.2), downs_sorted l x, fun a ha b hb => ?_⟩
    simp only [List.mem_filter, decide_eq_true_eq] at ha
    have := downs_mem l x b hb
    omega
theorem fallen_sorted (l : List Int) : (fallen l).Pairwise (fun a b => b ≤ a) := by
  unfold fallen
  rw [List.pairwise_reverse]
  have := List.pairwise_mergeSort (le := fun x y : Int => decide (x ≤ y)) (fun a b c h1 h2 => by rw [decide_eq_true_eq] at *; omega) (fun a b => by rw [Bool.or_eq_true, decide_eq_true_eq, decide_eq_true_eq]; omega) l
  exact this.imp (fun h => by simpa using h)
theorem downs_fallen (l : List Int) (x : Nat) (h : ∀ y ∈ l, 0 ≤ y ∧ y ≤ x) : downs l x = fallen l := by
  refine List.Perm.eq_of_pairwise (le := fun a b : Int => b ≤ a) (fun a b _ _ h1 h2 => by omega) (downs_sorted l x) (fallen_sorted l) ?_
  refine (downs_perm l x).trans ?_
  rw [List.filter_eq_self.2 (fun y hy => by have := h y hy; simp; omega)]
  exact (fallen_perm l).symm
theorem isNums_upto {l : List Int} (h : isNums l = true) : ∀ x ∈ l, 0 ≤ x ∧ x ≤ l.length := by
  unfold isNums inAll at h
  simp at h
  exact fun x hx => by have := h.2 x hx; omega
theorem deSorted_ev (l : List Int) (h : isNums l = true) : Ev (fun k => spec_deSorted.f k l) (fallen l) := by
  unfold spec_deSorted.f
  have hb := isNums_bounds h
  have := deSorted_l0 l hb.1 l.length [] hb.1 (by simp)
  rw [List.nil_append, downs_fallen l l.length (isNums_upto h)] at this
  exact this
theorem deFails_ev (l : List Int) (h : isNums l = true) : Ev (fun k => spec_deFails.f k l) (failsR l) := by
  unfold spec_deFails.f failsR
  refine Ev.bind (deSorted_ev l h) ?_
  exact deFails_l0 (fallen l) (fallen_small h) l.length 1 (by rw [fallen_len]) (by omega)
theorem deSum_l0 (l : List Int) (hs : small l) : ∀ (rest pre : List Int), l = pre ++ rest → Ev (fun k => spec_deSum.l0 k pre.sum l (l.length : Int) (pre.length : Int)) l.sum
  | [], pre, e => by
    have el : l.length = pre.length := by rw [e]; simp
    refine Ev.one (fun k => ?_)
    rw [spec_deSum.l0, if_neg (by omega), e]; simp
  | x :: rest, pre, e => by
    have el : pre.length < l.length := by rw [e]; simp
    have hx : rd l (pre.length : Int) = x := by rw [e]; exact rd_mid pre _ x
    have hl := hs.1
    have hxb := hs.2 x (by rw [e]; simp)
    have hp := sum_le pre (fun y hy => hs.2 y (by rw [e]; simp [hy]))
    have ih := deSum_l0 l hs rest (pre ++ [x]) (by rw [e]; simp)
    rw [List.length_append, List.length_singleton, List.sum_append_int] at ih
    simp only [List.sum_cons, List.sum_nil, Int.add_zero] at ih
    refine Ev.step (fun k => ?_) ih
    rw [spec_deSum.l0, if_pos (by omega), if_pos (by omega), if_pos (by omega), hx, w1 (by omega), w64 (by omega) (by omega)]
theorem deSum_ev (l : List Int) (hs : small l) : Ev (fun k => spec_deSum.f k l) l.sum := deSum_l0 l hs l [] rfl
theorem deCan_ev (l : List Int) (h : isNums l = true) : Ev (fun k => spec_deCan.f k l) (canR l) := by
  unfold spec_deCan.f canR
  refine Ev.bind (deSum_ev l (isNums_bounds h)) ?_
  by_cases c : Int.tmod l.sum 2 = 0
  · simp only [if_pos c, c, decide_true, Bool.true_and]
    exact Ev.bind (deFails_ev l h) (Ev.now _)
  · simp only [if_neg c, c, decide_false, Bool.false_and]; exact Ev.now _
theorem l1In_f (a lo hi : Int) : spec_l1In.f a lo hi = some (decide (lo ≤ a) && decide (a ≤ hi)) := by
  unfold spec_l1In.f
  by_cases h : lo ≤ a
  · rw [if_pos h]; simp [h]
  · rw [if_neg h]; simp [h]
theorem specAll_ev (a : Int) : Ev (fun k => spec_AllNumbers.f k a) (allNR a) := by
  unfold spec_AllNumbers.f
  simp only [l1In_f, Option.bind_some]
  by_cases h : 0 ≤ a ∧ a ≤ 7
  · simp only [h.1, h.2, decide_true, Bool.and_self, if_true]
    exact allF_ev _ (fun l hl => deCan_ev l hl) a h
  · have hq : ¬ (decide (0 ≤ a) && decide (a ≤ 7)) = true := by simp only [Bool.and_eq_true, decide_eq_true_eq]; exact h
    simp only [if_neg hq]
    unfold allNR
    rw [if_neg h]
    exact Ev.now _
theorem FnExactAllNumbers : laws_FnExactAllNumbers.Pure := by
  intro a0 w0
  refine Ev.rounds ?_
  unfold laws_FnExactAllNumbers.f
  have hs := allNR_small a0
  have hr : smallSS (allNR a0).1 := ⟨by omega, hs.2⟩
  obtain ⟨Z, m, hm, hEm, hEh⟩ := markIntSS_ev (allNR a0).1 hr
  refine Ev.bind (specAll_ev a0) ?_
  refine Ev.bind (implAll_ev a0) ?_
  refine Ev.bind (eqIntSS_self (allNR a0).1 hr) ?_
  refine Ev.bind hEm ?_
  refine Ev.bind hEh ?_
  simp only [hm, true_and, and_self, if_true]
  exact Ev.now _
end Go.Proofs.Ytjipjcdeoajnjaa.Pure
