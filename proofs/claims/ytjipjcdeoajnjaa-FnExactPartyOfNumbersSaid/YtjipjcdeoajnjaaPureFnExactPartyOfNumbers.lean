/- The program's PartyOfNumbers returns what the reference's returns, for all arguments (the plain statement behind the printed walk); no condition. -/
import Derived.Lib.TrailingZeros
import Derived.Test.YtjipjcdeoajnjaaPx0
import Derived.Test.YtjipjcdeoajnjaaPx1
import Derived.Test.YtjipjcdeoajnjaaPx2
import Derived.Test.YtjipjcdeoajnjaaPx3
namespace Go.Proofs.Ytjipjcdeoajnjaa.Pure
open Go.RowKit Go.Proofs.Ytjipjcdeoajnjaa.P Go.Proofs.YtjipjcdeoajnjaaW.PrintWords Go.Proofs.YtjipjcdeoajnjaaW.PrintLast
set_option linter.unusedSimpArgs false
set_option linter.unusedVariables false
def gF (x : Int × Nat) : Int := if x.2 = 0 then x.1 else if x.2 = 2 then - x.1 else 0
def gS (x : Int × Nat) : Int := if x.2 = 0 then 1 else 0
def gT (x : Int × Nat) : Int := if x.2 = 1 then 1 else 0
def sumI {α : Type} (f : α → Int) : List α → Int
  | [] => 0
  | x :: L => f x + sumI f L
/-- Numbers for which no choice of some and of others is too much (Erdős and Gallai). -/
def EGc (D : List Int) : Prop := ∀ L : List (Int × Nat), L.map (·.1) = D → (∀ x ∈ L, x.2 < 3) → sumI gF L ≤ sumI gS L * (sumI gS L - 1 + sumI gT L)
theorem sumI_add {α : Type} (f g : α → Int) : ∀ L : List α, sumI (fun x => f x + g x) L = sumI f L + sumI g L
  | [] => rfl
  | x :: L => by rw [sumI, sumI, sumI, sumI_add f g L]; omega
theorem sumI_app {α : Type} (f : α → Int) : ∀ a b : List α, sumI f (a ++ b) = sumI f a + sumI f b
  | [], b => by simp [sumI]
  | x :: a, b => by rw [List.cons_append, sumI, sumI, sumI_app f a b]; omega
theorem sumI_le {α : Type} (f g : α → Int) : ∀ L : List α, (∀ x ∈ L, f x ≤ g x) → sumI f L ≤ sumI g L
  | [], _ => Int.le_refl _
  | x :: L, h => by
    have := sumI_le f g L (fun y hy => h y (List.mem_cons_of_mem _ hy))
    have := h x (List.mem_cons_self ..)
    rw [sumI, sumI]; omega
theorem sumI_map {α β : Type} (f : β → Int) (g : α → β) : ∀ L : List α, sumI f (L.map g) = sumI (fun x => f (g x)) L
  | [] => rfl
  | x :: L => by rw [List.map_cons, sumI, sumI, sumI_map f g L]
theorem sumI_mul {α : Type} (c : Int) (f : α → Int) : ∀ L : List α, sumI (fun x => c * f x) L = c * sumI f L
  | [] => by simp [sumI]
  | x :: L => by rw [sumI, sumI, sumI_mul c f L, Int.mul_add]
theorem sumI_zero {α : Type} : ∀ L : List α, sumI (fun _ => (0 : Int)) L = 0
  | [] => rfl
  | x :: L => by rw [sumI, sumI_zero L]; rfl
theorem top_sum (h : Int → Int) : ∀ (s : List Int), s.Pairwise (fun a b => h b ≤ h a) → ∀ L : List (Int × Nat), L.map (·.1) = s → ∀ k : Nat, sumI gS L = (k : Int) → k ≤ s.length ∧ sumI (fun x => if x.2 = 0 then h x.1 else 0) L ≤ sumI h (s.take k)
  | [], _, L, hL, k, hk => by
    cases L with
    | nil =>
      simp only [sumI] at hk
      obtain rfl : k = 0 := by omega
      exact ⟨Nat.le_refl _, Int.le_refl _⟩
    | cons y L => simp at hL
  | y :: s, hs, L, hL, k, hk => by
    cases L with
    | nil => simp at hL
    | cons x L =>
      simp only [List.map_cons, List.cons.injEq] at hL
      obtain ⟨rfl, hL⟩ := hL
      obtain ⟨h1, h2⟩ := List.pairwise_cons.1 hs
      rw [sumI] at hk
      by_cases hx : x.2 = 0
      · have e : gS x = 1 := by unfold gS; rw [if_pos hx]
        rw [e] at hk
        have hnn : 0 ≤ sumI gS L := by
          have := sumI_le (fun _ => 0) gS L (fun x _ => by unfold gS; split <;> decide)
          rw [sumI_zero] at this; exact this
        obtain ⟨j, rfl⟩ : ∃ j, k = j + 1 := ⟨k - 1, by omega⟩
        obtain ⟨h3, h4⟩ := top_sum h s h2 L hL j (by omega)
        refine ⟨by simpa using h3, ?_⟩
        rw [sumI, if_pos hx, List.take_succ_cons, sumI]
        omega
      · have e : gS x = 0 := by unfold gS; rw [if_neg hx]
        rw [e] at hk
        obtain ⟨h3, h4⟩ := top_sum h s h2 L hL k (by omega)
        refine ⟨by simp; omega, ?_⟩
        rw [sumI, if_neg hx]
        have : sumI h (s.take k) ≤ sumI h ((x.1 :: s).take k) := by
          cases k with
          | zero => simp [sumI]
          | succ j =>
            have hj : j < s.length := by omega
            rw [List.take_succ_cons, sumI, List.take_succ_eq_append_getElem hj, sumI_app, sumI, sumI]
            have := h1 s[j] (List.getElem_mem _)
            omega
        omega
theorem EGc_of_check (s : List Int) (hs : s.Pairwise (fun a b => b ≤ a)) (h0 : ∀ x ∈ s, 0 ≤ x) (hc : ∀ k : Nat, 1 ≤ k → k ≤ s.length → sumI (fun x => x) (s.take k) ≤ (k : Int) * ((k : Int) - 1) + sumI (fun x => if (k : Int) ≤ x then (k : Int) else x) (s.drop k)) : EGc s := by
  intro L hL ho
  have hnn : 0 ≤ sumI gS L := by
    have := sumI_le (fun _ => 0) gS L (fun x _ => by unfold gS; split <;> decide)
    rw [sumI_zero] at this; exact this
  obtain ⟨k, hk⟩ := Int.eq_ofNat_of_zero_le hnn
  have hk : sumI gS L = (k : Int) := hk
  obtain ⟨m, hm⟩ : ∃ m : Int → Int, m = fun x => if (k : Int) ≤ x then (k : Int) else x := ⟨_, rfl⟩
  have hmm : ∀ x, m x ≤ x ∧ m x ≤ (k : Int) := fun x => by rw [hm]; dsimp only; split <;> omega
  obtain ⟨hkl, ht⟩ := top_sum (fun x => x + m x) s (hs.imp fun h => by rw [hm]; dsimp only; split <;> split <;> omega) L hL k hk
  have hmem : ∀ x ∈ L, 0 ≤ x.1 := fun x hx => h0 x.1 (by rw [← hL]; exact List.mem_map.2 ⟨x, hx, rfl⟩)
  have hF : sumI gF L ≤ sumI (fun x => ((if x.2 = 0 then x.1 + m x.1 else 0) + (-1) * m x.1) + (k : Int) * gT x) L := sumI_le _ _ L fun x hx => by
    have := ho x hx
    have := hmm x.1
    unfold gF gT
    rcases (by omega : x.2 = 0 ∨ x.2 = 1 ∨ x.2 = 2) with h | h | h <;> simp [h] <;> omega
  rw [sumI_add, sumI_add, sumI_mul, sumI_mul] at hF
  have hM : sumI (fun x : Int × Nat => m x.1) L = sumI m s := by rw [← hL, sumI_map]
  have hsp : sumI m s = sumI m (s.take k) + sumI m (s.drop k) := by rw [← sumI_app, List.take_append_drop]
  rw [sumI_add] at ht
  have hck : sumI (fun x => x) (s.take k) ≤ (k : Int) * ((k : Int) - 1) + sumI m (s.drop k) := by
    by_cases h1 : 1 ≤ k
    · have := hc k h1 hkl
      rw [hm]; exact this
    · obtain rfl : k = 0 := by omega
      have : 0 ≤ sumI m (s.drop 0) := by
        have := sumI_le (fun _ => 0) m (s.drop 0) (fun x hx => by
          have := h0 x (List.mem_of_mem_drop hx)
          rw [hm]; dsimp only; split <;> omega)
        rw [sumI_zero] at this; exact this
      simp [sumI] at this ⊢
      exact this
  rw [hk, Int.mul_add]
  rw [hM] at hF
  omega

def EGs (D : List Int) : Prop := EGc D ∧ (∀ x ∈ D, 0 ≤ x) ∧ ∃ e : Int, sumI (fun x => x) D = 2 * e
theorem EGc_perm {D D' : List Int} (hp : D.Perm D') (h : EGc D) : EGc D' := by
  have lift : ∀ {D D' : List Int}, D.Perm D' → ∀ L : List (Int × Nat), L.map (·.1) = D' → ∃ L' : List (Int × Nat), L'.map (·.1) = D ∧ L'.Perm L := by
    intro D D' hp
    induction hp with
    | nil => intro L hL; exact ⟨L, hL, List.Perm.refl _⟩
    | cons x hp ih =>
      intro L hL
      cases L with
      | nil => simp at hL
      | cons y L =>
        simp only [List.map_cons, List.cons.injEq] at hL
        obtain ⟨L', h1, h2⟩ := ih L hL.2
        exact ⟨y :: L', by simp [hL.1, h1], h2.cons y⟩
    | swap x y l =>
      intro L hL
      match L, hL with
      | a :: b :: L, hL =>
        simp only [List.map_cons, List.cons.injEq] at hL
        exact ⟨b :: a :: L, by simp [hL.1, hL.2.1, hL.2.2], List.Perm.swap _ _ _⟩
    | trans h1 h2 ih1 ih2 =>
      intro L hL
      obtain ⟨L1, h3, h4⟩ := ih2 L hL
      obtain ⟨L2, h5, h6⟩ := ih1 L1 h3
      exact ⟨L2, h5, h6.trans h4⟩
  have sp : ∀ (f : Int × Nat → Int) {a b : List (Int × Nat)}, a.Perm b → sumI f a = sumI f b := by
    intro f a b hp
    induction hp with
    | nil => rfl
    | cons x hp ih => rw [sumI, sumI, ih]
    | swap x y l => rw [sumI, sumI, sumI, sumI]; omega
    | trans h1 h2 ih1 ih2 => rw [ih1, ih2]
  intro L hL ho
  obtain ⟨L', h1, h2⟩ := lift hp L hL
  have := h L' h1 (fun x hx => ho x (h2.mem_iff.1 hx))
  rw [sp _ h2, sp _ h2, sp _ h2] at this
  exact this
theorem sumI_perm {D D' : List Int} (hp : D.Perm D') : sumI (fun x => x) D = sumI (fun x => x) D' := by
  induction hp with
  | nil => rfl
  | cons x _ ih => rw [sumI, sumI, ih]
  | swap x y l => simp only [sumI]; omega
  | trans _ _ h1 h2 => exact h1.trans h2
theorem EGs_perm {D D' : List Int} (hp : D.Perm D') (h : EGs D) : EGs D' := by
  obtain ⟨h1, h2, e, h3⟩ := h
  exact ⟨EGc_perm hp h1, fun x hx => h2 x (hp.mem_iff.2 hx), e, by rw [← sumI_perm hp]; exact h3⟩
/-! the first place where the numbers are too much -/
def capped (k : Nat) (l : List Int) : Int := (l.map fun n => if (k : Int) < n then (k : Int) else n).sum
def mostOf (s : List Int) (k : Nat) : Int := (k : Int) * ((k : Int) - 1) + capped k (s.drop k)
def failFrom (s : List Int) : Nat → Nat → Int
  | 0, _ => 0
  | d + 1, k => if (s.take k).sum > mostOf s k then (k : Int) else failFrom s d (k + 1)
def fallen (l : List Int) : List Int := (l.mergeSort fun x y => decide (x ≤ y)).reverse
def failsR (l : List Int) : Int := failFrom (fallen l) l.length 1
def canR (l : List Int) : Bool := decide (Int.tmod l.sum 2 = 0) && (failsR l == 0)
theorem capped_sumI (k : Nat) : ∀ l : List Int, capped k l = sumI (fun x => if (k : Int) ≤ x then (k : Int) else x) l
  | [] => rfl
  | x :: l => by
    have ih := capped_sumI k l
    unfold capped at *
    rw [List.map_cons, List.sum_cons, sumI, ih]
    congr 1
    split <;> split <;> omega
theorem failFrom_zero (s : List Int) : ∀ (d k : Nat), failFrom s d k = 0 → 1 ≤ k → ∀ j, k ≤ j → j < k + d → (s.take j).sum ≤ mostOf s j
  | 0, k, _, _, j, h1, h2 => by omega
  | d + 1, k, h, hk, j, h1, h2 => by
    rw [failFrom] at h
    by_cases c : (s.take k).sum > mostOf s k
    · rw [if_pos c] at h; omega
    · rw [if_neg c] at h
      by_cases e : j = k
      · rw [e]; omega
      · exact failFrom_zero s d (k + 1) h (by omega) j (by omega) (by omega)
theorem fallen_perm (l : List Int) : (fallen l).Perm l := (List.reverse_perm _).trans (List.mergeSort_perm _ _)
theorem fallen_len (l : List Int) : (fallen l).length = l.length := (fallen_perm l).length_eq
theorem fallen_sorted (l : List Int) : (fallen l).Pairwise (fun a b => b ≤ a) := by
  unfold fallen
  rw [List.pairwise_reverse]
  have := List.pairwise_mergeSort (le := fun x y : Int => decide (x ≤ y)) (fun a b c h1 h2 => by rw [decide_eq_true_eq] at *; omega) (fun a b => by rw [Bool.or_eq_true, decide_eq_true_eq, decide_eq_true_eq]; omega) l
  exact this.imp (fun h => by simpa using h)
def inAll (l : List Int) (lo hi : Int) : Bool := l.all fun n => decide (lo ≤ n) && decide (n ≤ hi)
def isNums (l : List Int) : Bool := decide (l.length ≤ 12) && inAll l 0 ((l.length : Int) - 1)
theorem isNums_bounds {l : List Int} (h : isNums l = true) : l.length ≤ 12 ∧ ∀ x ∈ l, 0 ≤ x ∧ x ≤ 12 := by
  unfold isNums inAll at h
  simp at h
  exact ⟨h.1, fun x hx => by have := h.2 x hx; omega⟩
theorem sum_le : ∀ (l : List Int), (∀ x ∈ l, 0 ≤ x ∧ x ≤ 12) → 0 ≤ l.sum ∧ l.sum ≤ 12 * l.length
  | [], _ => by simp
  | x :: l, h => by
    have h1 := h x (by simp)
    have h2 := sum_le l (fun y hy => h y (by simp [hy]))
    simp only [List.sum_cons, List.length_cons]
    omega
theorem sum_sumI : ∀ l : List Int, l.sum = sumI (fun x => x) l
  | [] => rfl
  | x :: l => by rw [List.sum_cons, sumI, sum_sumI l]
theorem EGs_of_can (l : List Int) (h : isNums l = true) (hc : canR l = true) : EGs l := by
  have hb := isNums_bounds h
  unfold canR failsR at hc
  rw [Bool.and_eq_true, decide_eq_true_eq, beq_iff_eq] at hc
  have hp := fallen_perm l
  refine EGs_perm hp ⟨EGc_of_check (fallen l) (fallen_sorted l) (fun x hx => (hb.2 x (hp.mem_iff.1 hx)).1) fun k hk1 hk2 => ?_, fun x hx => (hb.2 x (hp.mem_iff.1 hx)).1, ?_⟩
  · have := failFrom_zero (fallen l) l.length 1 hc.2 (Nat.le_refl _) k hk1 (by rw [fallen_len] at hk2; omega)
    unfold mostOf at this
    rw [sum_sumI, capped_sumI] at this
    exact this
  · refine ⟨l.sum / 2, ?_⟩
    rw [sumI_perm hp, ← sum_sumI]
    have := hc.1
    have h2 := Int.tmod_eq_emod_of_nonneg (a := l.sum) (b := 2) (sum_le l (fun x hx => hb.2 x hx)).1
    omega
/-! sums -/
def small (l : List Int) : Prop := l.length ≤ 12 ∧ ∀ x ∈ l, 0 ≤ x ∧ x ≤ 12
theorem fallen_small {l : List Int} (h : isNums l = true) : small (fallen l) := by
  have hb := isNums_bounds h
  exact ⟨by rw [fallen_len]; exact hb.1, fun x hx => hb.2 x ((fallen_perm l).mem_iff.1 hx)⟩
theorem Ev.one {α : Type} {g : Nat → Option α} {r : α} (h : ∀ k, g (k + 1) = some r) : Ev g r := Ev.step h (Ev.now r)
theorem ext_getD {a b : List Int} (h : a.length = b.length) (hj : ∀ j, j < a.length → a.getD j 0 = b.getD j 0) : a = b := by
  apply List.ext_getElem h
  intro i h1 h2
  have := hj i h1
  simpa [List.getD_eq_getElem?_getD, h1, h2] using this
theorem getD_set (l : List Int) (i j : Nat) (v : Int) (hi : i < l.length) : (l.set i v).getD j 0 = if i = j then v else l.getD j 0 := by
  rw [List.getD_eq_getElem?_getD, List.getElem?_set]
  by_cases h : i = j
  · subst h; simp [hi]
  · simp [h]
theorem w1 {n : Nat} (h : n < 4611686018427387904) : wrap64 ((n : Int) + 1) = ((n + 1 : Nat) : Int) := by unfold wrap64; omega
theorem w64 {i : Int} (h0 : -9223372036854775808 ≤ i) (h : i ≤ 9223372036854775807) : wrap64 i = i := by unfold wrap64; omega
theorem rev_l0 (l : List Int) (hl : l.length < 4611686018427387904) : ∀ (d i : Nat) (y : List Int), 2 * i + d = l.length + 1 → y.length = l.length → (∀ j, j < l.length → y.getD j 0 = if j < i ∨ l.length ≤ j + i then l.getD (l.length - 1 - j) 0 else l.getD j 0) → Ev (fun k => slices_Reverse_int_int.l0 k y i ((l.length : Int) - 1 - i)) l.reverse
  | 0, i, y, hd, hy, h => by
    refine Ev.one (fun k => ?_)
    rw [slices_Reverse_int_int.l0, if_neg (by omega)]
    congr 1
    apply ext_getD (by simp [hy])
    intro j hj
    have hj' : j < l.length := by omega
    rw [h j hj', if_pos (by omega), List.getD_eq_getElem?_getD, List.getD_eq_getElem?_getD, List.getElem?_reverse hj']
  | 1, i, y, hd, hy, h => by
    refine Ev.one (fun k => ?_)
    rw [slices_Reverse_int_int.l0, if_neg (by omega)]
    congr 1
    apply ext_getD (by simp [hy])
    intro j hj
    have hj' : j < l.length := by omega
    rw [h j hj', List.getD_eq_getElem?_getD, List.getD_eq_getElem?_getD, List.getD_eq_getElem?_getD, List.getElem?_reverse hj']
    split
    · rfl
    · rw [show l.length - 1 - j = j by omega]
  | d + 2, i, y, hd, hy, h => by
    by_cases hlt : (i : Int) < (l.length : Int) - 1 - i
    · refine Ev.step (f := fun k => slices_Reverse_int_int.l0 k ((y.set i (rd y ((l.length : Int) - 1 - i))).set (l.length - 1 - i) (rd y (i : Int))) ((i + 1 : Nat) : Int) ((l.length : Int) - 1 - ((i + 1 : Nat) : Int))) (fun k => ?_) (rev_l0 l hl d (i + 1) _ (by omega) (by simpa using hy) ?_)
      · rw [slices_Reverse_int_int.l0, if_pos hlt, if_pos (by omega), if_pos (by omega), if_pos (by omega), if_pos (by omega), w1 (by omega), w64 (by omega) (by omega), show ((l.length : Int) - 1 - (i : Int)).toNat = l.length - 1 - i by omega, Int.toNat_natCast, show (l.length : Int) - 1 - (i : Int) - 1 = (l.length : Int) - 1 - ((i + 1 : Nat) : Int) by omega]
      · intro j hj
        have e1 : rd y ((l.length : Int) - 1 - i) = l.getD (l.length - 1 - i) 0 := by
          show y.getD ((l.length : Int) - 1 - i).toNat 0 = _
          rw [show ((l.length : Int) - 1 - (i : Int)).toNat = l.length - 1 - i by omega, h _ (by omega), if_neg (by omega)]
        have e2 : rd y (i : Int) = l.getD i 0 := by
          show y.getD (i : Int).toNat 0 = _
          rw [Int.toNat_natCast, h _ (by omega), if_neg (by omega)]
        rw [getD_set _ _ _ _ (by simp; omega), getD_set _ _ _ _ (by omega), e1, e2, h j hj]
        by_cases c1 : l.length - 1 - i = j
        · rw [if_pos c1, if_pos (by omega), show l.length - 1 - j = i by omega]
        · rw [if_neg c1]
          by_cases c2 : i = j
          · rw [if_pos c2, if_pos (by omega), c2]
          · rw [if_neg c2]
            by_cases c3 : j < i ∨ l.length ≤ j + i
            · rw [if_pos c3, if_pos (by omega)]
            · rw [if_neg c3, if_neg (by omega)]
    · refine Ev.one (fun k => ?_)
      rw [slices_Reverse_int_int.l0, if_neg hlt]
      congr 1
      apply ext_getD (by simp [hy])
      intro j hj
      have hj' : j < l.length := by omega
      rw [h j hj', List.getD_eq_getElem?_getD, List.getD_eq_getElem?_getD, List.getD_eq_getElem?_getD, List.getElem?_reverse hj']
      split
      · rfl
      · rw [show l.length - 1 - j = j by omega]
theorem rev_ev (l : List Int) (hl : l.length < 4611686018427387904) : Ev (fun k => slices_Reverse_int_int.f k l) l.reverse := by
  unfold slices_Reverse_int_int.f
  have := rev_l0 l hl (l.length + 1) 0 l (by omega) rfl (fun j hj => by rw [if_neg (by omega)])
  rw [w64 (by omega) (by omega)]
  simpa using this
theorem falling_ev (l : List Int) (hl : l.length ≤ 1048576) : Ev (fun k => impl_falling.f k l) (fallen l) := by
  unfold impl_falling.f fallen
  simp only [if_pos (show l.length ≤ 17592186044416 by omega)]
  exact rev_ev _ (by rw [List.length_mergeSort]; omega)
theorem capped_le (k : Nat) (hk : k ≤ 12) : ∀ (l : List Int), (∀ x ∈ l, 0 ≤ x ∧ x ≤ 12) → 0 ≤ capped k l ∧ capped k l ≤ 12 * l.length
  | [], _ => by simp [capped]
  | x :: l, h => by
    have h1 := h x (by simp)
    have h2 := capped_le k hk l (fun y hy => h y (by simp [hy]))
    have e : capped k (x :: l) = (if (k : Int) < x then (k : Int) else x) + capped k l := by simp [capped]
    rw [e, List.length_cons]
    split <;> omega
theorem capped_snoc (k : Nat) (l : List Int) (x : Int) : capped k (l ++ [x]) = capped k l + (if (k : Int) < x then (k : Int) else x) := by simp [capped, List.sum_append_int]
theorem mn_if (a b : Int) : mn a b = if a < b then a else b := by unfold mn; split <;> split <;> omega
theorem rd_mid (pre rest : List Int) (x : Int) : rd (pre ++ x :: rest) (pre.length : Int) = x := by
  unfold rd
  simp [List.getD_eq_getElem?_getD]
theorem square_le (k : Nat) (hk : k ≤ 12) : 0 ≤ (k : Int) * ((k : Int) - 1) ∧ (k : Int) * ((k : Int) - 1) ≤ 132 := by
  have : k = 0 ∨ k = 1 ∨ k = 2 ∨ k = 3 ∨ k = 4 ∨ k = 5 ∨ k = 6 ∨ k = 7 ∨ k = 8 ∨ k = 9 ∨ k = 10 ∨ k = 11 ∨ k = 12 := by omega
  rcases this with rfl | rfl | rfl | rfl | rfl | rfl | rfl | rfl | rfl | rfl | rfl | rfl | rfl <;> decide
theorem implFails_l1 (s : List Int) (hs : small s) (k0 : Nat) (h1 : 1 ≤ k0) (hk0 : k0 ≤ s.length) (R : Int) (tail : List Int) (ht : tail.length ≤ 12) (htb : ∀ x ∈ tail, 0 ≤ x ∧ x ≤ 12)
    (hE : Ev (fun k => (impl_sum.f k (s.take k0)).bind fun t => if t > (k0 : Int) * ((k0 : Int) - 1) + capped k0 tail then some (k0 : Int) else impl_failsAt.l0 k s ((k0 + 1 : Nat) : Int)) R) :
    ∀ (rest pre : List Int), tail = pre ++ rest → Ev (fun k => impl_failsAt.l1 k s (k0 : Int) ((k0 : Int) * ((k0 : Int) - 1) + capped k0 pre) tail (tail.length : Int) (pre.length : Int)) R
  | [], pre, e => by
    have el : tail.length = pre.length := by rw [e]; simp
    have hl := hs.1
    refine Ev.step (fun k => ?_) hE
    rw [impl_failsAt.l1, if_neg (by omega), if_pos (by omega), if_pos (by omega), Int.toNat_natCast, w1 (by omega), e, List.append_nil]
  | x :: rest, pre, e => by
    have el : pre.length < tail.length := by rw [e]; simp
    have hx : rd tail (pre.length : Int) = x := by rw [e]; exact rd_mid pre _ x
    have hxb := htb x (by rw [e]; simp)
    have hl := hs.1
    have hp := capped_le k0 (by omega) pre (fun y hy => htb y (by rw [e]; simp [hy]))
    have hq := square_le k0 (by omega)
    have ih := implFails_l1 s hs k0 h1 hk0 R tail ht htb hE rest (pre ++ [x]) (by rw [e]; simp)
    rw [List.length_append, List.length_singleton, capped_snoc] at ih
    refine Ev.step (fun k => ?_) ih
    rw [impl_failsAt.l1, if_pos (by omega), if_pos (by omega), if_pos (by omega), hx, w1 (by omega), mn_if, w64 (by split <;> omega) (by split <;> omega), Int.add_assoc]
theorem implSum_l0 (l : List Int) (hs : small l) : ∀ (rest pre : List Int), l = pre ++ rest → Ev (fun k => impl_sum.l0 k pre.sum l (l.length : Int) (pre.length : Int)) l.sum
  | [], pre, e => by
    have el : l.length = pre.length := by rw [e]; simp
    refine Ev.one (fun k => ?_)
    rw [impl_sum.l0, if_neg (by omega), e]; simp
  | x :: rest, pre, e => by
    have el : pre.length < l.length := by rw [e]; simp
    have hx : rd l (pre.length : Int) = x := by rw [e]; exact rd_mid pre _ x
    have hl := hs.1
    have hxb := hs.2 x (by rw [e]; simp)
    have hp := sum_le pre (fun y hy => hs.2 y (by rw [e]; simp [hy]))
    have ih := implSum_l0 l hs rest (pre ++ [x]) (by rw [e]; simp)
    rw [List.length_append, List.length_singleton, List.sum_append_int] at ih
    simp only [List.sum_cons, List.sum_nil, Int.add_zero] at ih
    refine Ev.step (fun k => ?_) ih
    rw [impl_sum.l0, if_pos (by omega), if_pos (by omega), if_pos (by omega), hx, w1 (by omega), w64 (by omega) (by omega)]
theorem implSum_ev (l : List Int) (hs : small l) : Ev (fun k => impl_sum.f k l) l.sum := implSum_l0 l hs l [] rfl
theorem implFails_l0 (s : List Int) (hs : small s) : ∀ (d k0 : Nat), d + k0 = s.length + 1 → 1 ≤ k0 → Ev (fun k => impl_failsAt.l0 k s (k0 : Int)) (failFrom s d k0)
  | 0, k0, hd, h1 => by
    refine Ev.one (fun k => ?_)
    rw [impl_failsAt.l0, if_neg (by omega)]; rfl
  | d + 1, k0, hd, h1 => by
    have hl := hs.1
    have hq := square_le k0 (by omega)
    have ih := implFails_l0 s hs d (k0 + 1) (by omega) (by omega)
    have ht : small (s.take k0) := ⟨by rw [List.length_take]; omega, fun x hx => hs.2 x (List.mem_of_mem_take hx)⟩
    have hE : Ev (fun k => (impl_sum.f k (s.take k0)).bind fun t => if t > (k0 : Int) * ((k0 : Int) - 1) + capped k0 (s.drop k0) then some (k0 : Int) else impl_failsAt.l0 k s ((k0 + 1 : Nat) : Int)) (failFrom s (d + 1) k0) := by
      refine Ev.bind (implSum_ev _ ht) ?_
      unfold failFrom mostOf
      by_cases c : (s.take k0).sum > (k0 : Int) * ((k0 : Int) - 1) + capped k0 (s.drop k0)
      · simp only [if_pos c]; exact Ev.now _
      · simp only [if_neg c]; exact ih
    have h2 := implFails_l1 s hs k0 h1 (by omega) _ (s.drop k0) (by rw [List.length_drop]; omega) (fun x hx => hs.2 x (List.mem_of_mem_drop hx)) hE (s.drop k0) [] rfl
    refine Ev.step (fun k => ?_) h2
    rw [impl_failsAt.l0, if_pos (by omega), if_pos (by omega), Int.toNat_natCast]
    simp only [Option.bind_some]
    rw [w64 (i := (k0 : Int) - 1) (by omega) (by omega), w64 (by omega) (by omega)]
    simp [capped]
theorem failsAt_ev (l : List Int) (h : isNums l = true) : Ev (fun k => impl_failsAt.f k l) (failsR l) := by
  unfold impl_failsAt.f failsR
  have hb := isNums_bounds h
  refine Ev.bind (falling_ev l (by omega)) ?_
  exact implFails_l0 (fallen l) (fallen_small h) l.length 1 (by rw [fallen_len]) (by omega)
theorem canBe_ev (l : List Int) (h : isNums l = true) : Ev (fun k => impl_canBe.f k l) (canR l) := by
  unfold impl_canBe.f canR
  refine Ev.bind (implSum_ev l (isNums_bounds h)) ?_
  by_cases c : Int.tmod l.sum 2 = 0
  · simp only [if_pos c, c, decide_true, Bool.true_and]
    exact Ev.bind (failsAt_ev l h) (Ev.now _)
  · simp only [if_neg c, c, decide_false, Bool.false_and]; exact Ev.now _
theorem least_f (a b : Int) : spec_l1Least.f a b = some (if a < b then a else b) := by unfold spec_l1Least.f; split <;> rfl
theorem deFails_l1 (s : List Int) (hs : small s) (k0 : Nat) (h1 : 1 ≤ k0) (hk0 : k0 ≤ s.length) (sum R : Int) (tail : List Int) (ht : tail.length ≤ 12) (htb : ∀ x ∈ tail, 0 ≤ x ∧ x ≤ 12)
    (hE : Ev (fun k => if sum > (k0 : Int) * ((k0 : Int) - 1) + capped k0 tail then some (k0 : Int) else spec_deFails.l0 k s sum ((k0 + 1 : Nat) : Int)) R) :
    ∀ (rest pre : List Int), tail = pre ++ rest → Ev (fun k => spec_deFails.l1 k s sum (k0 : Int) ((k0 : Int) * ((k0 : Int) - 1) + capped k0 pre) tail (tail.length : Int) (pre.length : Int)) R
  | [], pre, e => by
    have el : tail.length = pre.length := by rw [e]; simp
    have hl := hs.1
    refine Ev.step (fun k => ?_) hE
    rw [spec_deFails.l1, if_neg (by omega), w1 (by omega), e, List.append_nil]
  | x :: rest, pre, e => by
    have el : pre.length < tail.length := by rw [e]; simp
    have hx : rd tail (pre.length : Int) = x := by rw [e]; exact rd_mid pre _ x
    have hxb := htb x (by rw [e]; simp)
    have hl := hs.1
    have hp := capped_le k0 (by omega) pre (fun y hy => htb y (by rw [e]; simp [hy]))
    have hq := square_le k0 (by omega)
    have ih := deFails_l1 s hs k0 h1 hk0 sum R tail ht htb hE rest (pre ++ [x]) (by rw [e]; simp)
    rw [List.length_append, List.length_singleton, capped_snoc] at ih
    refine Ev.step (fun k => ?_) ih
    rw [spec_deFails.l1, if_pos (by omega), if_pos (by omega), if_pos (by omega), hx, w1 (by omega), least_f]
    simp only [Option.bind_some]
    rw [w64 (by split <;> omega) (by split <;> omega), Int.add_assoc]
theorem getD_get (l : List Int) (i : Nat) (h : i < l.length) : l.getD i 0 = l[i] := by simp [List.getD_eq_getElem?_getD, h]
theorem deFails_l0 (s : List Int) (hs : small s) : ∀ (d k0 : Nat), d + k0 = s.length + 1 → 1 ≤ k0 → Ev (fun k => spec_deFails.l0 k s (s.take (k0 - 1)).sum (k0 : Int)) (failFrom s d k0)
  | 0, k0, hd, h1 => by
    refine Ev.one (fun k => ?_)
    rw [spec_deFails.l0, if_neg (by omega)]; rfl
  | d + 1, k0, hd, h1 => by
    have hl := hs.1
    have hq := square_le k0 (by omega)
    have hlt : k0 - 1 < s.length := by omega
    have ih := deFails_l0 s hs d (k0 + 1) (by omega) (by omega)
    rw [Nat.add_sub_cancel] at ih
    have hsp := sum_le (s.take (k0 - 1)) (fun x hx => hs.2 x (List.mem_of_mem_take hx))
    have hspl : (s.take (k0 - 1)).length ≤ 12 := by rw [List.length_take]; omega
    have hx : rd s ((k0 : Int) - 1) = s[k0 - 1] := by
      show s.getD ((k0 : Int) - 1).toNat 0 = _
      rw [show ((k0 : Int) - 1).toNat = k0 - 1 by omega]
      exact getD_get s (k0 - 1) hlt
    have hxb := hs.2 _ (List.getElem_mem hlt)
    have hsum : (s.take k0).sum = (s.take (k0 - 1)).sum + s[k0 - 1] := by
      have h3 := List.take_succ_eq_append_getElem hlt
      rw [Nat.sub_add_cancel h1] at h3
      rw [h3, List.sum_append_int]
      simp
    have hE : Ev (fun k => if (s.take k0).sum > (k0 : Int) * ((k0 : Int) - 1) + capped k0 (s.drop k0) then some (k0 : Int) else spec_deFails.l0 k s (s.take k0).sum ((k0 + 1 : Nat) : Int)) (failFrom s (d + 1) k0) := by
      unfold failFrom mostOf
      by_cases c : (s.take k0).sum > (k0 : Int) * ((k0 : Int) - 1) + capped k0 (s.drop k0)
      · simp only [if_pos c]; exact Ev.now _
      · simp only [if_neg c]; exact ih
    have h2 := deFails_l1 s hs k0 h1 (by omega) _ _ (s.drop k0) (by rw [List.length_drop]; omega) (fun x hx => hs.2 x (List.mem_of_mem_drop hx)) hE (s.drop k0) [] rfl
    refine Ev.step (fun k => ?_) h2
    rw [spec_deFails.l0, w64 (i := (k0 : Int) - 1) (by omega) (by omega), if_pos (by omega), if_pos (by omega), if_pos (by omega), if_pos (by omega), Int.toNat_natCast]
    simp only [Option.bind_some]
    rw [hx, w64 (i := (k0 : Int) * ((k0 : Int) - 1)) (by omega) (by omega), w64 (by omega) (by omega), ← hsum]
    simp [capped]
theorem Ev.cast {α : Type} {g : Nat → Option α} {a b : α} (h : Ev g a) (e : a = b) : Ev g b := e ▸ h
theorem deSorted_l1 (l : List Int) (hl : l.length ≤ 12) (x : Nat) (hx : x ≤ 12) (R : List Int) : ∀ (rest pre acc : List Int), l = pre ++ rest → acc.length ≤ 13 * 13 + pre.length → Ev (fun k => spec_deSorted.l0 k l (acc ++ rest.filter fun y => decide ((x : Int) = y)) ((x : Int) - 1)) R → Ev (fun k => spec_deSorted.l1 k l acc (x : Int) l (l.length : Int) (pre.length : Int)) R
  | [], pre, acc, e, hacc, hE => by
    have el : l.length = pre.length := by rw [e]; simp
    refine Ev.step (fun k => ?_) hE
    rw [spec_deSorted.l1, if_neg (by omega), w64 (by omega) (by omega)]
    simp
  | y :: rest, pre, acc, e, hacc, hE => by
    have el : pre.length < l.length := by rw [e]; simp
    have hy : rd l (pre.length : Int) = y := by rw [e]; exact rd_mid pre _ y
    have e' : l = (pre ++ [y]) ++ rest := by rw [e]; simp
    by_cases h : (x : Int) = y
    · have ih := deSorted_l1 l hl x hx R rest (pre ++ [y]) (acc ++ [(x : Int)]) e' (by simp; omega) (by simpa [List.filter_cons, h] using hE)
      rw [List.length_append, List.length_singleton] at ih
      refine Ev.step (fun k => ?_) ih
      rw [spec_deSorted.l1, if_pos (by omega), if_pos (by omega), if_pos (by omega), hy, if_pos h, if_pos (by omega), w1 (by omega)]
    · have ih := deSorted_l1 l hl x hx R rest (pre ++ [y]) acc e' (by simp; omega) (by simpa [List.filter_cons, h] using hE)
      rw [List.length_append, List.length_singleton] at ih
      refine Ev.step (fun k => ?_) ih
      rw [spec_deSorted.l1, if_pos (by omega), if_pos (by omega), if_pos (by omega), hy, if_neg h, w1 (by omega)]
/-- the numbers x, x - 1, .., 0 of a list, each as often as it is there -/
def downs (l : List Int) : Nat → List Int
  | 0 => l.filter fun y => decide ((0 : Int) = y)
  | x + 1 => (l.filter fun y => decide (((x + 1 : Nat) : Int) = y)) ++ downs l x
theorem deSorted_l0 (l : List Int) (hl : l.length ≤ 12) : ∀ (x : Nat) (acc : List Int), x ≤ 12 → acc.length ≤ 13 * (12 - x) → Ev (fun k => spec_deSorted.l0 k l acc (x : Int)) (acc ++ downs l x)
  | 0, acc, hx, hacc => by
    have h1 := deSorted_l1 l hl 0 hx (acc ++ downs l 0) l [] acc rfl (by simp; omega) (by
      refine Ev.one (fun k => ?_)
      rw [spec_deSorted.l0, if_neg (by omega)]
      rfl)
    refine Ev.step (fun k => ?_) h1
    rw [spec_deSorted.l0, if_pos (by omega)]
    rfl
  | x + 1, acc, hx, hacc => by
    have hf : (l.filter fun y => decide (((x + 1 : Nat) : Int) = y)).length ≤ 12 := Nat.le_trans (List.length_filter_le _ _) hl
    have h1 := deSorted_l1 l hl (x + 1) hx (acc ++ downs l (x + 1)) l [] acc rfl (by simp; omega) (by
      have h0 := deSorted_l0 l hl x (acc ++ l.filter fun y => decide (((x + 1 : Nat) : Int) = y)) (by omega) (by rw [List.length_append]; omega)
      rw [show ((x + 1 : Nat) : Int) - 1 = (x : Int) by omega]
      refine Ev.cast h0 ?_
      rw [downs, List.append_assoc])
    refine Ev.step (fun k => ?_) h1
    rw [spec_deSorted.l0, if_pos (by omega)]
    rfl
theorem filter_split (p q r : Int → Bool) : ∀ (l : List Int), (∀ y, r y = (p y || q y)) → (∀ y, p y = true → q y = false) → (l.filter p ++ l.filter q).Perm (l.filter r)
  | [], _, _ => List.Perm.refl _
  | y :: l, h, hd => by
    have ih := filter_split p q r l h hd
    cases hp : p y with
    | true =>
      have hq := hd y hp
      have hr : r y = true := by rw [h, hp]; rfl
      simp only [List.filter_cons, hp, hq, hr, if_true, Bool.false_eq_true, if_false, List.cons_append]
      exact ih.cons y
    | false =>
      cases hq : q y with
      | true =>
        have hr : r y = true := by rw [h, hp, hq]; rfl
        simp only [List.filter_cons, hp, hq, hr, if_true, Bool.false_eq_true, if_false]
        exact List.perm_middle.trans (ih.cons y)
      | false =>
        have hr : r y = false := by rw [h, hp, hq]; rfl
        simp only [List.filter_cons, hp, hq, hr, Bool.false_eq_true, if_false]
        exact ih
theorem downs_perm (l : List Int) : ∀ (x : Nat), (downs l x).Perm (l.filter fun y => decide (0 ≤ y) && decide (y ≤ (x : Int)))
  | 0 => by
    have : (l.filter fun y => decide (0 ≤ y) && decide (y ≤ ((0 : Nat) : Int))) = downs l 0 := by
      unfold downs
      apply List.filter_congr
      intro y _
      by_cases h : (0 : Int) = y
      · simp [← h]
      · simp [h]; omega
    rw [this]
  | x + 1 => by
    rw [downs]
    refine (List.Perm.append_left _ (downs_perm l x)).trans (filter_split _ _ _ l (fun y => ?_) (fun y hy => ?_))
    · rw [Bool.eq_iff_iff]; simp; omega
    · simp at hy; simp; omega
theorem downs_mem (l : List Int) : ∀ (x : Nat) (y : Int), y ∈ downs l x → y ∈ l ∧ 0 ≤ y ∧ y ≤ x
  | 0, y, h => by
    simp only [downs, List.mem_filter, decide_eq_true_eq] at h
    exact ⟨h.1, by omega, by omega⟩
  | x + 1, y, h => by
    simp only [downs, List.mem_append, List.mem_filter, decide_eq_true_eq] at h
    rcases h with ⟨h1, h2⟩ | h
    · exact ⟨h1, by omega, by omega⟩
    · have := downs_mem l x y h
      exact ⟨this.1, this.2.1, by omega⟩
theorem pairwise_const (c : Int) : ∀ (l : List Int), (∀ y ∈ l, c = y) → l.Pairwise (fun a b => b ≤ a)
  | [], _ => List.Pairwise.nil
  | x :: xs, h => List.Pairwise.cons (fun y hy => by have h1 := h x (by simp); have h2 := h y (by simp [hy]); omega) (pairwise_const c xs (fun y hy => h y (by simp [hy])))
theorem downs_sorted (l : List Int) : ∀ (x : Nat), (downs l x).Pairwise (fun a b => b ≤ a)
  | 0 => pairwise_const 0 _ (fun y hy => by simp [downs] at hy; exact hy.2)
  | x + 1 => by
    rw [downs, List.pairwise_append]
    refine ⟨pairwise_const ((x + 1 : Nat) : Int) _ (fun y hy => by simp only [List.mem_filter, decide_eq_true_eq] at hy; exact hy.2), downs_sorted l x, fun a ha b hb => ?_⟩
    simp only [List.mem_filter, decide_eq_true_eq] at ha
    have := downs_mem l x b hb
    omega
theorem downs_fallen (l : List Int) (x : Nat) (h : ∀ y ∈ l, 0 ≤ y ∧ y ≤ x) : downs l x = fallen l := by
  refine List.Perm.eq_of_pairwise (le := fun a b : Int => b ≤ a) (fun a b _ _ h1 h2 => by omega) (downs_sorted l x) (fallen_sorted l) ?_
  refine (downs_perm l x).trans ?_
  rw [List.filter_eq_self.2 (fun y hy => by have := h y hy; simp; omega)]
  exact (fallen_perm l).symm
theorem isNums_upto {l : List Int} (h : isNums l = true) : ∀ x ∈ l, 0 ≤ x ∧ x ≤ l.length := by
  unfold isNums inAll at h
  simp at h
  exact fun x hx => by have := h.2 x hx; omega
theorem deSorted_ev (l : List Int) (h : isNums l = true) : Ev (fun k => spec_deSorted.f k l) (fallen l) := by
  unfold spec_deSorted.f
  have hb := isNums_bounds h
  have := deSorted_l0 l hb.1 l.length [] hb.1 (by simp)
  rw [List.nil_append, downs_fallen l l.length (isNums_upto h)] at this
  exact this
theorem deFails_ev (l : List Int) (h : isNums l = true) : Ev (fun k => spec_deFails.f k l) (failsR l) := by
  unfold spec_deFails.f failsR
  refine Ev.bind (deSorted_ev l h) ?_
  exact deFails_l0 (fallen l) (fallen_small h) l.length 1 (by rw [fallen_len]) (by omega)
theorem deSum_l0 (l : List Int) (hs : small l) : ∀ (rest pre : List Int), l = pre ++ rest → Ev (fun k => spec_deSum.l0 k pre.sum l (l.length : Int) (pre.length : Int)) l.sum
  | [], pre, e => by
    have el : l.length = pre.length := by rw [e]; simp
    refine Ev.one (fun k => ?_)
    rw [spec_deSum.l0, if_neg (by omega), e]; simp
  | x :: rest, pre, e => by
    have el : pre.length < l.length := by rw [e]; simp
    have hx : rd l (pre.length : Int) = x := by rw [e]; exact rd_mid pre _ x
    have hl := hs.1
    have hxb := hs.2 x (by rw [e]; simp)
    have hp := sum_le pre (fun y hy => hs.2 y (by rw [e]; simp [hy]))
    have ih := deSum_l0 l hs rest (pre ++ [x]) (by rw [e]; simp)
    rw [List.length_append, List.length_singleton, List.sum_append_int] at ih
    simp only [List.sum_cons, List.sum_nil, Int.add_zero] at ih
    refine Ev.step (fun k => ?_) ih
    rw [spec_deSum.l0, if_pos (by omega), if_pos (by omega), if_pos (by omega), hx, w1 (by omega), w64 (by omega) (by omega)]
theorem deSum_ev (l : List Int) (hs : small l) : Ev (fun k => spec_deSum.f k l) l.sum := deSum_l0 l hs l [] rfl
theorem deCan_ev (l : List Int) (h : isNums l = true) : Ev (fun k => spec_deCan.f k l) (canR l) := by
  unfold spec_deCan.f canR
  refine Ev.bind (deSum_ev l (isNums_bounds h)) ?_
  by_cases c : Int.tmod l.sum 2 = 0
  · simp only [if_pos c, c, decide_true, Bool.true_and]
    exact Ev.bind (deFails_ev l h) (Ev.now _)
  · simp only [if_neg c, c, decide_false, Bool.false_and]; exact Ev.now _
theorem l1In_f (a lo hi : Int) : spec_l1In.f a lo hi = some (decide (lo ≤ a) && decide (a ≤ hi)) := by
  unfold spec_l1In.f
  by_cases h : lo ≤ a
  · rw [if_pos h]; simp [h]
  · rw [if_neg h]; simp [h]
theorem l1All_l0 (l : List Int) (lo hi : Int) (hl : l.length < 4611686018427387904) : ∀ (d i : Nat), i + d = l.length → Ev (fun k => spec_l1All.l0 k lo hi l (l.length : Int) i) (inAll (l.drop i) lo hi)
  | 0, i, hd => by
    refine Ev.one (fun k => ?_)
    rw [spec_l1All.l0, if_neg (by omega), List.drop_of_length_le (by omega)]; rfl
  | d + 1, i, hd => by
    have hi' : i < l.length := by omega
    have e : rd l (i : Int) = l[i] := getD_get l i hi'
    have eD : inAll (l.drop i) lo hi = ((decide (lo ≤ l[i]) && decide (l[i] ≤ hi)) && inAll (l.drop (i + 1)) lo hi) := by
      rw [List.drop_eq_getElem_cons hi']; rfl
    rw [eD]
    cases hb : (decide (lo ≤ l[i]) && decide (l[i] ≤ hi)) with
    | false =>
      refine Ev.one (fun k => ?_)
      rw [spec_l1All.l0, if_pos (by omega), if_pos (by omega), if_pos (by omega), l1In_f, e, hb]; rfl
    | true =>
      refine Ev.step (fun k => ?_) (l1All_l0 l lo hi hl d (i + 1) (by omega))
      rw [spec_l1All.l0, if_pos (by omega), if_pos (by omega), if_pos (by omega), l1In_f, e, hb, w1 (by omega)]; rfl
theorem l1All_ev (l : List Int) (lo hi : Int) (hl : l.length < 4611686018427387904) : Ev (fun k => spec_l1All.f k l lo hi) (inAll l lo hi) := by
  unfold spec_l1All.f
  simpa using l1All_l0 l lo hi hl l.length 0 (by omega)
theorem deGood_ev (l : List Int) : Ev (fun k => spec_deGood.f k l) (isNums l) := by
  unfold spec_deGood.f isNums
  by_cases h : l.length ≤ 12
  · simp only [if_pos (show (l.length : Int) ≤ 12 by omega), h, decide_true, Bool.true_and, w64 (i := (l.length : Int) - 1) (by omega) (by omega)]
    exact Ev.bind (l1All_ev l 0 _ (by omega)) (Ev.now _)
  · simp only [if_neg (show ¬ (l.length : Int) ≤ 12 by omega), h, decide_false, Bool.false_and]
    exact Ev.now _
/-- Flags of some people. -/
def flg (n : Nat) (p : Nat → Bool) : List Bool := (List.range n).map p
abbrev Rel := Nat → Nat → Bool
def hasP (l : List S80) : Rel := fun a b => l.any fun x => (x.f0 == (a : Int) && x.f1 == (b : Int)) || (x.f0 == (b : Int) && x.f1 == (a : Int))
theorem hasP_nil : hasP [] = fun _ _ => false := by funext x y; rfl
def upd (r : Rel) (a b : Nat) (v : Bool) : Rel := fun x y => if x = a ∧ y = b then v else r x y
def addE (a : Nat) (bs : List Int) (rel : Rel) : Rel := bs.foldl (fun r b => upd (upd r a b.toNat true) b.toNat a true) rel
def bfr (L : List Int) (x y : Int) : Prop := rd L y < rd L x ∨ (rd L x = rd L y ∧ x < y)
def decs (bs : List Int) (L : List Int) : List Int := bs.foldl decP L
theorem decP_len (L : List Int) (a : Int) : (decP L a).length = L.length := by unfold decP; simp
theorem decs_len : ∀ (bs : List Int) (L : List Int), (decs bs L).length = L.length
  | [], _ => rfl
  | b :: bs, L => by
    show (decs bs (decP L b)).length = _
    rw [decs_len, decP_len]
theorem decP_rd (L : List Int) (a x : Int) (ha : 0 ≤ a ∧ a < (L.length : Int)) (hx : 0 ≤ x) : rd (decP L a) x = if x = a then wrap64 (rd L a - 1) else rd L x := by
  obtain ⟨i, rfl⟩ := Int.eq_ofNat_of_zero_le ha.1
  obtain ⟨j, rfl⟩ := Int.eq_ofNat_of_zero_le hx
  unfold decP rd
  simp only [Int.toNat_natCast]
  rw [getD_set _ _ _ _ (by omega)]
  by_cases e : i = j
  · rw [if_pos e, if_pos (by omega)]
  · rw [if_neg e, if_neg (by omega)]
theorem decs_rd : ∀ (bs : List Int) (L : List Int), bs.Nodup → (∀ b ∈ bs, 0 ≤ b ∧ b < (L.length : Int)) → ∀ x, 0 ≤ x → rd (decs bs L) x = if x ∈ bs then wrap64 (rd L x - 1) else rd L x
  | [], _, _, _, x, _ => by simp [decs]
  | b :: bs, L, hn, hb, x, hx => by
    obtain ⟨h1, h2⟩ := List.nodup_cons.1 hn
    show rd (decs bs (decP L b)) x = _
    rw [decs_rd bs (decP L b) h2 (fun y hy => by rw [decP_len]; exact hb y (List.mem_cons_of_mem _ hy)) x hx, decP_rd L b x (hb b (List.mem_cons_self ..)) hx]
    by_cases e : x = b
    · subst e
      rw [if_neg h1, if_pos rfl, if_pos (List.mem_cons_self ..)]
    · rw [if_neg e]
      by_cases m : x ∈ bs
      · rw [if_pos m, if_pos (List.mem_cons_of_mem _ m)]
      · rw [if_neg m, if_neg (fun h => by rcases List.mem_cons.1 h with h | h; exact e h; exact m h)]
/-- The numbers behind the last loop of a round, as far as it has gone. -/
def dk (T : Nat → Bool) (X : List Int) : Nat → List Int
  | 0 => X
  | i + 1 => if T i = true then decP (dk T X i) (i : Int) else dk T X i
theorem dk_len (T : Nat → Bool) (X : List Int) : ∀ i, (dk T X i).length = X.length
  | 0 => rfl
  | i + 1 => by
    rw [dk]
    split
    · rw [decP_len, dk_len]
    · exact dk_len T X i
theorem dk_rd (T : Nat → Bool) (X : List Int) : ∀ i : Nat, i ≤ X.length → ∀ x : Nat, rd (dk T X i) (x : Int) = if x < i ∧ T x = true then wrap64 (rd X (x : Int) - 1) else rd X (x : Int)
  | 0, _, x => by rw [dk, if_neg (by omega)]
  | i + 1, hi, x => by
    rw [dk]
    have ih := dk_rd T X i (by omega)
    cases ht : T i with
    | false =>
      rw [if_neg (by simp), ih]
      by_cases h : x < i ∧ T x = true
      · rw [if_pos h, if_pos ⟨by omega, h.2⟩]
      · rw [if_neg h, if_neg]
        rintro ⟨h1, h2⟩
        by_cases e : x = i
        · rw [e, ht] at h2; cases h2
        · exact h ⟨by omega, h2⟩
    | true =>
      rw [if_pos rfl, decP_rd _ _ _ ⟨by omega, by rw [dk_len]; omega⟩ (by omega)]
      by_cases e : x = i
      · subst e
        rw [if_pos rfl, ih, if_neg (by omega), if_pos ⟨by omega, ht⟩]
      · rw [if_neg (by omega), ih]
        by_cases h : x < i ∧ T x = true
        · rw [if_pos h, if_pos ⟨by omega, h.2⟩]
        · rw [if_neg h, if_neg (fun h2 => h ⟨by omega, h2.2⟩)]
theorem map_range_congr {α : Type} (m : Nat) (f g : Nat → α) (h : ∀ a, a < m → f a = g a) : (List.range m).map f = (List.range m).map g := List.map_congr_left fun a ha => h a (List.mem_range.1 ha)
theorem flg_congr (n : Nat) (p q : Nat → Bool) (h : ∀ i, i < n → p i = q i) : flg n p = flg n q := map_range_congr n p q h
theorem flg_len (n : Nat) (p : Nat → Bool) : (flg n p).length = n := by simp [flg]
theorem map_range_set {α : Type} (m : Nat) (f : Nat → α) (a : Nat) (v : α) : ((List.range m).map f).set a v = (List.range m).map fun i => if i = a then v else f i := by
  apply List.ext_getElem?
  intro j
  rw [List.getElem?_set]
  by_cases hj : j < m
  · by_cases e : a = j
    · subst e; simp [hj]
    · have e' : ¬ j = a := fun h => e h.symm
      simp [hj, e, e']
  · by_cases e : a = j
    · subst e; simp [hj]
    · simp [hj, e]
theorem flg_set (n : Nat) (p : Nat → Bool) (a : Nat) : (flg n p).set a true = flg n (fun i => if i = a then true else p i) := by
  unfold flg
  rw [map_range_set]
def hhStep (δ : Nat) (R : List Int) : List Int := (R.take δ).map (fun x => x - 1) ++ R.drop δ
structure Lb where
  d : Int
  b : Bool
  l : Nat
theorem exists_max {α : Type} (P : α → Prop) (g : α → Int) (M : Int) (hM : ∀ a, P a → g a ≤ M) : ∀ (n : Nat) (a : α), P a → (M - g a).toNat ≤ n → ∃ a, P a ∧ ∀ b, P b → g b ≤ g a
  | 0, a, h, hn => ⟨a, h, fun b hb => by have := hM b hb; have := hM a h; omega⟩
  | n + 1, a, h, hn => by
    by_cases hc : ∃ b, P b ∧ g a < g b
    · obtain ⟨b, hb, h2⟩ := hc
      exact exists_max P g M hM n b hb (by have := hM b hb; omega)
    · refine ⟨a, h, fun b hb => ?_⟩
      apply Classical.byContradiction
      intro h2
      exact hc ⟨b, hb, by omega⟩
def fB (x : Lb) : Int := if x.b = true then 1 else 0
def fF (x : Lb) : Int := if x.l = 0 then x.d else if x.l = 2 then - x.d else 0
def fP (x : Lb) : Int := if x.b = true then 2 - (x.l : Int) else (x.l : Int)
def fRB (x : Lb) : Int := if x.l = 2 ∧ x.b = true then 1 else 0
def fS (x : Lb) : Int := if x.l = 0 then 1 else 0
def fSB (x : Lb) : Int := if x.l = 0 ∧ x.b = true then 1 else 0
def fT (x : Lb) : Int := if x.l = 1 then 1 else 0
def fTB (x : Lb) : Int := if x.l = 1 ∧ x.b = true then 1 else 0
def keyL (L : List Lb) : List (Int × Bool) := L.map fun x => (x.d, x.b)
theorem key_turn (pre post : List Lb) (x : Lb) (k : Nat) : keyL (pre ++ { x with l := k } :: post) = keyL (pre ++ x :: post) := by simp [keyL]
theorem mulD (s t : Int) : s * (s - 1 + (t - 1)) = s * (s - 1 + t) - s := by
  rw [show s - 1 + (t - 1) = (s - 1 + t) - 1 by omega, Int.mul_sub, Int.mul_one]
theorem mulS (s t : Int) : (s + 1) * (s + 1 - 1 + (t - 1)) = s * (s - 1 + t) + (s + t - 1) := by
  rw [show s + 1 - 1 + (t - 1) = s - 1 + t by omega, Int.add_mul, Int.one_mul]; omega
theorem mulT (s t : Int) : (s - 1) * (s - 1 - 1 + (t + 1)) = s * (s - 1 + t) - (s + t - 1) := by
  rw [show s - 1 - 1 + (t + 1) = s - 1 + t by omega, Int.sub_mul, Int.one_mul]; omega
theorem mulU (s t : Int) : s * (s - 1 + (t + 1)) = s * (s - 1 + t) + s := by
  rw [show s - 1 + (t + 1) = (s - 1 + t) + 1 by omega, Int.mul_add, Int.mul_one]
theorem nn_of (f : Lb → Int) (h : ∀ x, 0 ≤ f x) (L : List Lb) : 0 ≤ sumI f L := by
  have := sumI_le (fun _ => 0) f L (fun x _ => h x)
  rw [sumI_zero] at this
  exact this
def okLb (L : List Lb) : Prop := ∀ x ∈ L, x.l < 3
theorem ok_turn (pre post : List Lb) (x : Lb) (k : Nat) (hk : k < 3) (h : okLb (pre ++ x :: post)) : okLb (pre ++ { x with l := k } :: post) := by
  intro y hy
  rcases List.mem_append.1 hy with hy | hy
  · exact h y (List.mem_append.2 (.inl hy))
  · rcases List.mem_cons.1 hy with rfl | hy
    · exact hk
    · exact h y (List.mem_append.2 (.inr (List.mem_cons_of_mem _ hy)))
/-- How much a labelling is beyond the bound. -/
def over (L : List Lb) : Int := sumI fF L - sumI fS L * (sumI fS L - 1 + sumI fT L)
/-- One element's label is turned. -/
theorem turn (pre post : List Lb) (x : Lb) (k : Nat) (f : Lb → Int) : sumI f (pre ++ { x with l := k } :: post) = sumI f (pre ++ x :: post) - f x + f { x with l := k } := by
  rw [sumI_app, sumI_app, sumI, sumI]; omega
theorem over_turn (pre post : List Lb) (x : Lb) (k : Nat) (L : List Lb) (hL : L = pre ++ x :: post) : over (pre ++ { x with l := k } :: post) = (sumI fF L - fF x + fF { x with l := k }) - (sumI fS L - fS x + fS { x with l := k }) * ((sumI fS L - fS x + fS { x with l := k }) - 1 + (sumI fT L - fT x + fT { x with l := k })) := by
  unfold over
  rw [turn pre post x k fF, turn pre post x k fS, turn pre post x k fT, hL]
theorem sumI_congr {α : Type} (f g : α → Int) : ∀ L : List α, (∀ x ∈ L, f x = g x) → sumI f L = sumI g L
  | [], _ => rfl
  | x :: L, h => by rw [sumI, sumI, h x (List.mem_cons_self ..), sumI_congr f g L (fun y hy => h y (List.mem_cons_of_mem _ hy))]
theorem sumI_const {α : Type} : ∀ L : List α, sumI (fun _ => 1) L = (L.length : Int)
  | [] => rfl
  | x :: L => by rw [sumI, sumI_const L, List.length_cons]; omega
theorem egStep (M : List (Int × Bool)) (δ v e : Int)
    (hB : ∀ x ∈ M, x.2 = true → v - 1 ≤ x.1 ∧ x.1 ≤ δ - 1) (hN : ∀ x ∈ M, x.2 = false → x.1 ≤ v) (h0 : ∀ x ∈ M, 0 ≤ x.1) (hvd : v ≤ δ)
    (hc : ∀ L, keyL L = M → sumI fB L = δ) (he : ∀ L, keyL L = M → sumI (fun x => x.d) L = 2 * e)
    (I1 : ∀ L, keyL L = M → okLb L → sumI fF L + sumI fSB L - sumI fRB L + δ ≤ (sumI fS L + 1) * (sumI fS L + sumI fT L))
    (I2 : ∀ L, keyL L = M → okLb L → sumI fF L + sumI fSB L - sumI fRB L ≤ sumI fS L * (sumI fS L + sumI fT L))
    (I3 : ∀ L, keyL L = M → okLb L → sumI fF L + sumI fSB L - sumI fRB L - δ ≤ sumI fS L * (sumI fS L - 1 + sumI fT L)) :
    ∀ L, keyL L = M → okLb L → over L ≤ 0 := by
  intro L0 hk0 ho0
  apply Classical.byContradiction
  intro hneg
  have hmem : ∀ L, keyL L = M → ∀ x ∈ L, (x.d, x.b) ∈ M := fun L hk x hx => by rw [← hk]; exact List.mem_map.2 ⟨x, hx, rfl⟩
  -- the greatest of those beyond the bound
  obtain ⟨L, ⟨hk, ho, hf⟩, hmax⟩ := exists_max (fun L : List Lb => keyL L = M ∧ okLb L ∧ 0 < over L) (fun L => 2 * over L + sumI fP L) (2 * (2 * e) + 2 * (M.length : Int)) (fun L ⟨hk, ho, hf⟩ => by
    have h1 : sumI fF L ≤ sumI (fun x => x.d) L := sumI_le _ _ L (fun x hx => by
      have := h0 _ (hmem L hk x hx)
      have : 0 ≤ x.d := this
      unfold fF; split
      · omega
      · split <;> omega)
    have h2 : sumI fP L ≤ sumI (fun _ => 2 * 1) L := sumI_le _ _ L (fun x hx => by
      have := ho x hx
      unfold fP; split <;> omega)
    rw [sumI_mul 2 (fun _ => 1), sumI_const] at h2
    rw [he L hk] at h1
    have h3 : L.length = M.length := by rw [← hk]; simp [keyL]
    have h4 : 0 ≤ sumI fS L * (sumI fS L - 1 + sumI fT L) := by
      have hs := nn_of fS (fun x => by unfold fS; split <;> decide) L
      have ht := nn_of fT (fun x => by unfold fT; split <;> decide) L
      rcases Int.lt_or_eq_of_le hs with h5 | h5
      · exact Int.mul_nonneg hs (by omega)
      · rw [← h5, Int.zero_mul]; exact Int.le_refl _
    unfold over
    omega) _ L0 ⟨hk0, ho0, by omega⟩ (Nat.le_refl _)
  -- what a turn of one element would give
  have hturn : ∀ (x : Lb), x ∈ L → ∀ (k : Nat) (c : Int), k < 3 → (∀ s t : Int, s = sumI fS L → t = sumI fT L → fF { x with l := k } - fF x - ((s - fS x + fS { x with l := k }) * ((s - fS x + fS { x with l := k }) - 1 + (t - fT x + fT { x with l := k }))) = c - s * (s - 1 + t)) →
      0 ≤ c → 2 * c + (fP { x with l := k } - fP x) ≤ 0 := by
    intro x hx k c hk3 hdl hge
    obtain ⟨pre, post, hp⟩ := List.append_of_mem hx
    have h1 := over_turn pre post x k L hp
    have h2 := hdl (sumI fS L) (sumI fT L) rfl rfl
    have h3 : over (pre ++ { x with l := k } :: post) = over L + c := by
      rw [h1]; unfold over; omega
    have h4 := turn pre post x k fP
    rw [← hp] at h4
    have h5 := hmax _ ⟨(key_turn pre post x k).trans (by rw [← hp]; exact hk), ok_turn pre post x k hk3 (by rw [← hp]; exact ho), by rw [h3]; omega⟩
    rw [h3, h4] at h5
    omega
  have hTS : ∀ x ∈ L, x.l = 1 → 0 ≤ x.d - (sumI fS L + sumI fT L - 1) → 2 * (x.d - (sumI fS L + sumI fT L - 1)) + (if x.b = true then 1 else -1) ≤ 0 := by
    intro x hx hl hge
    have := hturn x hx 0 _ (by omega) (fun s t hs ht => by
      have := mulS s t
      simp only [fF, fS, fT, hl, hs, ht] at this ⊢
      simp only [if_true, if_false, show ¬ ((1 : Nat) = 0) from by decide, show ¬ ((1 : Nat) = 2) from by decide, show ¬ ((0 : Nat) = 1) from by decide, Int.sub_zero, Int.add_zero]
      rw [this]
      omega) hge
    simp only [fP, hl] at this
    cases hb : x.b <;> simp [hb] at this ⊢ <;> omega
  have hST : ∀ x ∈ L, x.l = 0 → 0 ≤ - x.d + (sumI fS L + sumI fT L - 1) → 2 * (- x.d + (sumI fS L + sumI fT L - 1)) + (if x.b = true then -1 else 1) ≤ 0 := by
    intro x hx hl hge
    have := hturn x hx 1 _ (by omega) (fun s t hs ht => by
      have := mulT s t
      simp only [fF, fS, fT, hl, hs, ht] at this ⊢
      simp only [if_true, if_false, show ¬ ((1 : Nat) = 0) from by decide, show ¬ ((1 : Nat) = 2) from by decide, show ¬ ((0 : Nat) = 1) from by decide, Int.sub_zero, Int.add_zero]
      rw [this]
      omega) hge
    simp only [fP, hl] at this
    cases hb : x.b <;> simp [hb] at this ⊢ <;> omega
  have hRT : ∀ x ∈ L, x.l = 2 → 0 ≤ x.d - sumI fS L → 2 * (x.d - sumI fS L) + (if x.b = true then 1 else -1) ≤ 0 := by
    intro x hx hl hge
    have := hturn x hx 1 _ (by omega) (fun s t hs ht => by
      have := mulU s t
      simp only [fF, fS, fT, hl, hs, ht] at this ⊢
      simp only [if_true, if_false, show ¬ ((1 : Nat) = 0) from by decide, show ¬ ((1 : Nat) = 2) from by decide, show ¬ ((2 : Nat) = 1) from by decide, show ¬ ((2 : Nat) = 0) from by decide, Int.sub_zero, Int.add_zero]
      rw [this]
      omega) hge
    simp only [fP, hl] at this
    cases hb : x.b <;> simp [hb] at this ⊢ <;> omega
  have hTR : ∀ x ∈ L, x.l = 1 → 0 ≤ - x.d + sumI fS L → 2 * (- x.d + sumI fS L) + (if x.b = true then -1 else 1) ≤ 0 := by
    intro x hx hl hge
    have := hturn x hx 2 _ (by omega) (fun s t hs ht => by
      have := mulD s t
      simp only [fF, fS, fT, hl, hs, ht] at this ⊢
      simp only [if_true, if_false, show ¬ ((1 : Nat) = 0) from by decide, show ¬ ((1 : Nat) = 2) from by decide, show ¬ ((2 : Nat) = 1) from by decide, show ¬ ((2 : Nat) = 0) from by decide, Int.sub_zero, Int.add_zero]
      rw [this]
      omega) hge
    simp only [fP, hl] at this
    cases hb : x.b <;> simp [hb] at this ⊢ <;> omega
  have hs0 := nn_of fS (fun x => by unfold fS; split <;> decide) L
  have ht0 := nn_of fT (fun x => by unfold fT; split <;> decide) L
  have hBs : sumI fB L = sumI fSB L + sumI fTB L + sumI fRB L := by
    rw [← sumI_add, ← sumI_add]
    refine sumI_congr _ _ L fun x hx => ?_
    have := ho x hx
    unfold fB fSB fTB fRB
    rcases (by omega : x.l = 0 ∨ x.l = 1 ∨ x.l = 2) with h | h | h <;> cases hb : x.b <;> simp [h]
  rw [hc L hk] at hBs
  have hm := fun x hx => hmem L hk x hx
  unfold over at hf
  have hsum0 : ∀ f : Lb → Int, (∀ x ∈ L, f x = 0) → sumI f L = 0 := fun f h => by rw [sumI_congr f (fun _ => 0) L h, sumI_zero]
  have i1 := I1 L hk ho
  have i2 := I2 L hk ho
  have i3 := I3 L hk ho
  have e2 : sumI fS L * (sumI fS L + sumI fT L) = sumI fS L * (sumI fS L - 1 + sumI fT L) + sumI fS L := by
    rw [show sumI fS L + sumI fT L = (sumI fS L - 1 + sumI fT L) + 1 by omega, Int.mul_add, Int.mul_one]
  have e1 : (sumI fS L + 1) * (sumI fS L + sumI fT L) = sumI fS L * (sumI fS L - 1 + sumI fT L) + sumI fS L + (sumI fS L + sumI fT L) := by
    rw [Int.add_mul, Int.one_mul, e2]
  by_cases hS : ∀ x ∈ L, x.l = 0 → x.b = true
  · have h1 : sumI fSB L = sumI fS L := sumI_congr _ _ L fun x hx => by
      unfold fSB fS
      by_cases h : x.l = 0
      · simp [h, hS x hx h]
      · simp [h]
    by_cases hR : ∀ x ∈ L, x.l = 2 → x.b = false
    · have h2 : sumI fRB L = 0 := hsum0 fRB fun x hx => by
        unfold fRB
        by_cases h : x.l = 2
        · simp [hR x hx h]
        · simp [h]
      omega
    · have hR : ∃ y ∈ L, y.l = 2 ∧ y.b = true := by
        apply Classical.byContradiction
        intro h
        refine hR fun x hx hl => ?_
        cases hb : x.b with
        | false => rfl
        | true => exact absurd ⟨x, hx, hl, hb⟩ h
      obtain ⟨y, hy, hyl, hyb⟩ := hR
      have h3 := hRT y hy hyl
      rw [hyb] at h3
      have h4 := (hB _ (hm y hy) hyb).1
      have h4 : v - 1 ≤ y.d := h4
      have hv : v ≤ sumI fS L := by
        by_cases h5 : 0 ≤ y.d - sumI fS L
        · have := h3 h5; simp at this; omega
        · omega
      have hT : ∀ x ∈ L, x.l = 1 → x.b = true := fun x hx hl => by
        cases hb : x.b with
        | true => rfl
        | false =>
          have h5 := hTR x hx hl
          rw [hb] at h5
          have h6 : x.d ≤ v := hN _ (hm x hx) hb
          have := h5 (by omega)
          simp at this
          omega
      have h2 : sumI fTB L = sumI fT L := sumI_congr _ _ L fun x hx => by
        unfold fTB fT
        by_cases h : x.l = 1
        · simp [h, hT x hx h]
        · simp [h]
      omega
  · have hS : ∃ x ∈ L, x.l = 0 ∧ x.b = false := by
      apply Classical.byContradiction
      intro h
      refine hS fun x hx hl => ?_
      cases hb : x.b with
      | true => rfl
      | false => exact absurd ⟨x, hx, hl, hb⟩ h
    obtain ⟨x0, hx0, hl0, hb0⟩ := hS
    have h3 := hST x0 hx0 hl0
    rw [hb0] at h3
    have h4 : x0.d ≤ v := hN _ (hm x0 hx0) hb0
    have hv : sumI fS L + sumI fT L ≤ v := by
      by_cases h5 : 0 ≤ - x0.d + (sumI fS L + sumI fT L - 1)
      · have := h3 h5; simp at this; omega
      · omega
    have hTB : ∀ x ∈ L, fTB x = 0 := fun x hx => by
      unfold fTB
      by_cases h : x.l = 1
      · cases hb : x.b with
        | false => simp
        | true =>
          have h5 := hTS x hx h
          rw [hb] at h5
          have h6 : v - 1 ≤ x.d := (hB _ (hm x hx) hb).1
          have := h5 (by omega)
          simp at this
          omega
      · simp [h]
    have hTB0 := hsum0 fTB hTB
    by_cases hR : ∀ x ∈ L, x.l = 2 → x.b = false
    · have h2 : sumI fRB L = 0 := hsum0 fRB fun x hx => by
        unfold fRB
        by_cases h : x.l = 2
        · simp [hR x hx h]
        · simp [h]
      omega
    · have hR : ∃ y ∈ L, y.l = 2 ∧ y.b = true := by
        apply Classical.byContradiction
        intro h
        refine hR fun x hx hl => ?_
        cases hb : x.b with
        | false => rfl
        | true => exact absurd ⟨x, hx, hl, hb⟩ h
      obtain ⟨y, hy, hyl, hyb⟩ := hR
      have h5 := hRT y hy hyl
      rw [hyb] at h5
      have h6 : v - 1 ≤ y.d := (hB _ (hm y hy) hyb).1
      have hv2 : v ≤ sumI fS L := by
        by_cases h7 : 0 ≤ y.d - sumI fS L
        · have := h5 h7; simp at this; omega
        · omega
      have ht : sumI fT L = 0 := by omega
      have hvs : v = sumI fS L := by omega
      rw [ht] at hf
      -- nobody bears the middle label
      have hl1 : ∀ x ∈ L, x.l ≠ 1 := by
        intro x hx hl
        obtain ⟨pre, post, hp⟩ := List.append_of_mem hx
        rw [hp, sumI_app, sumI] at ht
        have h7 := nn_of fT (fun x => by unfold fT; split <;> decide) pre
        have h8 := nn_of fT (fun x => by unfold fT; split <;> decide) post
        have : fT x = 1 := by unfold fT; rw [if_pos hl]
        omega
      have hγ : sumI fSB L + 1 ≤ sumI fS L := by
        obtain ⟨pre, post, hp⟩ := List.append_of_mem hx0
        have hle : ∀ x : Lb, fSB x ≤ fS x := fun x => by
          unfold fSB fS
          by_cases h : x.l = 0
          · rw [if_pos h]; split <;> decide
          · rw [if_neg h, if_neg (fun h2 => h h2.1)]; decide
        have h7 := sumI_le fSB fS pre (fun x _ => hle x)
        have h8 := sumI_le fSB fS post (fun x _ => hle x)
        rw [hp, sumI_app, sumI_app, sumI, sumI]
        have h9 : fSB x0 = 0 := by unfold fSB; rw [if_neg (by rw [hb0]; simp)]
        have h10 : fS x0 = 1 := by unfold fS; rw [if_pos hl0]
        omega
      have hβ := nn_of fSB (fun x => by unfold fSB; split <;> decide) L
      -- the sums over those chosen, and over the rest
      have hA : sumI (fun x => if x.l = 0 then x.d else 0) L ≤ (δ - 1) * sumI fSB L + sumI fS L * (sumI fS L - sumI fSB L) := by
        have h7 := sumI_le (fun x : Lb => if x.l = 0 then x.d else 0) (fun x => ((δ - 1) * fSB x + (sumI fS L * fS x)) + (- sumI fS L) * fSB x) L (fun x hx => by
          by_cases h : x.l = 0
          · cases hb : x.b with
            | true =>
              have : x.d ≤ δ - 1 := (hB _ (hm x hx) hb).2
              simp only [fSB, fS, h, hb]
              simp
              omega
            | false =>
              have : x.d ≤ v := hN _ (hm x hx) hb
              simp only [fSB, fS, h, hb]
              simp
              omega
          · simp [fSB, fS, h])
        rw [sumI_add, sumI_add, sumI_mul, sumI_mul, sumI_mul] at h7
        rw [Int.mul_sub]
        rw [Int.neg_mul] at h7
        omega
      have hC : (sumI fS L - 1) * sumI fRB L ≤ sumI (fun x => if x.l = 2 then x.d else 0) L := by
        rw [← sumI_mul]
        refine sumI_le _ _ L fun x hx => ?_
        by_cases h : x.l = 2
        · cases hb : x.b with
          | true =>
            have : v - 1 ≤ x.d := (hB _ (hm x hx) hb).1
            simp only [fRB, h, hb]
            simp
            omega
          | false =>
            have : 0 ≤ x.d := h0 _ (hm x hx)
            simp only [fRB, h, hb]
            simp
            omega
        · simp [fRB, h]
      have hF : sumI fF L = sumI (fun x => if x.l = 0 then x.d else 0) L + (-1) * sumI (fun x => if x.l = 2 then x.d else 0) L := by
        rw [← sumI_mul, ← sumI_add]
        refine sumI_congr _ _ L fun x hx => ?_
        unfold fF
        by_cases h : x.l = 0
        · simp [h]
        · by_cases h2 : x.l = 2
          · simp [h2]
          · simp [h, h2]
      have hD : sumI (fun x => x.d) L = sumI (fun x => if x.l = 0 then x.d else 0) L + sumI (fun x => if x.l = 2 then x.d else 0) L := by
        rw [← sumI_add]
        refine sumI_congr _ _ L fun x hx => ?_
        have := ho x hx
        have := hl1 x hx
        rcases (by omega : x.l = 0 ∨ x.l = 2) with h | h <;> simp [h]
      have hC0 : 0 ≤ sumI (fun x : Lb => if x.l = 2 then x.d else 0) L := by
        have := sumI_le (fun _ => 0) (fun x : Lb => if x.l = 2 then x.d else 0) L (fun x hx => by
          have : 0 ≤ x.d := h0 _ (hm x hx)
          split
          · exact this
          · exact Int.le_refl _)
        rw [sumI_zero] at this
        exact this
      rw [he L hk] at hD
      have hRB : sumI fRB L = δ - sumI fSB L := by omega
      rw [hRB] at hC
      generalize sumI (fun x : Lb => if x.l = 0 then x.d else 0) L = A at *
      generalize sumI (fun x : Lb => if x.l = 2 then x.d else 0) L = C at *
      generalize sumI fF L = F at *
      generalize sumI fS L = s at *
      generalize sumI fSB L = β at *
      clear hmax hturn hTS hST hRT hTR hTB hm hmem i1 i2 i3 e1 e2 I1 I2 I3 hB hN h0 hc he hsum0
      by_cases hs1 : s = 1
      · subst hs1
        obtain rfl : β = 0 := by omega
        simp only [Int.mul_zero, Int.sub_zero, Int.zero_add, Int.one_mul, Int.sub_self, Int.zero_mul, Int.add_zero, Int.mul_one] at hA hC hf
        omega
      · obtain ⟨γ, rfl⟩ : ∃ γ, β = s - γ := ⟨s - β, by omega⟩
        have p1 : 0 ≤ (γ - 1) * (δ - s) := Int.mul_nonneg (by omega) (by omega)
        have p2 : 0 ≤ γ * (s - 2) := Int.mul_nonneg (by omega) (by omega)
        simp only [Int.sub_mul, Int.mul_sub, Int.add_mul, Int.mul_add, Int.one_mul, Int.mul_one, Int.add_zero, Int.mul_zero, Int.sub_zero] at p1 p2 hA hC hf
        rw [Int.mul_comm δ s] at hA
        rw [Int.mul_comm δ γ] at hA
        rw [Int.mul_comm γ s] at p1 p2
        try rw [Int.mul_comm γ s] at hA
        omega
theorem hh_step (δ : Nat) (R : List Int) (e : Int) (hs : ((δ : Int) :: R).Pairwise (fun a b => b ≤ a)) (h0 : ∀ x ∈ R, 0 ≤ x) (he : sumI (fun x => x) ((δ : Int) :: R) = 2 * e) (h : EGc ((δ : Int) :: R)) :
    δ ≤ R.length ∧ (∀ x ∈ R.take δ, 1 ≤ x) ∧ EGc (hhStep δ R) ∧ (∀ x ∈ hhStep δ R, 0 ≤ x) ∧ sumI (fun x => x) (hhStep δ R) = 2 * (e - (δ : Int)) := by
  obtain ⟨hs1, hs2⟩ := List.pairwise_cons.1 hs
  -- at least δ of the others are not nothing
  have hpos : (δ : Int) ≤ sumI (fun x => if 1 ≤ x then 1 else 0) R := by
    have := h (((δ : Int), 0) :: R.map fun x => (x, if 1 ≤ x then 1 else 2)) (by simp [List.map_map, Function.comp_def]) (fun x hx => by
      rcases List.mem_cons.1 hx with rfl | hx
      · show (0 : Nat) < 3
        decide
      · obtain ⟨y, _, rfl⟩ := List.mem_map.1 hx
        dsimp only
        split <;> decide)
    rw [sumI, sumI, sumI, sumI_map, sumI_map, sumI_map] at this
    have z1 : sumI (fun x : Int => gF (x, if 1 ≤ x then 1 else 2)) R = 0 := by
      rw [sumI_congr _ (fun _ => 0) R (fun x hx => ?_), sumI_zero]
      have := h0 x hx
      unfold gF
      by_cases h1 : 1 ≤ x
      · simp [h1]
      · have : x = 0 := by omega
        simp [this]
    have z2 : sumI (fun x : Int => gS (x, if 1 ≤ x then 1 else 2)) R = 0 := by
      rw [sumI_congr _ (fun _ => 0) R (fun x hx => ?_), sumI_zero]
      unfold gS
      by_cases h1 : 1 ≤ x <;> simp [h1]
    have z3 : sumI (fun x : Int => gT (x, if 1 ≤ x then 1 else 2)) R = sumI (fun x => if 1 ≤ x then 1 else 0) R := sumI_congr _ _ R fun x hx => by
      unfold gT
      by_cases h1 : 1 ≤ x <;> simp [h1]
    rw [z1, z2, z3] at this
    simp [gF, gS, gT] at this
    omega
  have hcnt : ∀ (k : Nat) (l : List Int), l.Pairwise (fun a b => b ≤ a) → (k : Int) ≤ sumI (fun x => if 1 ≤ x then 1 else 0) l → k ≤ l.length ∧ ∀ x ∈ l.take k, 1 ≤ x := by
    intro k
    induction k with
    | zero => intro l _ _; exact ⟨Nat.zero_le _, fun x hx => by simp at hx⟩
    | succ k ih =>
      intro l hl hk
      cases l with
      | nil => simp [sumI] at hk; omega
      | cons y l =>
        obtain ⟨h1, h2⟩ := List.pairwise_cons.1 hl
        rw [sumI] at hk
        have hy : 1 ≤ y := by
          apply Classical.byContradiction
          intro hy
          rw [if_neg hy] at hk
          have : sumI (fun x : Int => if 1 ≤ x then 1 else 0) l = 0 := by
            rw [sumI_congr _ (fun _ => 0) l (fun x hx => by have := h1 x hx; simp; omega), sumI_zero]
          omega
        rw [if_pos hy] at hk
        obtain ⟨h3, h4⟩ := ih l h2 (by omega)
        refine ⟨by simpa using h3, fun x hx => ?_⟩
        rw [List.take_succ_cons] at hx
        rcases List.mem_cons.1 hx with rfl | hx
        · exact hy
        · exact h4 x hx
  obtain ⟨hl, hone⟩ := hcnt δ R hs2 hpos
  have hsum : ∀ l : List Int, sumI (fun x => x) (l.map fun x => x - 1) = sumI (fun x => x) l - (l.length : Int) := by
    intro l
    induction l with
    | nil => rfl
    | cons x l ih => rw [List.map_cons, sumI, sumI, ih, List.length_cons]; omega
  have hev : sumI (fun x => x) (hhStep δ R) = 2 * (e - (δ : Int)) := by
    unfold hhStep
    rw [sumI_app, hsum, List.length_take, Nat.min_eq_left hl]
    have h1 : sumI (fun x => x) R = sumI (fun x => x) (R.take δ) + sumI (fun x => x) (R.drop δ) := by rw [← sumI_app, List.take_append_drop]
    rw [sumI] at he
    omega
  have hnn : ∀ x ∈ hhStep δ R, 0 ≤ x := fun x hx => by
    unfold hhStep at hx
    rcases List.mem_append.1 hx with hx | hx
    · obtain ⟨y, hy, rfl⟩ := List.mem_map.1 hx
      have := hone y hy
      omega
    · exact h0 x (List.mem_of_mem_drop hx)
  refine ⟨hl, hone, ?_, hnn, hev⟩
  -- the pairs of a number behind the step and of its mark
  obtain ⟨M, hM⟩ : ∃ M : List (Int × Bool), M = (R.take δ).map (fun x => (x - 1, true)) ++ (R.drop δ).map (fun x => (x, false)) := ⟨_, rfl⟩
  have hM1 : M.map (·.1) = hhStep δ R := by rw [hM]; unfold hhStep; simp [List.map_map, Function.comp_def]
  have hM2 : M.map (fun x => x.1 + if x.2 = true then 1 else 0) = R := by
    rw [hM, List.map_append, List.map_map, List.map_map]
    simp only [Function.comp_def, if_true, Bool.false_eq_true, if_false, Int.sub_add_cancel, Int.add_zero, List.map_id']
    exact List.take_append_drop δ R
  -- the least of those that are taken
  obtain ⟨v, hv1, hv2, hv3⟩ : ∃ v : Int, (∀ x ∈ R.take δ, v ≤ x) ∧ (∀ x ∈ R.drop δ, x ≤ v) ∧ v ≤ (δ : Int) := by
    cases δ with
    | zero => exact ⟨0, fun x hx => by simp at hx, fun x hx => by
        have := hs1 x (List.mem_of_mem_drop hx)
        simpa using this, by simp⟩
    | succ k =>
      have hlt : k < R.length := by omega
      refine ⟨R[k], fun x hx => ?_, fun x hx => ?_, hs1 _ (List.getElem_mem _)⟩
      · obtain ⟨i, hi, rfl⟩ := List.getElem_of_mem hx
        rw [List.length_take] at hi
        rw [List.getElem_take]
        rcases Nat.lt_or_ge i k with h1 | h1
        · exact List.pairwise_iff_getElem.1 hs2 i k (by omega) hlt h1
        · have : i = k := by omega
          subst this
          exact Int.le_refl _
      · obtain ⟨i, hi, rfl⟩ := List.getElem_of_mem hx
        rw [List.length_drop] at hi
        rw [List.getElem_drop]
        exact List.pairwise_iff_getElem.1 hs2 k _ hlt (by omega) (by omega)
  have keyE : ∀ L : List Lb, keyL L = M → L.map (fun x => x.d + if x.b = true then 1 else 0) = R := fun L hk => by
    rw [← hM2, ← hk]; unfold keyL; rw [List.map_map]; rfl
  have I : ∀ (lab : Nat), lab < 3 → ∀ L : List Lb, keyL L = M → okLb L → gF ((δ : Int), lab) + (sumI fF L + sumI fSB L - sumI fRB L) ≤ (gS ((δ : Int), lab) + sumI fS L) * (gS ((δ : Int), lab) + sumI fS L - 1 + (gT ((δ : Int), lab) + sumI fT L)) := by
    intro lab hlab L hk ho
    have := h (((δ : Int), lab) :: L.map fun x => (x.d + (if x.b = true then 1 else 0), x.l)) (by
      rw [List.map_cons, List.map_map]
      show (δ : Int) :: L.map (fun x => x.d + if x.b = true then 1 else 0) = _
      rw [keyE L hk]) (fun x hx => by
      rcases List.mem_cons.1 hx with rfl | hx
      · exact hlab
      · obtain ⟨y, hy, rfl⟩ := List.mem_map.1 hx
        exact ho y hy)
    rw [sumI, sumI, sumI, sumI_map, sumI_map, sumI_map] at this
    have z1 : sumI (fun x : Lb => gF (x.d + (if x.b = true then 1 else 0), x.l)) L = sumI fF L + sumI fSB L - sumI fRB L := by
      have : sumI fF L + sumI fSB L - sumI fRB L = sumI (fun x => (fF x + fSB x) + (-1) * fRB x) L := by rw [sumI_add, sumI_add, sumI_mul]; omega
      rw [this]
      refine sumI_congr _ _ L fun x hx => ?_
      unfold gF fF fSB fRB
      have := ho x hx
      rcases (by omega : x.l = 0 ∨ x.l = 1 ∨ x.l = 2) with h | h | h <;> cases hb : x.b <;> simp [h] <;> omega
    have z2 : sumI (fun x : Lb => gS (x.d + (if x.b = true then 1 else 0), x.l)) L = sumI fS L := sumI_congr _ _ L fun x _ => rfl
    have z3 : sumI (fun x : Lb => gT (x.d + (if x.b = true then 1 else 0), x.l)) L = sumI fT L := sumI_congr _ _ L fun x _ => rfl
    rw [z1, z2, z3] at this
    exact this
  have key := egStep M (δ : Int) v (e - (δ : Int)) (fun x hx hb => by
    rw [hM] at hx
    rcases List.mem_append.1 hx with hx | hx
    · obtain ⟨y, hy, rfl⟩ := List.mem_map.1 hx
      have := hv1 y hy
      have := hs1 y (List.mem_of_mem_take hy)
      dsimp only
      omega
    · obtain ⟨y, hy, rfl⟩ := List.mem_map.1 hx
      cases hb) (fun x hx hb => by
    rw [hM] at hx
    rcases List.mem_append.1 hx with hx | hx
    · obtain ⟨y, hy, rfl⟩ := List.mem_map.1 hx
      cases hb
    · obtain ⟨y, hy, rfl⟩ := List.mem_map.1 hx
      exact hv2 y hy) (fun x hx => by
    refine hnn x.1 ?_
    rw [← hM1]
    exact List.mem_map.2 ⟨x, hx, rfl⟩) hv3 (fun L hk => by
    have : sumI fB L = sumI (fun x : Int × Bool => if x.2 = true then 1 else 0) M := by rw [← hk]; unfold keyL; rw [sumI_map]; rfl
    rw [this, hM, sumI_app, sumI_map, sumI_map]
    simp only [if_true, Bool.false_eq_true, if_false]
    rw [sumI_const, sumI_zero, List.length_take]
    omega) (fun L hk => by
    have : sumI (fun x => x.d) L = sumI (fun x => x) (hhStep δ R) := by rw [← hM1, ← hk]; unfold keyL; rw [List.map_map, sumI_map]; rfl
    rw [this, hev]) (fun L hk ho => by
    have := I 0 (by decide) L hk ho
    simp only [gF, gS, gT, if_true, show ¬ ((0 : Nat) = 1) from by decide, if_false] at this
    rw [show (1 : Int) + sumI fS L - 1 + (0 + sumI fT L) = sumI fS L + sumI fT L by omega, show (1 : Int) + sumI fS L = sumI fS L + 1 by omega] at this
    omega) (fun L hk ho => by
    have := I 1 (by decide) L hk ho
    simp only [gF, gS, gT, if_true, show ¬ ((1 : Nat) = 0) from by decide, show ¬ ((1 : Nat) = 2) from by decide, if_false] at this
    rw [show (0 : Int) + sumI fS L - 1 + (1 + sumI fT L) = sumI fS L + sumI fT L by omega, show (0 : Int) + sumI fS L = sumI fS L by omega] at this
    omega) (fun L hk ho => by
    have := I 2 (by decide) L hk ho
    simp only [gF, gS, gT, if_true, show ¬ ((2 : Nat) = 0) from by decide, show ¬ ((2 : Nat) = 1) from by decide, if_false] at this
    rw [show (0 : Int) + sumI fS L - 1 + (0 + sumI fT L) = sumI fS L - 1 + sumI fT L by omega, show (0 : Int) + sumI fS L = sumI fS L by omega] at this
    omega)
  intro L hL ho
  -- a labelling of the numbers is one of the marked ones
  obtain ⟨Lm, hm1, hm2⟩ : ∃ Lm : List Lb, keyL Lm = M ∧ Lm.map (fun x => (x.d, x.l)) = L := by
    rw [← hM1] at hL
    clear hM hM1 hM2 I key keyE hnn hev
    induction M generalizing L with
    | nil =>
      cases L with
      | nil => exact ⟨[], rfl, rfl⟩
      | cons y L => simp at hL
    | cons x M ih =>
      cases L with
      | nil => simp at hL
      | cons y L =>
        simp only [List.map_cons, List.cons.injEq] at hL
        obtain ⟨Lm, h1, h2⟩ := ih L hL.2 (fun z hz => ho z (List.mem_cons_of_mem _ hz))
        refine ⟨⟨x.1, x.2, y.2⟩ :: Lm, by simp [keyL] at h1 ⊢; exact h1, ?_⟩
        rw [List.map_cons, h2]
        congr 1
        exact Prod.ext hL.1.symm rfl
  have := key Lm hm1 (fun x hx => by
    have : (x.d, x.l) ∈ L := by rw [← hm2]; exact List.mem_map.2 ⟨x, hx, rfl⟩
    exact ho _ this)
  unfold over at this
  rw [← hm2, sumI_map, sumI_map, sumI_map]
  have z1 : sumI (fun x : Lb => gF (x.d, x.l)) Lm = sumI fF Lm := sumI_congr _ _ Lm fun x _ => rfl
  have z2 : sumI (fun x : Lb => gS (x.d, x.l)) Lm = sumI fS Lm := sumI_congr _ _ Lm fun x _ => rfl
  have z3 : sumI (fun x : Lb => gT (x.d, x.l)) Lm = sumI fT Lm := sumI_congr _ _ Lm fun x _ => rfl
  rw [z1, z2, z3]
  omega

/-! ### tables of bits -/
def bitsOf : Nat → (Nat → Bool) → Nat
  | 0, _ => 0
  | m + 1, f => bitsOf m f + (f m).toNat * 2 ^ m
def tab (m : Nat) (r : Rel) : List Int := (List.range m).map fun a => ((bitsOf m (r a) : Nat) : Int)
theorem tab_len (m : Nat) (r : Rel) : (tab m r).length = m := by simp [tab]
theorem bitsOf_lt : ∀ (m : Nat) (f : Nat → Bool), bitsOf m f < 2 ^ m
  | 0, _ => by simp [bitsOf]
  | m + 1, f => by
    have := bitsOf_lt m f
    have h2 : (f m).toNat * 2 ^ m ≤ 2 ^ m := by cases f m <;> simp
    rw [bitsOf, Nat.pow_succ]; omega
theorem testBit_bitsOf : ∀ (m : Nat) (f : Nat → Bool) (i : Nat), (bitsOf m f).testBit i = (decide (i < m) && f i)
  | 0, f, i => by simp [bitsOf]
  | m + 1, f, i => by
    have ih := testBit_bitsOf m f
    by_cases hi : i < m
    · have h1 : i < m + 1 := by omega
      cases hf : f m with
      | false => simp [bitsOf, hf, ih i, hi, h1]
      | true => rw [bitsOf, hf, Bool.toNat_true, Nat.one_mul, Nat.add_comm, Nat.testBit_two_pow_add_gt hi, ih i]; simp [hi, h1]
    · by_cases e : i = m
      · subst e
        cases hf : f i with
        | false => simp [bitsOf, hf, ih i]
        | true => rw [bitsOf, hf, Bool.toNat_true, Nat.one_mul, Nat.add_comm, Nat.testBit_two_pow_add_eq, ih i]; simp
      · have h1 : ¬ i < m + 1 := by omega
        rw [Nat.testBit_lt_two_pow (Nat.lt_of_lt_of_le (bitsOf_lt (m + 1) f) (Nat.pow_le_pow_right (by decide) (by omega)))]
        simp [h1]
theorem bitsOf_or (m : Nat) (f : Nat → Bool) (b : Nat) (hb : b < m) : bitsOf m f ||| 2 ^ b = bitsOf m fun j => if j = b then true else f j := by
  apply Nat.eq_of_testBit_eq
  intro i
  rw [Nat.testBit_or, testBit_bitsOf, testBit_bitsOf, Nat.testBit_two_pow]
  by_cases e : i = b
  · subst e; simp [hb]
  · have e' : ¬ b = i := fun h => e h.symm
    simp [e, e']
theorem bitsOf_u16 (m : Nat) (hm : m ≤ 12) (f : Nat → Bool) : bitsOf m f < 65536 :=
  Nat.lt_of_lt_of_le (bitsOf_lt m f) (Nat.le_trans (Nat.pow_le_pow_right (by decide) hm) (by decide))
theorem wraps_u16 (n : Int) (h0 : 0 ≤ n) (h1 : n < 2 ^ 16) : IntKind.u16.wrap n = n := by
  simp [IntKind.wrap, IntKind.bits, IntKind.signed]; omega
theorem or16 (x y : Nat) (hx : x < 65536) (hy : y < 65536) : Go.bits .or .u16 (x : Int) (y : Int) = ((x ||| y : Nat) : Int) := (bits_nat .u16 16 (by decide) wraps_u16 x y hx hy).2
theorem pow_u16 (b : Nat) (h : b ≤ 12) : 2 ^ b < 65536 := Nat.lt_of_le_of_lt (Nat.pow_le_pow_right (by decide) h) (by decide)
theorem shl1 (b : Nat) (h : b ≤ 12) : shl .u16 1 (b : Int) = ((2 ^ b : Nat) : Int) := by
  have : b = 0 ∨ b = 1 ∨ b = 2 ∨ b = 3 ∨ b = 4 ∨ b = 5 ∨ b = 6 ∨ b = 7 ∨ b = 8 ∨ b = 9 ∨ b = 10 ∨ b = 11 ∨ b = 12 := by omega
  rcases this with rfl | rfl | rfl | rfl | rfl | rfl | rfl | rfl | rfl | rfl | rfl | rfl | rfl <;> decide
theorem map_range_getD {α : Type} (m : Nat) (f : Nat → α) (d : α) (a : Nat) (h : a < m) : ((List.range m).map f).getD a d = f a := by simp [List.getD_eq_getElem?_getD, h]
theorem tab_at (m : Nat) (r : Rel) (a : Nat) (h : a < m) : rd (tab m r) (a : Int) = ((bitsOf m (r a) : Nat) : Int) := map_range_getD m _ _ a h
theorem bitsOf_congr (m : Nat) (f g : Nat → Bool) (h : ∀ i, i < m → f i = g i) : bitsOf m f = bitsOf m g := by
  apply Nat.eq_of_testBit_eq
  intro i
  rw [testBit_bitsOf, testBit_bitsOf]
  by_cases hi : i < m
  · simp [hi, h i hi]
  · simp [hi]
theorem tab_congr (m : Nat) (r s : Rel) (h : ∀ a b, a < m → b < m → r a b = s a b) : tab m r = tab m s := map_range_congr m _ _ fun a ha => by rw [bitsOf_congr m _ _ fun b hb => h a b ha hb]
theorem tab_set (m : Nat) (r : Rel) (a : Nat) (f : Nat → Bool) : (tab m r).set a ((bitsOf m f : Nat) : Int) = tab m (fun x => if x = a then f else r x) := by
  unfold tab
  rw [map_range_set]
  refine map_range_congr m _ _ fun i hi => ?_
  by_cases e : i = a <;> simp [e]
theorem tab_or (m : Nat) (hm : m ≤ 12) (r : Rel) (a b : Nat) (ha : a < m) (hb : b < m) : (tab m r).set a (Go.bits .or .u16 (rd (tab m r) (a : Int)) (shl .u16 1 (b : Int))) = tab m (upd r a b true) := by
  rw [tab_at m r a ha, shl1 b (by omega), or16 _ _ (bitsOf_u16 m hm _) (pow_u16 b (by omega)), bitsOf_or m _ b hb, tab_set]
  refine tab_congr m _ _ fun x y hx hy => ?_
  by_cases e : x = a
  · subst e; simp [upd]
  · simp [upd, e]
theorem put_f (m : Nat) (hm : m ≤ 12) (r : Rel) (a b : Nat) (ha : a < m) (hb : b < m) : impl_table_put.f (tab m r) (a : Int) (b : Int) = some (tab m (upd (upd r a b true) b a true)) := by
  unfold impl_table_put.f
  rw [if_pos (by omega), tab_len, if_pos (by omega), if_pos (by omega), Int.toNat_natCast, Int.toNat_natCast, tab_or m hm r a b ha hb]
  simp only [Option.bind_some]
  rw [if_pos (by omega), tab_or m hm _ b a hb ha]
theorem inP_f (n : Nat) (hn : n ≤ 12) (a : Nat) (ha : a < n) : ∀ (bs : List Int) (rel : Rel) (L : List Int), (∀ b ∈ bs, 0 ≤ b ∧ b < (n : Int)) → P.inP (a : Int) bs (tab n rel) L = some (tab n (addE a bs rel), decs bs L)
  | [], _, _, _ => rfl
  | b :: bs, rel, L, hb => by
    have h1 := hb b (List.mem_cons_self ..)
    obtain ⟨i, rfl⟩ := Int.eq_ofNat_of_zero_le h1.1
    rw [P.inP, put_f n hn rel a i ha (by omega), Option.bind_some, inP_f n hn a ha bs _ _ (fun y hy => hb y (List.mem_cons_of_mem _ hy))]
    rfl
def inn (bs : List Int) (i : Nat) : Bool := decide ((i : Int) ∈ bs)
theorem map_range_const {α : Type} (c : α) : ∀ m : Nat, (List.range m).map (fun _ => c) = List.replicate m c
  | 0 => rfl
  | m + 1 => by rw [List.range_succ, List.map_append, map_range_const c m, List.replicate_succ']; rfl
/-! ### matrices -/
def mat (m : Nat) (r : Rel) : List (List Bool) := (List.range m).map fun a => (List.range m).map fun b => r a b
theorem flg_at (n : Nat) (p : Nat → Bool) (i : Nat) (h : i < n) : rdOf false (flg n p) (i : Int) = p i := by
  unfold rdOf flg
  rw [Int.toNat_natCast]
  exact map_range_getD n p false i h
/-- What a look through all people finds: the first of the greatest. -/
def pk (C : Nat → Bool) (V : Nat → Int) : Nat → Int
  | 0 => -1
  | i + 1 => if C i = true then (if pk C V i < 0 then (i : Int) else if V i > V (pk C V i).toNat then (i : Int) else pk C V i) else pk C V i
theorem pk_spec (C : Nat → Bool) (V : Nat → Int) : ∀ i : Nat, (pk C V i = -1 ∧ ∀ j, j < i → C j = false) ∨ ∃ a : Nat, a < i ∧ pk C V i = (a : Int) ∧ C a = true ∧ ∀ j, j < i → C j = true → (V j < V a ∨ (V j = V a ∧ a ≤ j))
  | 0 => .inl ⟨rfl, fun j hj => absurd hj (Nat.not_lt_zero _)⟩
  | i + 1 => by
    rw [pk]
    have ih := pk_spec C V i
    cases hc : C i with
    | false =>
      rw [if_neg (by simp)]
      rcases ih with ⟨h1, h2⟩ | ⟨a, h1, h2, h3, h4⟩
      · refine .inl ⟨h1, fun j hj => ?_⟩
        by_cases e : j = i
        · rw [e]; exact hc
        · exact h2 j (by omega)
      · refine .inr ⟨a, by omega, h2, h3, fun j hj hj2 => ?_⟩
        by_cases e : j = i
        · rw [e, hc] at hj2; cases hj2
        · exact h4 j (by omega) hj2
    | true =>
      rw [if_pos rfl]
      rcases ih with ⟨h1, h2⟩ | ⟨a, h1, h2, h3, h4⟩
      · rw [h1, if_pos (by decide)]
        refine .inr ⟨i, by omega, rfl, hc, fun j hj hj2 => ?_⟩
        by_cases e : j = i
        · exact .inr ⟨by rw [e], by omega⟩
        · rw [h2 j (by omega)] at hj2; cases hj2
      · rw [h2, if_neg (by omega), Int.toNat_natCast]
        by_cases hv : V i > V a
        · rw [if_pos hv]
          refine .inr ⟨i, by omega, rfl, hc, fun j hj hj2 => ?_⟩
          by_cases e : j = i
          · exact .inr ⟨by rw [e], by omega⟩
          · have := h4 j (by omega) hj2
            omega
        · rw [if_neg hv]
          refine .inr ⟨a, by omega, rfl, h3, fun j hj hj2 => ?_⟩
          by_cases e : j = i
          · subst e; omega
          · exact h4 j (by omega) hj2
theorem pk_range (C : Nat → Bool) (V : Nat → Int) (i : Nat) : pk C V i = -1 ∨ (0 ≤ pk C V i ∧ pk C V i < (i : Int)) := by
  rcases pk_spec C V i with ⟨h, _⟩ | ⟨a, h1, h2, _⟩
  · exact .inl h
  · exact .inr (by omega)
theorem mk_l1 (n : Nat) (hn : n ≤ 12) (l LS : List Int) (hLS : LS.length = n) (X : List (List Bool)) (P : Nat → Bool) (c : Int) (R : Int × List S80)
    (hend : Ev (fun k => spec_deMake.l1 k l LS X (flg n P) (pk (fun i => !P i) (fun i => rd LS (i : Int)) n) (n : Int) c LS (n : Int) (n : Int)) R) :
    ∀ (e i : Nat), i + e = n → Ev (fun k => spec_deMake.l1 k l LS X (flg n P) (pk (fun i => !P i) (fun i => rd LS (i : Int)) i) (n : Int) c LS (n : Int) (i : Int)) R
  | 0, i, h => by
    obtain rfl : i = n := by omega
    exact hend
  | e + 1, i, h => by
    have ih := mk_l1 n hn l LS hLS X P c R hend e (i + 1) (by omega)
    rw [← w1 (n := i) (by omega)] at ih
    have hr := pk_range (fun i => !P i) (fun i => rd LS (i : Int)) i
    have hst : pk (fun i => !P i) (fun i => rd LS (i : Int)) (i + 1) = if (!P i) = true then (if pk (fun i => !P i) (fun i => rd LS (i : Int)) i < 0 then (i : Int) else if rd LS (i : Int) > rd LS ((pk (fun i => !P i) (fun i => rd LS (i : Int)) i).toNat : Int) then (i : Int) else pk (fun i => !P i) (fun i => rd LS (i : Int)) i) else pk (fun i => !P i) (fun i => rd LS (i : Int)) i := rfl
    rw [hst] at ih
    generalize hq : pk (fun i => !P i) (fun i => rd LS (i : Int)) i = q at hr ih ⊢
    clear hst hq
    refine Ev.step (fun k => ?_) ih
    rw [spec_deMake.l1, if_pos (by omega), if_pos (by omega), if_pos (by rw [hLS]; omega), if_pos (by rw [flg_len]; omega), flg_at n P i (by omega)]
    cases P i with
    | true => rfl
    | false =>
      simp only [Bool.false_eq_true, if_false, Bool.not_false, if_true]
      rcases hr with hr | ⟨hr1, hr2⟩
      · rw [hr]; rfl
      · have e1 : (q.toNat : Int) = q := by omega
        have n0 : ¬ q < 0 := by omega
        rw [e1]
        simp only [if_neg n0, if_pos hr1, if_pos (show q < (LS.length : Int) by rw [hLS]; omega)]
        by_cases hv : rd LS (i : Int) > rd LS q
        · rw [if_pos hv, if_pos hv]
        · rw [if_neg hv, if_neg hv]
theorem addE_snoc (a : Nat) (bs : List Int) (b : Int) (rel : Rel) : addE a (bs ++ [b]) rel = upd (upd (addE a bs rel) a b.toNat true) b.toNat a true := by unfold addE; rw [List.foldl_append]; rfl
theorem mat_len (m : Nat) (r : Rel) : (mat m r).length = m := by simp [mat]
theorem mat_row (m : Nat) (r : Rel) (a : Nat) (h : a < m) : rd_L3 (mat m r) (a : Int) = (List.range m).map fun b => r a b := map_range_getD m _ _ a h
theorem mat_set (m : Nat) (r : Rel) (a b : Nat) (v : Bool) (ha : a < m) : (mat m r).set a ((rd_L3 (mat m r) (a : Int)).set b v) = mat m (upd r a b v) := by
  rw [mat_row m r a ha, map_range_set]
  show ((List.range m).map fun a => (List.range m).map fun b => r a b).set a _ = _
  rw [map_range_set]
  refine map_range_congr m _ _ fun i hi => ?_
  by_cases e : i = a
  · subst e
    rw [if_pos rfl]
    refine map_range_congr m _ _ fun j hj => ?_
    simp [upd]
  · rw [if_neg e]
    refine map_range_congr m _ _ fun j hj => ?_
    simp [upd, e]
theorem mk_l3 (n : Nat) (hn : n ≤ 12) (l LS : List Int) (hLS : LS.length = n) (X : List (List Bool)) (P Q : Nat → Bool) (a : Int) (c : Int) (R : Int × List S80)
    (hend : Ev (fun k => spec_deMake.l3 k l LS X (flg n P) a (flg n Q) (pk (fun i => !P i && !Q i) (fun i => rd LS (i : Int)) n) (n : Int) c LS (n : Int) (n : Int)) R) :
    ∀ (e i : Nat), i + e = n → Ev (fun k => spec_deMake.l3 k l LS X (flg n P) a (flg n Q) (pk (fun i => !P i && !Q i) (fun i => rd LS (i : Int)) i) (n : Int) c LS (n : Int) (i : Int)) R
  | 0, i, h => by
    obtain rfl : i = n := by omega
    exact hend
  | e + 1, i, h => by
    have ih := mk_l3 n hn l LS hLS X P Q a c R hend e (i + 1) (by omega)
    rw [← w1 (n := i) (by omega)] at ih
    have hr := pk_range (fun i => !P i && !Q i) (fun i => rd LS (i : Int)) i
    have hst : pk (fun i => !P i && !Q i) (fun i => rd LS (i : Int)) (i + 1) = if (!P i && !Q i) = true then (if pk (fun i => !P i && !Q i) (fun i => rd LS (i : Int)) i < 0 then (i : Int) else if rd LS (i : Int) > rd LS ((pk (fun i => !P i && !Q i) (fun i => rd LS (i : Int)) i).toNat : Int) then (i : Int) else pk (fun i => !P i && !Q i) (fun i => rd LS (i : Int)) i) else pk (fun i => !P i && !Q i) (fun i => rd LS (i : Int)) i := rfl
    rw [hst] at ih
    generalize hq : pk (fun i => !P i && !Q i) (fun i => rd LS (i : Int)) i = q at hr ih ⊢
    clear hst hq
    refine Ev.step (fun k => ?_) ih
    rw [spec_deMake.l3, if_pos (by omega), if_pos (by omega), if_pos (by rw [hLS]; omega), if_pos (by rw [flg_len]; omega), flg_at n P i (by omega)]
    cases P i with
    | true => rfl
    | false =>
      simp only [Bool.false_eq_true, if_false, Bool.not_false, Bool.true_and, if_pos (show (i : Int) < ((flg n Q).length : Int) by rw [flg_len]; omega), flg_at n Q i (show i < n by omega)]
      cases Q i with
      | true => rfl
      | false =>
        simp only [Bool.false_eq_true, if_false, Bool.not_false, if_true]
        rcases hr with hr | ⟨hr1, hr2⟩
        · rw [hr]; rfl
        · have e1 : (q.toNat : Int) = q := by omega
          have n0 : ¬ q < 0 := by omega
          rw [e1]
          simp only [if_neg n0, if_pos hr1, if_pos (show q < (LS.length : Int) by rw [hLS]; omega)]
          by_cases hv : rd LS (i : Int) > rd LS q
          · rw [if_pos hv, if_pos hv]
          · rw [if_neg hv, if_neg hv]
theorem pk_eq (C : Nat → Bool) (V : Nat → Int) (n a : Nat) (ha : a < n) (hc : C a = true) (h : ∀ j, j < n → C j = true → (V j < V a ∨ (V j = V a ∧ a ≤ j))) : pk C V n = (a : Int) := by
  rcases pk_spec C V n with ⟨_, h2⟩ | ⟨b, h1, h2, h3, h4⟩
  · rw [h2 a ha] at hc; cases hc
  · have e1 := h b h1 h3
    have e2 := h4 a ha hc
    have : a = b := by omega
    rw [this]; exact h2
theorem set_rd (LS : List Int) (a x : Nat) (v : Int) (ha : a < LS.length) : rd (LS.set a v) (x : Int) = if x = a then v else rd LS (x : Int) := by
  unfold rd
  simp only [Int.toNat_natCast]
  rw [getD_set _ _ _ _ ha]
  by_cases e : a = x
  · rw [if_pos e, if_pos e.symm]
  · rw [if_neg e, if_neg (fun h => e h.symm)]
/-- The choosing of the others: r of them are still to come. -/
theorem mk_l2 (n : Nat) (hn : n ≤ 12) (l LS : List Int) (hl : l.length = n) (hLS : LS.length = n) (rel : Rel) (rest : List Int) (a : Nat) (rs : List Int) (ha : a < n) (hrs : ∀ x ∈ rs, 0 ≤ x ∧ x < (n : Int)) (har : (a : Int) ∉ rs) (hnd : rs.Nodup) (hpair : rs.Pairwise (bfr LS)) (δ : Nat) (hδ : δ ≤ rs.length) (hδ2 : δ ≤ 100) (c : Int) (R : Int × List S80)
    (hend : Ev (fun k => spec_deMake.l4 k l (LS.set a 0) (mat n (addE a (rs.take δ) rel)) (flg n fun i => !inn rs i) (n : Int) c (flg n (inn (rs.take δ))) (n : Int) 0) R) :
    ∀ (r j : Nat), j + r = δ → Ev (fun k => spec_deMake.l2 k l (LS.set a (r : Int)) (mat n (addE a (rs.take j) rel)) (flg n fun i => !inn rs i) (a : Int) (flg n (inn (rs.take j))) (n : Int) c) R
  | 0, j, h => by
    obtain rfl : j = δ := by omega
    refine Ev.step (fun k => ?_) hend
    rw [spec_deMake.l2, if_pos (by omega), if_pos (by rw [List.length_set, hLS]; omega), set_rd LS a a _ (by omega), if_pos rfl, if_neg (by decide), flg_len]
    rfl
  | r + 1, j, h => by
    have hj : j < rs.length := by omega
    have ih := mk_l2 n hn l LS hl hLS rel rest a rs ha hrs har hnd hpair δ hδ hδ2 c R hend r (j + 1) (by omega)
    obtain ⟨b, hb⟩ : ∃ b : Nat, rs[j] = (b : Int) := Int.eq_ofNat_of_zero_le (hrs _ (List.getElem_mem hj)).1
    have hbn : b < n := by have := hrs _ (List.getElem_mem hj); omega
    have htk : rs.take (j + 1) = rs.take j ++ [(b : Int)] := by rw [List.take_succ_eq_append_getElem hj, hb]
    have hab : b ≠ a := fun e => har (by rw [← e, ← hb]; exact List.getElem_mem hj)
    have hlen2 : (LS.set a ((r + 1 : Nat) : Int)).length = n := by rw [List.length_set]; exact hLS
    -- the look finds b
    have hpk : pk (fun i => !(!inn rs i) && !inn (rs.take j) i) (fun i => rd (LS.set a ((r + 1 : Nat) : Int)) (i : Int)) n = (b : Int) := by
      have hbin : (b : Int) ∈ rs := by rw [← hb]; exact List.getElem_mem hj
      have hsplit : rs = rs.take j ++ (b : Int) :: rs.drop (j + 1) := by rw [← hb, ← List.drop_eq_getElem_cons hj, List.take_append_drop]
      have hnd2 := hnd
      rw [hsplit] at hnd2
      have hdis := (List.nodup_append.1 hnd2).2.2
      refine pk_eq _ _ n b hbn ?_ fun x hx hx2 => ?_
      · rw [Bool.and_eq_true]
        refine ⟨by unfold inn; rw [Bool.not_not]; exact decide_eq_true hbin, ?_⟩
        unfold inn
        rw [Bool.not_eq_true']
        exact decide_eq_false (fun h => hdis _ h _ (List.mem_cons_self ..) rfl)
      · rw [Bool.and_eq_true, Bool.not_not] at hx2
        unfold inn at hx2
        rw [decide_eq_true_eq, Bool.not_eq_true', decide_eq_false_iff_not] at hx2
        have hxa : x ≠ a := fun e => har (by rw [← e]; exact hx2.1)
        rw [set_rd LS a x _ (by omega), if_neg hxa, set_rd LS a b _ (by omega), if_neg hab]
        by_cases e : x = b
        · right; rw [e]; exact ⟨rfl, Nat.le_refl _⟩
        · have hxd : (x : Int) ∈ rs.drop (j + 1) := by
            have h1 := hx2.1
            rw [hsplit] at h1
            rcases List.mem_append.1 h1 with h1 | h1
            · exact absurd h1 hx2.2
            · rcases List.mem_cons.1 h1 with h1 | h1
              · omega
              · exact h1
          have hp2 := hpair
          rw [hsplit] at hp2
          have := (List.pairwise_cons.1 (List.pairwise_append.1 hp2).2.1).1 _ hxd
          unfold bfr at this
          omega
    have hv : rd (LS.set a ((r + 1 : Nat) : Int)) (a : Int) = ((r + 1 : Nat) : Int) := by rw [set_rd LS a a _ (by omega), if_pos rfl]
    refine Ev.step (f := fun k => spec_deMake.l3 k l (LS.set a ((r + 1 : Nat) : Int)) (mat n (addE a (rs.take j) rel)) (flg n fun i => !inn rs i) (a : Int) (flg n (inn (rs.take j))) (-1) (n : Int) c (LS.set a ((r + 1 : Nat) : Int)) (n : Int) 0) (fun k => ?_) ?_
    · rw [spec_deMake.l2, if_pos (by omega), if_pos (by rw [hlen2]; omega), hv, if_pos (by omega), hlen2]
    refine mk_l3 n hn l _ hlen2 (mat n (addE a (rs.take j) rel)) (fun i => !inn rs i) (inn (rs.take j)) (a : Int) c R ?_ n 0 (by omega)
    rw [hpk]
    rw [htk, addE_snoc, Int.toNat_natCast] at ih
    have hT : (flg n (inn (rs.take j))).set b true = flg n (inn (rs.take j ++ [(b : Int)])) := by
      rw [flg_set]
      refine flg_congr n _ _ fun i hi => ?_
      unfold inn
      by_cases e : i = b
      · rw [if_pos e]; symm; exact decide_eq_true (by rw [e]; simp)
      · rw [if_neg e]
        congr 1
        rw [List.mem_append, List.mem_singleton]
        exact propext ⟨.inl, fun h => h.resolve_right (by omega)⟩
    have hs2 : (LS.set a ((r + 1 : Nat) : Int)).set a (wrap64 (((r + 1 : Nat) : Int) - 1)) = LS.set a (r : Int) := by
      rw [List.set_set, w64 (by omega) (by omega)]
      congr 1; omega
    refine Ev.step (fun k => ?_) ih
    have m1 : (mat n (addE a (rs.take j) rel)).length = n := mat_len _ _
    rw [spec_deMake.l3, if_neg (by omega), if_pos (by omega), if_pos (by rw [flg_len]; omega), if_pos (by omega), if_pos (by rw [m1]; omega), if_pos (by rw [mat_row n _ a ha]; simp; omega), Option.bind_some, Int.toNat_natCast, Int.toNat_natCast, mat_set n _ a b true ha, if_pos (by rw [m1]; omega), if_pos (by rw [mat_row n _ b hbn]; simp; omega), if_pos (by rw [hlen2]; omega), hv, mat_set n _ b a true hbn, hT, hs2]
theorem mk_l4 (n : Nat) (hn : n ≤ 12) (l X0 : List Int) (hX : X0.length = n) (X : List (List Bool)) (D : List Bool) (T : Nat → Bool) (c : Int) (R : Int × List S80)
    (hend : Ev (fun k => spec_deMake.l0 k l (dk T X0 n) X D (n : Int) (wrap64 (c + 1))) R) :
    ∀ (e i : Nat), i + e = n → Ev (fun k => spec_deMake.l4 k l (dk T X0 i) X D (n : Int) c (flg n T) (n : Int) (i : Int)) R
  | 0, i, h => by
    obtain rfl : i = n := by omega
    refine Ev.step (fun k => ?_) hend
    rw [spec_deMake.l4, if_neg (by omega)]
  | e + 1, i, h => by
    have ih := mk_l4 n hn l X0 hX X D T c R hend e (i + 1) (by omega)
    rw [dk, ← w1 (n := i) (by omega)] at ih
    refine Ev.step (fun k => ?_) ih
    rw [spec_deMake.l4, if_pos (by omega), if_pos (by omega), if_pos (by rw [flg_len]; omega), flg_at n T i (by omega)]
    cases ht : T i with
    | true =>
      rw [if_pos rfl, if_pos (by rw [dk_len, hX]; omega), if_pos rfl]
      rfl
    | false => rw [if_neg (by simp), if_neg (by simp)]
theorem mat_at (m : Nat) (r : Rel) (a b : Nat) (h : a < m) (h2 : b < m) : rdOf false (rd_L3 (mat m r) (a : Int)) (b : Int) = r a b := by
  rw [mat_row m r a h]; exact map_range_getD m _ _ b h2
/-! ### pairs listed -/
def rowFrom (r : Rel) (a : Nat) : Nat → Nat → List S80
  | _, 0 => []
  | b, d + 1 => (if r a b then [⟨(a : Int), (b : Int)⟩] else []) ++ rowFrom r a (b + 1) d
theorem paOf_l1 (m : Nat) (hm : m ≤ 12) (r : Rel) (a : Nat) (ha : a < m) (n : Int) (R : Int × List S80) : ∀ (d b : Nat) (acc : List S80), b + d = m → acc.length ≤ 12 * a + b → Ev (fun k => spec_paOf.l0 k (mat m r) (m : Int) ((a + 1 : Nat) : Int) n (acc ++ rowFrom r a b d)) R → Ev (fun k => spec_paOf.l1 k (mat m r) (a : Int) (b : Int) (m : Int) (a : Int) n acc) R
  | 0, b, acc, hd, hacc, h => by
    refine Ev.step (fun k => ?_) h
    rw [spec_paOf.l1, mat_len, if_neg (by omega), w1 (by omega), rowFrom, List.append_nil]
  | d + 1, b, acc, hd, hacc, h => by
    have hb : b < m := by omega
    rw [rowFrom, ← List.append_assoc] at h
    have hrow : (rd_L3 (mat m r) (a : Int)).length = m := by rw [mat_row m r a ha]; simp
    cases hr : r a b with
    | true =>
      rw [hr, if_pos rfl] at h
      have ih := paOf_l1 m hm r a ha n R d (b + 1) (acc ++ [⟨(a : Int), (b : Int)⟩]) (by omega) (by simp; omega) h
      refine Ev.step (fun k => ?_) ih
      rw [spec_paOf.l1, mat_len, if_pos (by omega), if_pos (by omega), if_pos (by omega), if_pos (by omega), hrow, if_pos (by omega), mat_at m r a b ha hb, hr, if_pos rfl, if_pos (by omega), w1 (by omega)]
    | false =>
      rw [hr, if_neg (by decide), List.append_nil] at h
      have ih := paOf_l1 m hm r a ha n R d (b + 1) acc (by omega) (by omega) h
      refine Ev.step (fun k => ?_) ih
      rw [spec_paOf.l1, mat_len, if_pos (by omega), if_pos (by omega), if_pos (by omega), if_pos (by omega), hrow, if_pos (by omega), mat_at m r a b ha hb, hr, if_neg (by decide), w1 (by omega)]
def pairsFrom (r : Rel) (m : Nat) : Nat → Nat → List S80
  | _, 0 => []
  | a, d + 1 => rowFrom r a (a + 1) (m - (a + 1)) ++ pairsFrom r m (a + 1) d
theorem rowFrom_len (r : Rel) (a : Nat) : ∀ (d b : Nat), (rowFrom r a b d).length ≤ d
  | 0, _ => Nat.le_refl _
  | d + 1, b => by
    have := rowFrom_len r a d (b + 1)
    rw [rowFrom, List.length_append]
    split <;> simp <;> omega
theorem paOf_l0 (m : Nat) (hm : m ≤ 12) (r : Rel) (n : Int) : ∀ (d a : Nat) (acc : List S80), a + d = m → acc.length ≤ 12 * a → Ev (fun k => spec_paOf.l0 k (mat m r) (m : Int) (a : Int) n acc) (n, acc ++ pairsFrom r m a d)
  | 0, a, acc, hd, hacc => by
    refine Ev.one (fun k => ?_)
    rw [spec_paOf.l0, if_neg (by omega), pairsFrom, List.append_nil]
  | d + 1, a, acc, hd, hacc => by
    have hl := rowFrom_len r a (m - (a + 1)) (a + 1)
    have ih := paOf_l0 m hm r n d (a + 1) (acc ++ rowFrom r a (a + 1) (m - (a + 1))) (by omega) (by rw [List.length_append]; omega)
    rw [List.append_assoc, ← pairsFrom] at ih
    have h := paOf_l1 m hm r a (by omega) n _ (m - (a + 1)) (a + 1) acc (by omega) (by omega) ih
    refine Ev.step (fun k => ?_) h
    rw [spec_paOf.l0, if_pos (by omega), w1 (by omega)]
def pairsOf (m : Nat) (r : Rel) : List S80 := pairsFrom r m 0 m
theorem paOf_ev (m : Nat) (hm : m ≤ 12) (r : Rel) : Ev (fun k => spec_paOf.f k (mat m r)) ((m : Int), pairsOf m r) := by
  unfold spec_paOf.f
  rw [mat_len]
  exact paOf_l0 m hm r m m 0 [] (by omega) (by simp)
theorem leP_iff (L : List Int) (x y : Int) : leP L x y = true ↔ (rd L y < rd L x ∨ (rd L x = rd L y ∧ x ≤ y)) := by
  unfold leP
  rw [Bool.not_eq_true', decide_eq_false_iff_not, cfP_lt]
  omega
theorem sortP_perm (L rest : List Int) : (sortP L rest).Perm rest := List.mergeSort_perm rest (leP L)
theorem sortP_pair (L rest : List Int) (hn : rest.Nodup) : (sortP L rest).Pairwise (bfr L) := by
  have h1 : (sortP L rest).Pairwise (fun a b => leP L a b = true) := List.pairwise_mergeSort (le := leP L) (fun a b c h1 h2 => by rw [leP_iff] at *; omega) (fun a b => by rw [Bool.or_eq_true, leP_iff, leP_iff]; omega) rest
  have h2 : (sortP L rest).Nodup := (sortP_perm L rest).nodup_iff.2 hn
  refine (List.Pairwise.and h1 h2).imp fun {a b} h => ?_
  have h3 := (leP_iff L a b).1 h.1
  have h4 : a ≠ b := h.2
  unfold bfr
  omega
theorem hh_sim (n : Nat) (hn : n ≤ 12) (l : List Int) (hl : l.length = n) : ∀ (d c : Nat) (rest L LS : List Int) (rel : Rel), rest.length = d → c + d = n → rest.Nodup → (∀ x ∈ rest, 0 ≤ x ∧ x < (n : Int)) → L.length = n → LS.length = n → (∀ i : Nat, i < n → 0 ≤ rd L (i : Int) ∧ rd L (i : Int) ≤ 12) → (∀ x ∈ rest, rd LS x = rd L x) → EGs (rest.map (rd L)) →
    ∃ rel' : Rel, outP d rest (tab n rel) L = some (tab n rel') ∧ Ev (fun k => spec_deMake.l0 k l LS (mat n rel) (flg n fun i => !inn rest i) (n : Int) (c : Int)) ((n : Int), pairsOf n rel')
  | 0, c, rest, L, LS, rel, hr, hc, _, _, _, _, _, _, _ => by
    refine ⟨rel, rfl, ?_⟩
    refine Ev.step (f := fun k => (spec_paOf.f k (mat n rel)).bind fun bt => some (bt.1, bt.2)) (fun k => ?_) (Ev.bind (paOf_ev n hn rel) (Ev.now _))
    rw [spec_deMake.l0, if_neg (by omega)]
  | d + 1, c, rest, L, LS, rel, hr, hc, hnd, hrg, hL, hLS, hb, hag, hE => by
    have hp := sortP_perm L rest
    have hpr := sortP_pair L rest hnd
    have hlen : (sortP L rest).length = d + 1 := by rw [hp.length_eq, hr]
    cases hs : sortP L rest with
    | nil => rw [hs] at hlen; simp at hlen
    | cons a0 rs =>
      rw [hs] at hp hpr hlen
      have hrl : rs.length = d := by simpa using hlen
      obtain ⟨hp1, hp2⟩ := List.pairwise_cons.1 hpr
      obtain ⟨hn1, hn2⟩ := List.nodup_cons.1 (hp.nodup_iff.2 hnd)
      have hmem : ∀ x, x ∈ rest ↔ x = a0 ∨ x ∈ rs := fun x => by rw [← hp.mem_iff, List.mem_cons]
      have ha0 := hrg a0 ((hmem a0).2 (.inl rfl))
      obtain ⟨a, rfl⟩ := Int.eq_ofNat_of_zero_le ha0.1
      have ha : a < n := by omega
      have hrs : ∀ x ∈ rs, 0 ≤ x ∧ x < (n : Int) := fun x hx => hrg x ((hmem x).2 (.inr hx))
      obtain ⟨δ, hδ⟩ := Int.eq_ofNat_of_zero_le (hb a ha).1
      have hδ12 : δ ≤ 12 := by have := (hb a ha).2; omega
      have hE2 : EGs ((δ : Int) :: rs.map (rd L)) := by
        have := EGs_perm (hp.symm.map (rd L)) hE
        rw [List.map_cons, hδ] at this
        exact this
      obtain ⟨g1, g2, e, g3⟩ := hE2
      have hV : ((δ : Int) :: rs.map (rd L)).Pairwise (fun a b => b ≤ a) := by
        have : (((a : Int) :: rs).map (rd L)).Pairwise (fun a b => b ≤ a) := by
          rw [List.pairwise_map]
          exact hpr.imp fun h => by unfold bfr at h; omega
        rw [List.map_cons, hδ] at this
        exact this
      obtain ⟨s1, s2, s3, s4, s5⟩ := hh_step δ (rs.map (rd L)) e hV (fun x hx => g2 x (List.mem_cons_of_mem _ hx)) g3 g1
      rw [List.length_map] at s1
      have htn : (rs.take δ).Nodup := hn2.sublist (List.take_sublist ..)
      have htm : ∀ b ∈ rs.take δ, 0 ≤ b ∧ b < (n : Int) := fun b hb => hrs b (List.mem_of_mem_take hb)
      have hpos : ∀ x ∈ rs.take δ, 1 ≤ rd L x := fun x hx => s2 _ (by rw [← List.map_take]; exact List.mem_map.2 ⟨x, hx, rfl⟩)
      have hL2 : ∀ x, 0 ≤ x → rd (decs (rs.take δ) L) x = if x ∈ rs.take δ then wrap64 (rd L x - 1) else rd L x := fun x hx => decs_rd (rs.take δ) L htn (fun b hb => by rw [hL]; exact htm b hb) x hx
      have hw : ∀ x ∈ rs.take δ, wrap64 (rd L x - 1) = rd L x - 1 := fun x hx => by
        have h1 := htm x hx
        obtain ⟨i, rfl⟩ := Int.eq_ofNat_of_zero_le h1.1
        have := hb i (by omega)
        rw [w64 (by omega) (by omega)]
      have hhs : rs.map (rd (decs (rs.take δ) L)) = hhStep δ (rs.map (rd L)) := by
        unfold hhStep
        have hdis : ∀ x ∈ rs.drop δ, x ∉ rs.take δ := fun x hx hx2 => by
          have h1 : (rs.take δ ++ rs.drop δ).Nodup := by rw [List.take_append_drop]; exact hn2
          exact (List.nodup_append.1 h1).2.2 x hx2 x hx rfl
        have e1 : rs.map (rd (decs (rs.take δ) L)) = (rs.take δ).map (rd (decs (rs.take δ) L)) ++ (rs.drop δ).map (rd (decs (rs.take δ) L)) := by rw [← List.map_append, List.take_append_drop]
        rw [e1, ← List.map_take, ← List.map_drop, List.map_map]
        congr 1
        · refine List.map_congr_left fun x hx => ?_
          rw [hL2 x (htm x hx).1, if_pos hx, hw x hx]; rfl
        · refine List.map_congr_left fun x hx => ?_
          rw [hL2 x (hrs x (List.mem_of_mem_drop hx)).1, if_neg (hdis x hx)]
      have hE3 : EGs (rs.map (rd (decs (rs.take δ) L))) := by rw [hhs]; exact ⟨s3, s4, _, s5⟩
      have hb3 : ∀ i : Nat, i < n → 0 ≤ rd (decs (rs.take δ) L) (i : Int) ∧ rd (decs (rs.take δ) L) (i : Int) ≤ 12 := fun i hi => by
        rw [hL2 _ (by omega)]
        have := hb i hi
        by_cases m : (i : Int) ∈ rs.take δ
        · rw [if_pos m, hw _ m]; have := hpos _ m; omega
        · rw [if_neg m]; exact this
      -- the reference's numbers behind the round
      have hag3 : ∀ x ∈ rs, rd (dk (inn (rs.take δ)) (LS.set a 0) n) x = rd (decs (rs.take δ) L) x := fun x hx => by
        have h1 := hrs x hx
        obtain ⟨i, rfl⟩ := Int.eq_ofNat_of_zero_le h1.1
        have hia : i ≠ a := fun e => hn1 (by rw [← e]; exact hx)
        rw [dk_rd _ _ n (by rw [List.length_set, hLS]; exact Nat.le_refl _) i, set_rd LS a i _ (by omega), if_neg hia, hL2 _ (by omega), hag _ ((hmem _).2 (.inr hx))]
        by_cases m : (i : Int) ∈ rs.take δ
        · rw [if_pos ⟨by omega, by unfold inn; exact decide_eq_true m⟩, if_pos m]
        · rw [if_neg (fun h => m (by have := h.2; unfold inn at this; exact of_decide_eq_true this)), if_neg m]
      obtain ⟨rel', o1, o2⟩ := hh_sim n hn l hl d (c + 1) rs (decs (rs.take δ) L) (dk (inn (rs.take δ)) (LS.set a 0) n) (addE a (rs.take δ) rel) hrl (by omega) hn2 hrs (by rw [decs_len]; exact hL) (by rw [dk_len, List.length_set]; exact hLS) hb3 hag3 hE3
      refine ⟨rel', ?_, ?_⟩
      · have hokL : P.okL L = true := List.all_eq_true.2 fun x hx => by
          obtain ⟨i, hi, rfl⟩ := List.getElem_of_mem hx
          have := hb i (by omega)
          have e : rd L (i : Int) = L[i] := by simp [rd, List.getD_eq_getElem?_getD, hi]
          rw [e] at this
          rw [Bool.and_eq_true, decide_eq_true_eq, decide_eq_true_eq]
          omega
        have hokR : P.okR L.length rest = true := List.all_eq_true.2 fun x hx => by
          have := hrg x hx
          rw [Bool.and_eq_true, decide_eq_true_eq, decide_eq_true_eq, hL]
          exact this
        rw [outP, hokL, hokR, Bool.and_self, if_pos rfl, hs]
        dsimp only
        rw [hδ, if_pos (by omega), Int.toNat_natCast, inP_f n hn a ha _ rel L htm, Option.bind_some]
        exact o1
      · have hpLS : rs.Pairwise (bfr LS) := by
          have h1 : rs.Pairwise (fun x y => (x ∈ rs ∧ y ∈ rs) ∧ bfr L x y) := by
            have := List.pairwise_iff_getElem.1 hp2
            exact List.pairwise_iff_getElem.2 fun i j hi hj hij => ⟨⟨List.getElem_mem _, List.getElem_mem _⟩, this i j hi hj hij⟩
          refine h1.imp fun {x y} h => ?_
          have e1 := hag x ((hmem x).2 (.inr h.1.1))
          have e2 := hag y ((hmem y).2 (.inr h.1.2))
          have h3 := h.2
          unfold bfr at *
          rw [e1, e2]; exact h3
        have hDn : (flg n fun i => !inn rest i).set a true = flg n fun i => !inn rs i := by
          rw [flg_set]
          refine flg_congr n _ _ fun i hi => ?_
          unfold inn
          by_cases e : i = a
          · rw [if_pos e, e]; symm; rw [Bool.not_eq_true']; exact decide_eq_false hn1
          · rw [if_neg e]
            congr 2
            exact propext ((hmem _).trans ⟨fun h => h.resolve_left (by omega), .inr⟩)
        have hLSa : rd LS (a : Int) = (δ : Int) := by rw [hag _ ((hmem _).2 (.inl rfl)), hδ]
        have hset : LS.set a (δ : Int) = LS := by
          apply List.ext_getElem?
          intro i
          rw [List.getElem?_set]
          by_cases e : a = i
          · subst e
            rw [if_pos rfl, if_pos (by omega)]
            unfold rd at hLSa
            rw [Int.toNat_natCast, List.getD_eq_getElem?_getD, List.getElem?_eq_getElem (by omega)] at hLSa
            rw [List.getElem?_eq_getElem (by omega)]
            simpa using hLSa.symm
          · rw [if_neg e]
        have h4 := mk_l4 n hn l (LS.set a 0) (by rw [List.length_set]; exact hLS) (mat n (addE a (rs.take δ) rel)) (flg n fun i => !inn rs i) (inn (rs.take δ)) (c : Int) ((n : Int), pairsOf n rel') (by rw [w1 (by omega)]; exact o2) n 0 (by omega)
        have h2 := mk_l2 n hn l LS hl hLS rel rest a rs ha hrs hn1 hn2 hpLS δ s1 (by omega) (c : Int) ((n : Int), pairsOf n rel') h4 δ 0 (by omega)
        rw [hset, List.take_zero] at h2
        have hpk : pk (fun i => !(fun i => !inn rest i) i) (fun i => rd LS (i : Int)) n = (a : Int) := by
          refine pk_eq _ _ n a ha ?_ fun x hx hx2 => ?_
          · dsimp only
            rw [Bool.not_not]
            unfold inn
            exact decide_eq_true ((hmem _).2 (.inl rfl))
          · dsimp only at hx2
            rw [Bool.not_not] at hx2
            unfold inn at hx2
            have hx3 := of_decide_eq_true hx2
            have e1 := hag _ hx3
            rw [hLSa, e1, ← hδ]
            rcases (hmem _).1 hx3 with h | h
            · right; rw [h]; exact ⟨rfl, by omega⟩
            · have := hp1 _ h
              unfold bfr at this
              omega
        have h1 := mk_l1 n hn l LS hLS (mat n rel) (fun i => !inn rest i) (c : Int) ((n : Int), pairsOf n rel') (by
          rw [hpk]
          have hfl : flg n (inn []) = List.replicate n false := by
            unfold flg
            rw [← map_range_const]
            exact map_range_congr n _ _ fun i _ => by unfold inn; simp
          rw [← hDn, hfl] at h2
          refine Ev.step (fun k => ?_) h2
          rw [spec_deMake.l1, if_neg (by omega), if_pos (by omega), if_pos (by rw [flg_len]; omega), if_pos (by omega), if_pos (by omega), hl, Int.toNat_natCast, Int.toNat_natCast]
          rfl) n 0 (by omega)
        refine Ev.step (fun k => ?_) h1
        rw [spec_deMake.l0, if_pos (by omega), hLS]
        rfl
def ints (l : List Nat) : List Int := l.map Int.ofNat
theorem ints_len (l : List Nat) : (ints l).length = l.length := by simp [ints]
theorem areWithin_f (l : List Int) (lo hi : Int) : impl_areWithin.f l lo hi = some (inAll l lo hi) := rfl

theorem within_f (a lo hi : Int) : impl_within.f a lo hi = some (decide (lo ≤ a) && decide (a ≤ hi)) := by
  unfold impl_within.f
  by_cases h : lo ≤ a
  · rw [if_pos h]; simp [h]
  · rw [if_neg h]; simp [h]
theorem isNumbers_f (l : List Int) (hl : l.length < 4611686018427387904) : impl_IsNumbers.f l = some (isNums l) := by
  unfold impl_IsNumbers.f impl_areCrowd.f isNums
  rw [within_f]
  by_cases h : l.length ≤ 12
  · have e : (decide (0 ≤ (l.length : Int)) && decide ((l.length : Int) ≤ 12)) = true := by simp; omega
    rw [e]
    simp only [Option.bind_some, if_true, h, decide_true, Bool.true_and]
    rw [w64 (by omega) (by omega), areWithin_f]; rfl
  · have e : (decide (0 ≤ (l.length : Int)) && decide ((l.length : Int) ≤ 12)) = false := by simp; omega
    rw [e]
    simp [h]

theorem l1Own_f (l : List Int) (h : l.length < 17592186044416) : spec_l1Own.f l = some l := by
  unfold spec_l1Own.f
  simp only [Option.bind_some, List.length_nil, Nat.zero_add, if_pos h, List.nil_append]
theorem map_rd (l : List Int) : (ints (List.range l.length)).map (rd l) = l := by
  unfold ints
  rw [List.map_map]
  apply List.ext_getElem (by simp)
  intro i h1 h2
  simp [rd, List.getD_eq_getElem?_getD, h2]
def natPairs (m : Nat) (l : List S80) : Prop := ∀ x ∈ l, ∃ a b : Nat, x = ⟨(a : Int), (b : Int)⟩ ∧ a < b ∧ b < m
theorem mat_false (m : Nat) : mat m (fun _ _ => false) = List.replicate m (List.replicate m false) := by
  unfold mat; rw [map_range_const, map_range_const]
theorem rdT_mid (pre rest : List S80) (x : S80) : rd_T80 (pre ++ x :: rest) (pre.length : Int) = x := by
  unfold rd_T80
  simp [List.getD_eq_getElem?_getD]
theorem hasP_snoc (pre : List S80) (a b x y : Nat) : hasP (pre ++ [⟨(a : Int), (b : Int)⟩]) x y = (hasP pre x y || ((decide (a = x) && decide (b = y)) || (decide (a = y) && decide (b = x)))) := by
  unfold hasP
  rw [List.any_append]
  congr 1
  simp only [List.any_cons, List.any_nil, Bool.or_false]
  have e : ∀ u v : Nat, ((u : Int) == (v : Int)) = decide (u = v) := fun u v => by
    by_cases h : u = v
    · simp [h]
    · have : ¬ (u : Int) = (v : Int) := by omega
      simp [h, this]
  rw [e, e, e, e]
theorem upd2_hasP (pre : List S80) (a b : Nat) : upd (upd (hasP pre) a b true) b a true = hasP (pre ++ [⟨(a : Int), (b : Int)⟩]) := by
  funext x y
  rw [hasP_snoc]
  unfold upd
  by_cases h1 : x = b ∧ y = a
  · simp [h1]
  · by_cases h2 : x = a ∧ y = b
    · simp [h2]
    · have e1 : (decide (a = x) && decide (b = y)) = false := by simp; intro h3 h4; exact h2 ⟨h3.symm, h4.symm⟩
      have e2 : (decide (a = y) && decide (b = x)) = false := by simp; intro h3 h4; exact h1 ⟨h4.symm, h3.symm⟩
      simp [h1, h2, e1, e2]
theorem paTable_l1 (m : Nat) (l : List S80) (hl : l.length < 4611686018427387904) (hn : natPairs m l) : ∀ (rest pre : List S80), l = pre ++ rest → Ev (fun k => spec_paTable.l1 k (mat m (hasP pre)) l (l.length : Int) (pre.length : Int)) (mat m (hasP l))
  | [], pre, h => by
    refine Ev.one (fun k => ?_)
    have e : l = pre := by rw [h]; simp
    rw [spec_paTable.l1, if_neg (by rw [e]; omega), e]
  | x :: rest, pre, h => by
    have hlen : pre.length < l.length := by rw [h]; simp
    obtain ⟨a, b, rfl, hab, hb⟩ := hn x (by rw [h]; simp)
    have hx : rd_T80 l (pre.length : Int) = ⟨(a : Int), (b : Int)⟩ := by rw [h]; exact rdT_mid pre rest _
    have ih := paTable_l1 m l hl hn rest (pre ++ [⟨(a : Int), (b : Int)⟩]) (by rw [h]; simp)
    rw [List.length_append, List.length_singleton, ← upd2_hasP] at ih
    refine Ev.step (fun k => ?_) ih
    have hrow : (rd_L3 (mat m (hasP pre)) (a : Int)).length = m := by rw [mat_row _ _ _ (by omega)]; simp
    have hrow2 : (rd_L3 (mat m (upd (hasP pre) a b true)) (b : Int)).length = m := by rw [mat_row _ _ _ (by omega)]; simp
    rw [spec_paTable.l1, if_pos (by omega), if_pos (by omega), if_pos (by omega), hx]
    dsimp only
    rw [mat_len, hrow, if_pos (by omega), if_pos (by omega), if_pos (by omega), if_pos (by omega), Int.toNat_natCast, Int.toNat_natCast, mat_set _ _ _ _ _ (by omega)]
    simp only [Option.bind_some]
    rw [if_pos (by omega), hrow2, if_pos (by omega), mat_set _ _ _ _ _ (by omega), w1 (by omega)]
theorem paTable_l0 (m : Nat) (hm : m ≤ 12) (l : List S80) (hl : l.length < 4611686018427387904) (hn : natPairs m l) : ∀ (d i : Nat), i + d = m → Ev (fun k => spec_paTable.l0 k (List.replicate i (List.replicate m false)) (i : Int) (m : Int) l) (mat m (hasP l))
  | 0, i, hd => by
    refine Ev.step (fun k => ?_) (paTable_l1 m l hl hn l [] rfl)
    obtain rfl : i = m := by omega
    rw [spec_paTable.l0, if_neg (by omega), hasP_nil, mat_false]
    rfl
  | d + 1, i, hd => by
    refine Ev.step (fun k => ?_) (paTable_l0 m hm l hl hn d (i + 1) (by omega))
    rw [spec_paTable.l0, if_pos (by omega), if_pos (by omega), if_pos (by omega), if_pos (by simp; omega), w1 (by omega), Int.toNat_natCast, List.replicate_succ']
theorem paTable_ev (m : Nat) (hm : m ≤ 12) (l : List S80) (hl : l.length < 4611686018427387904) (hn : natPairs m l) : Ev (fun k => spec_paTable.f k (m : Int) l) (mat m (hasP l)) := by
  unfold spec_paTable.f
  exact paTable_l0 m hm l hl hn m 0 (by omega)
theorem pairsFrom_len (r : Rel) (m : Nat) (hm : m ≤ 12) : ∀ (d a : Nat), (pairsFrom r m a d).length ≤ 12 * d
  | 0, _ => Nat.le_refl _
  | d + 1, a => by
    have := pairsFrom_len r m hm d (a + 1)
    have := rowFrom_len r a (m - (a + 1)) (a + 1)
    rw [pairsFrom, List.length_append]; omega
theorem pairsOf_len (m : Nat) (hm : m ≤ 12) (r : Rel) : (pairsOf m r).length ≤ 144 := by
  have := pairsFrom_len r m hm m 0
  unfold pairsOf; omega
theorem and16 (x y : Nat) (hx : x < 65536) (hy : y < 65536) : Go.bits .and .u16 (x : Int) (y : Int) = ((x &&& y : Nat) : Int) := (bits_nat .u16 16 (by decide) wraps_u16 x y hx hy).1
theorem has_f (m : Nat) (hm : m ≤ 12) (r : Rel) (a b : Nat) (ha : a < m) (hb : b < m) : impl_table_has.f (tab m r) (a : Int) (b : Int) = some (r a b) := by
  unfold impl_table_has.f
  rw [if_pos (by omega), if_pos (by rw [tab_len]; omega), if_pos (by omega), tab_at m r a ha]
  have hX := bitsOf_u16 m hm (r a)
  have hs : shr .u16 ((bitsOf m (r a) : Nat) : Int) (b : Int) = ((bitsOf m (r a) / 2 ^ b : Nat) : Int) := by
    unfold shr
    rw [Int.toNat_natCast, Nat.min_eq_left (show b ≤ IntKind.u16.bits from by show b ≤ 16; omega)]
    simp
  have hd : bitsOf m (r a) / 2 ^ b < 65536 := Nat.lt_of_le_of_lt (Nat.div_le_self _ _) hX
  have ht := testBit_bitsOf m (r a) b
  rw [Nat.testBit_eq_decide_div_mod_eq] at ht
  have e1 : Go.bits .and .u16 ((bitsOf m (r a) / 2 ^ b : Nat) : Int) 1 = ((bitsOf m (r a) / 2 ^ b % 2 : Nat) : Int) := by
    have := and16 (bitsOf m (r a) / 2 ^ b) 1 hd (by decide)
    rw [Nat.and_one_is_mod] at this
    exact this
  rw [hs, e1]
  simp only [hb, decide_true, Bool.true_and] at ht
  rw [← ht]
  congr 1
  by_cases h : bitsOf m (r a) / 2 ^ b % 2 = 1
  · simp [h]
  · have h0 : bitsOf m (r a) / 2 ^ b % 2 = 0 := by omega
    simp [h0]
theorem party_l1 (m : Nat) (hm : m ≤ 12) (r : Rel) (a : Nat) (ha : a < m) (n : Int) (R : Int × List S80) : ∀ (d b : Nat) (acc : List S80), b + d = m → acc.length ≤ 12 * a + b → Ev (fun k => impl_table_party.l0 k (tab m r) (m : Int) ((a + 1 : Nat) : Int) n (acc ++ rowFrom r a b d)) R → Ev (fun k => impl_table_party.l1 k (tab m r) (a : Int) (b : Int) (m : Int) (a : Int) n acc) R
  | 0, b, acc, hd, hacc, h => by
    refine Ev.step (fun k => ?_) h
    rw [impl_table_party.l1, tab_len, if_neg (by omega), w1 (by omega), rowFrom, List.append_nil]
  | d + 1, b, acc, hd, hacc, h => by
    have hb : b < m := by omega
    rw [rowFrom, ← List.append_assoc] at h
    cases hr : r a b with
    | true =>
      rw [hr, if_pos rfl] at h
      have ih := party_l1 m hm r a ha n R d (b + 1) (acc ++ [⟨(a : Int), (b : Int)⟩]) (by omega) (by simp; omega) h
      refine Ev.step (fun k => ?_) ih
      rw [impl_table_party.l1, tab_len, if_pos (by omega), has_f m hm r a b ha hb, hr]
      simp only [Option.bind_some, if_true]
      rw [if_pos (by omega), w1 (by omega)]
    | false =>
      rw [hr, if_neg (by decide), List.append_nil] at h
      have ih := party_l1 m hm r a ha n R d (b + 1) acc (by omega) (by omega) h
      refine Ev.step (fun k => ?_) ih
      rw [impl_table_party.l1, tab_len, if_pos (by omega), has_f m hm r a b ha hb, hr, w1 (by omega)]
      rfl
theorem party_l0 (m : Nat) (hm : m ≤ 12) (r : Rel) (n : Int) : ∀ (d a : Nat) (acc : List S80), a + d = m → acc.length ≤ 12 * a → Ev (fun k => impl_table_party.l0 k (tab m r) (m : Int) (a : Int) n acc) (n, acc ++ pairsFrom r m a d)
  | 0, a, acc, hd, hacc => by
    refine Ev.one (fun k => ?_)
    rw [impl_table_party.l0, if_neg (by omega), pairsFrom, List.append_nil]
  | d + 1, a, acc, hd, hacc => by
    have hl := rowFrom_len r a (m - (a + 1)) (a + 1)
    have ih := party_l0 m hm r n d (a + 1) (acc ++ rowFrom r a (a + 1) (m - (a + 1))) (by omega) (by rw [List.length_append]; omega)
    rw [List.append_assoc, ← pairsFrom] at ih
    have h := party_l1 m hm r a (by omega) n _ (m - (a + 1)) (a + 1) acc (by omega) (by omega) ih
    refine Ev.step (fun k => ?_) h
    rw [impl_table_party.l0, if_pos (by omega), w1 (by omega)]
theorem party_ev (m : Nat) (hm : m ≤ 12) (r : Rel) : Ev (fun k => impl_table_party.f k (tab m r)) ((m : Int), pairsOf m r) := by
  unfold impl_table_party.f
  rw [tab_len]
  exact party_l0 m hm r m m 0 [] (by omega) (by simp)

theorem rd_ints (n : Nat) : (ints (List.range n)).Nodup ∧ ∀ x ∈ ints (List.range n), 0 ≤ x ∧ x < (n : Int) := by
  refine ⟨?_, fun x hx => ?_⟩
  · unfold ints List.Nodup
    rw [List.pairwise_map]
    exact List.nodup_range.imp fun h e => h (Int.ofNat.inj e)
  · unfold ints at hx
    obtain ⟨i, hi, rfl⟩ := List.mem_map.1 hx
    have := List.mem_range.1 hi
    exact ⟨Int.natCast_nonneg _, by show ((i : Nat) : Int) < _; omega⟩
theorem tab_false (m : Nat) : tab m (fun _ _ => false) = List.replicate m 0 := by
  unfold tab
  rw [← map_range_const (0 : Int) m]
  refine map_range_congr m _ _ fun i hi => ?_
  have : bitsOf m (fun _ => false) = 0 := by
    apply Nat.eq_of_testBit_eq
    intro i
    rw [testBit_bitsOf]; simp
  rw [this]; rfl
theorem upTo_l0 (m : Nat) (hm : m ≤ 1000) : ∀ (d i : Nat), i + d = m → Ev (fun k => impl_upTo.l0 k (ints (List.range i)) (m : Int) (i : Int)) (ints (List.range m))
  | 0, i, hd => by
    obtain rfl : i = m := by omega
    refine Ev.one fun k => ?_
    rw [impl_upTo.l0, if_neg (by omega)]
  | d + 1, i, hd => by
    have ih := upTo_l0 m hm d (i + 1) (by omega)
    have e : ints (List.range (i + 1)) = ints (List.range i) ++ [(i : Int)] := by unfold ints; rw [List.range_succ, List.map_append]; rfl
    rw [e] at ih
    refine Ev.step (fun k => ?_) ih
    rw [impl_upTo.l0, if_pos (by omega), if_pos (by rw [ints_len, List.length_range]; omega), w1 (by omega)]
theorem upTo_ev (m : Nat) (hm : m ≤ 1000) : Ev (fun k => impl_upTo.f k (m : Int)) (ints (List.range m)) := by
  unfold impl_upTo.f
  exact upTo_l0 m hm m 0 (by omega)
theorem PartyOfNumbers_common (l : List Int) (hl : l.length ≤ 1048576) : ∃ R : Int × List S80 × Bool, Ev (fun k => spec_PartyOfNumbers.f k l) R ∧ Ev (fun k => impl_PartyOfNumbers.f k l) R ∧ R.2.1.length ≤ 1048576 := by
  have hcan : Ev (fun k => impl_CanBe.f k l) (if isNums l = true then (canR l, true) else (false, false)) := by
    unfold impl_CanBe.f
    simp only [isNumbers_f l (by omega), Option.bind_some]
    cases h : isNums l with
    | true => simp only [if_true]; exact Ev.bind (canBe_ev l h) (Ev.now _)
    | false => simp only [Bool.false_eq_true, if_false]; exact Ev.now _
  cases h : isNums l with
  | false =>
    rw [h] at hcan
    refine ⟨(0, [], false), ?_, ?_, Nat.zero_le _⟩
    · unfold spec_PartyOfNumbers.f
      refine Ev.bind (deGood_ev l) ?_
      simp only [h, Bool.false_eq_true, if_false]
      exact Ev.now _
    · unfold impl_PartyOfNumbers.f
      refine Ev.bind hcan ?_
      simp only [Bool.false_eq_true, if_false]
      exact Ev.now _
  | true =>
    rw [h, if_pos rfl] at hcan
    have hb := isNums_bounds h
    cases hc : canR l with
    | false =>
      rw [hc] at hcan
      refine ⟨(0, [], false), ?_, ?_, Nat.zero_le _⟩
      · unfold spec_PartyOfNumbers.f
        refine Ev.bind (deGood_ev l) ?_
        simp only [h, if_true]
        refine Ev.bind (deCan_ev l h) ?_
        simp only [hc, Bool.false_eq_true, if_false]
        exact Ev.now _
      · unfold impl_PartyOfNumbers.f
        refine Ev.bind hcan ?_
        simp only [Bool.false_eq_true, if_false]
        exact Ev.now _
    | true =>
      rw [hc] at hcan
      obtain ⟨i1, i2⟩ := rd_ints l.length
      obtain ⟨rel', o1, o2⟩ := hh_sim l.length hb.1 l rfl l.length 0 (ints (List.range l.length)) l l (fun _ _ => false) (by rw [ints_len, List.length_range]) (by omega) i1 i2 rfl rfl (fun i hi => by
        have e : rd l (i : Int) = l[i] := by simp [rd, List.getD_eq_getElem?_getD, hi]
        rw [e]; exact hb.2 _ (List.getElem_mem _)) (fun _ _ => rfl) (by rw [map_rd]; exact EGs_of_can l h hc)
      refine ⟨((l.length : Int), pairsOf l.length rel', true), ?_, ?_, ?_⟩
      · unfold spec_PartyOfNumbers.f
        refine Ev.bind (deGood_ev l) ?_
        simp only [h, if_true]
        refine Ev.bind (deCan_ev l h) ?_
        simp only [hc, if_true]
        have hmk : Ev (fun k => spec_deMake.f k l) ((l.length : Int), pairsOf l.length rel') := by
          unfold spec_deMake.f
          simp only [l1Own_f l (by omega), Option.bind_some]
          have ht := paTable_ev l.length hb.1 [] (by simp) (fun x hx => by cases hx)
          refine Ev.bind ht ?_
          simp only [if_pos (show (0 : Int) ≤ (l.length : Int) by omega), if_pos (show ((l.length : Int)).toNat ≤ 281474976710656 by omega), Int.toNat_natCast, if_pos (show l.length ≤ 281474976710656 by omega)]
          have hfl : (flg l.length fun i => !inn (ints (List.range l.length)) i) = List.replicate l.length false := by
            unfold flg
            rw [← map_range_const]
            refine map_range_congr l.length _ _ fun i hi => ?_
            unfold inn
            rw [Bool.not_eq_false', decide_eq_true_eq]
            unfold ints
            exact List.mem_map.2 ⟨i, List.mem_range.2 hi, rfl⟩
          rw [hfl] at o2
          rw [hasP_nil]
          exact o2
        exact Ev.bind hmk (Ev.now _)
      · unfold impl_PartyOfNumbers.f
        refine Ev.bind hcan ?_
        simp only [if_true, if_pos hb.1]
        refine Ev.bind (upTo_ev l.length (by omega)) ?_
        simp only [ints_len, List.length_range, if_true]
        rw [← tab_false]
        simp only [o1, Option.bind_some]
        exact Ev.bind (party_ev l.length hb.1 rel') (Ev.now _)
      · have := pairsOf_len l.length hb.1 rel'
        show (pairsOf l.length rel').length ≤ 1048576
        omega

theorem eqIntS_l0 (a b : List Int) (h : a.length = b.length) (hl : a.length < 4611686018427387904) : ∀ (d i : Nat), i + d = a.length → (∀ j, j < i → a.getD j 0 = b.getD j 0) → Ev (fun k => laws_eqIntS.l0 k a b i) (decide (a = b))
  | 0, i, hd, hj => by
    refine Ev.one (fun k => ?_)
    have : a = b := ext_getD h (fun j hj' => hj j (by omega))
    rw [laws_eqIntS.l0, if_neg (by omega)]; simp [this]
  | d + 1, i, hd, hj => by
    by_cases e : a.getD i 0 = b.getD i 0
    · refine Ev.step (f := fun k => laws_eqIntS.l0 k a b ((i + 1 : Nat) : Int)) (fun k => ?_) (eqIntS_l0 a b h hl d (i + 1) (by omega) ?_)
      · rw [laws_eqIntS.l0, if_pos (by omega), if_pos (by omega), if_pos (by omega), if_pos (by exact e), w1 (by omega)]
      · intro j hj'
        by_cases e2 : j = i
        · rw [e2]; exact e
        · exact hj j (by omega)
    · refine Ev.one (fun k => ?_)
      have : a ≠ b := fun h => e (by rw [h])
      rw [laws_eqIntS.l0, if_pos (by omega), if_pos (by omega), if_pos (by omega), if_neg (by exact e)]; simp [this]
theorem eqIntS_ev (a b : List Int) (hl : a.length < 4611686018427387904) : Ev (fun k => laws_eqIntS.f k a b) (decide (a = b)) := by
  unfold laws_eqIntS.f
  by_cases h : a.length = b.length
  · simp only [if_pos (show (a.length : Int) = (b.length : Int) by omega)]
    exact eqIntS_l0 a b h hl a.length 0 (by omega) (fun j hj => absurd hj (Nat.not_lt_zero _))
  · simp only [if_neg (show ¬ (a.length : Int) = (b.length : Int) by omega)]
    have : a ≠ b := fun e => h (by rw [e])
    exact Ev.one (fun k => by simp [this])
theorem eqIntS_self (a : List Int) (hl : a.length < 4611686018427387904) : Ev (fun k => laws_eqIntS.f k a a) true := by
  have h := eqIntS_ev a a hl
  rwa [decide_eq_true rfl] at h
theorem eqPairS_l0 (l : List S80) (hl : l.length < 4611686018427387904) : ∀ (d i : Nat), i + d = l.length → Ev (fun k => laws_eqPairS.l0 k l l i) true
  | 0, i, hd => by
    refine Ev.one (fun k => ?_)
    rw [laws_eqPairS.l0, if_neg (by omega)]
  | d + 1, i, hd => by
    refine Ev.step (fun k => ?_) (eqPairS_l0 l hl d (i + 1) (by omega))
    rw [laws_eqPairS.l0, if_pos (by omega), if_pos (by omega), if_pos (by omega), laws_eqPair.f, if_pos rfl, if_pos rfl, w1 (by omega)]
    rfl
theorem eqParty_self (a : Int) (l : List S80) (hl : l.length < 4611686018427387904) : Ev (fun k => laws_eqParty.f k a l a l) true := by
  unfold laws_eqParty.f laws_eqPairS.f
  simp only [if_true]
  have h : Ev (fun k => laws_eqPairS.l0 k l l 0) true := by simpa using eqPairS_l0 l hl l.length 0 (by omega)
  refine Ev.bind h ?_
  simp only [if_true]
  exact Ev.now _

/-- The pairs bear the marks m, m+1, .. -/
def MarkedP (m : Int) (z : List S80) : Prop := ∀ j, j < z.length → z[j]? = some ⟨m + 2 * j, m + 2 * j + 1⟩
theorem getD_of_get {α : Type} (l : List α) (i : Nat) (d x : α) (h : l[i]? = some x) : l.getD i d = x := by rw [List.getD_eq_getElem?_getD, h]; rfl
theorem heldPairS_l0 (m : Int) (z : List S80) (h0 : 0 ≤ m) (hm : m + 2 * z.length < 4611686018427387904) (hz : MarkedP m z) : ∀ (d i : Nat), i + d = z.length → Ev (fun k => laws_heldPairS.l0 k z (m + 2 * i) i) (m + 2 * z.length)
  | 0, i, hd => by
    refine Ev.one (fun k => ?_)
    rw [laws_heldPairS.l0, if_neg (by omega), show i = z.length by omega]
  | d + 1, i, hd => by
    have hx : rd_T80 z (i : Int) = ⟨m + 2 * i, m + 2 * i + 1⟩ := getD_of_get z i _ _ (hz i (by omega))
    refine Ev.step (fun k => ?_) (heldPairS_l0 m z h0 hm hz d (i + 1) (by omega))
    rw [laws_heldPairS.l0, if_pos (by omega), if_pos (by omega), hx, if_pos rfl, w64 (i := m + 2 * (i : Int) + 1) (by omega) (by omega), if_pos rfl, w1 (by omega), w64 (by omega) (by omega), show m + 2 * (i : Int) + 1 + 1 = m + 2 * ((i + 1 : Nat) : Int) by omega]
theorem heldParty_ev (a : Int) (z : List S80) (m : Int) (h0 : 0 ≤ m) (hm : m + 2 * z.length < 4611686018427387904) (hz : MarkedP m z) : Ev (fun k => laws_heldParty.f k a z m) (m + 2 * z.length) := by
  unfold laws_heldParty.f laws_heldPairS.f
  have hE : Ev (fun k => laws_heldPairS.l0 k z m 0) (m + 2 * z.length) := by simpa using heldPairS_l0 m z h0 hm hz z.length 0 (by omega)
  refine Ev.bind hE ?_
  simp only [if_neg (show ¬ (m + 2 * (z.length : Int) < 0) by omega)]
  exact Ev.now _

/-- The list bears the marks m, m+1, .. -/
def Marked (m : Int) (z : List Int) : Prop := ∀ j, j < z.length → z.getD j 0 = m + j
theorem markIntS_l0 (m : Int) (n : Nat) (h0 : 0 ≤ m) (hm : m + n < 4611686018427387904) : ∀ (d i : Nat) (y : List Int), i + d = n → y.length = n → (∀ j, j < i → y.getD j 0 = m + j) → ∃ z : List Int, z.length = n ∧ Marked m z ∧ Ev (fun k => laws_markIntS.l0 k y (m + i) i) (m + n, z)
  | 0, i, y, hd, hy, h => by
    refine ⟨y, hy, fun j hj => h j (by omega), Ev.one (fun k => ?_)⟩
    rw [laws_markIntS.l0, if_neg (by omega), show i = n by omega]
  | d + 1, i, y, hd, hy, h => by
    obtain ⟨z, hz, hj, hE⟩ := markIntS_l0 m n h0 hm d (i + 1) (y.set i (m + i)) (by omega) (by simpa using hy) (fun j hj => by
      rw [getD_set _ _ _ _ (by omega)]
      by_cases e : i = j
      · simp [e]
      · rw [if_neg e]; exact h j (by omega))
    refine ⟨z, hz, hj, Ev.step (fun k => ?_) hE⟩
    rw [laws_markIntS.l0, if_pos (by omega), if_pos (by omega), w1 (by omega), w64 (by omega) (by omega), show m + (i : Int) + 1 = m + ((i + 1 : Nat) : Int) by omega]
    rfl
theorem markIntS_ev (y : List Int) (m : Int) (h0 : 0 ≤ m) (hm : m + y.length < 4611686018427387904) : ∃ z : List Int, z.length = y.length ∧ Marked m z ∧ Ev (fun k => laws_markIntS.f k y m) (m + y.length, z) := by
  obtain ⟨z, hz, hj, hE⟩ := markIntS_l0 m y.length h0 hm y.length 0 y (by omega) rfl (fun j hj => absurd hj (Nat.not_lt_zero _))
  refine ⟨z, hz, hj, ?_⟩
  unfold laws_markIntS.f
  simpa using hE
theorem rdT_set (y : List S80) (i : Nat) (v : S80) (h : i < y.length) : rd_T80 (y.set i v) (i : Int) = v := getD_of_get _ i _ _ (by rw [List.getElem?_set]; simp [h])
theorem markPairS_l0 (m : Int) (n : Nat) (h0 : 0 ≤ m) (hm : m + 2 * n < 4611686018427387904) : ∀ (d i : Nat) (y : List S80), i + d = n → y.length = n → (∀ j, j < i → y[j]? = some ⟨m + 2 * j, m + 2 * j + 1⟩) → ∃ z : List S80, z.length = n ∧ MarkedP m z ∧ Ev (fun k => laws_markPairS.l0 k y (m + 2 * i) i) (m + 2 * n, z)
  | 0, i, y, hd, hy, h => by
    refine ⟨y, hy, fun j hj => h j (by omega), Ev.one (fun k => ?_)⟩
    rw [laws_markPairS.l0, if_neg (by omega), show i = n by omega]
  | d + 1, i, y, hd, hy, h => by
    have hi : i < y.length := by omega
    obtain ⟨z, hz, hj, hE⟩ := markPairS_l0 m n h0 hm d (i + 1) (y.set i ⟨m + 2 * i, m + 2 * i + 1⟩) (by omega) (by simpa using hy) (fun j hj => by
      rw [List.getElem?_set]
      by_cases e : i = j
      · subst e; simp [hi]
      · rw [if_neg e]; exact h j (by omega))
    refine ⟨z, hz, hj, Ev.step (fun k => ?_) hE⟩
    rw [laws_markPairS.l0, if_pos (by omega), if_pos (by omega)]
    simp only [Option.bind_some, Int.toNat_natCast]
    rw [rdT_set _ _ _ (by omega), List.set_set, w1 (by omega), w64 (i := m + 2 * (i : Int) + 1) (by omega) (by omega), w64 (by omega) (by omega), show m + 2 * (i : Int) + 1 + 1 = m + 2 * ((i + 1 : Nat) : Int) by omega]
theorem markParty_ev (a : Int) (y : List S80) (m : Int) (h0 : 0 ≤ m) (hm : m + 2 * y.length < 4611686018427387904) : ∃ z : List S80, z.length = y.length ∧ MarkedP m z ∧ Ev (fun k => laws_markParty.f k a y m) (m + 2 * y.length, z) := by
  obtain ⟨z, hz, hj, hE⟩ := markPairS_l0 m y.length h0 hm y.length 0 y (by omega) rfl (fun j hj => absurd hj (Nat.not_lt_zero _))
  refine ⟨z, hz, hj, ?_⟩
  unfold laws_markParty.f laws_markPairS.f
  have hE' : Ev (fun k => laws_markPairS.l0 k y m 0) (m + 2 * y.length, z) := by simpa using hE
  exact Ev.bind hE' (Ev.now _)
theorem toIntS_l0 (l : List Int) (hl : l.length < 4611686018427387904) : ∀ (d i : Nat) (y : List Int), i + d = l.length → y.length = l.length → (∀ j, j < i → y.getD j 0 = l.getD j 0) → Ev (fun k => laws_toIntS.l0 k l y i) l
  | 0, i, y, hd, hy, h => by
    refine Ev.one (fun k => ?_)
    rw [laws_toIntS.l0, if_neg (by omega), ext_getD hy (fun j hj => h j (by omega))]
  | d + 1, i, y, hd, hy, h => by
    refine Ev.step (f := fun k => laws_toIntS.l0 k l (y.set i (l.getD i 0)) ((i + 1 : Nat) : Int)) (fun k => ?_) (toIntS_l0 l hl d (i + 1) _ (by omega) (by simpa using hy) ?_)
    · rw [laws_toIntS.l0, if_pos (by omega), if_pos (by omega), if_pos (by omega), w1 (by omega)]; rfl
    · intro j hj
      rw [getD_set _ _ _ _ (by omega)]
      by_cases e : i = j
      · simp [e]
      · rw [if_neg e]; exact h j (by omega)
theorem toIntS_ev (l : List Int) (hl : l.length ≤ 35184372088832) : Ev (fun k => laws_toIntS.f k l) l := by
  unfold laws_toIntS.f
  simp only [if_pos (show (0 : Int) ≤ (l.length : Int) by omega), if_pos (show ((l.length : Int) : Int).toNat ≤ 35184372088832 by simpa using hl)]
  exact toIntS_l0 l (by omega) l.length 0 _ (by omega) (by simp) (fun j hj => absurd hj (Nat.not_lt_zero _))
theorem FnExactPartyOfNumbers : laws_FnExactPartyOfNumbers.Pure := by
  intro l0 hm0 hb0 hw0
  refine Ev.rounds ?_
  unfold laws_FnExactPartyOfNumbers.f
  by_cases hg0 : (l0.length : Int) > 1048576
  · simp only [if_pos hg0]; exact Ev.now _
  simp only [if_neg hg0]
  have hlen0 : l0.length ≤ 1048576 := by omega
  obtain ⟨R, hs, hi, hr0⟩ := PartyOfNumbers_common l0 (by omega)
  refine Ev.bind (toIntS_ev l0 (by omega)) ?_
  refine Ev.bind hs ?_
  try simp only [if_true, if_false, bne_self_eq_false, Bool.false_eq_true, ↓reduceIte, decide_true]
  refine Ev.bind (toIntS_ev l0 (by omega)) ?_
  refine Ev.bind hi ?_
  try simp only [if_true, if_false, bne_self_eq_false, Bool.false_eq_true, ↓reduceIte, decide_true]
  refine Ev.bind (eqParty_self R.1 R.2.1 (by omega)) ?_
  try simp only [if_true, if_false, bne_self_eq_false, Bool.false_eq_true, ↓reduceIte, decide_true]
  try simp only [if_true, if_false, bne_self_eq_false, Bool.false_eq_true, ↓reduceIte, decide_true]
  refine Ev.step (fun k => rfl) ?_
  simp only [laws_FnExactPartyOfNumbers.j0]
  try simp only [if_true, if_false, bne_self_eq_false, Bool.false_eq_true, ↓reduceIte, decide_true]
  refine Ev.bind (toIntS_ev l0 (by omega)) ?_
  refine Ev.bind (eqIntS_self l0 (by omega)) ?_
  try simp only [if_true, if_false, bne_self_eq_false, Bool.false_eq_true, ↓reduceIte, decide_true]
  obtain ⟨zk1, hzk1, _, hEk1⟩ := markIntS_ev l0 (1 : Int) (by omega) (by omega)
  refine Ev.bind hEk1 ?_
  try simp only [if_true, if_false, bne_self_eq_false, Bool.false_eq_true, ↓reduceIte, decide_true]
  simp only [if_neg (show ¬ (((1 : Int) + (l0.length : Int)) < 0) by omega)]
  refine Ev.bind (eqParty_self R.1 R.2.1 (by omega)) ?_
  try simp only [if_true, if_false, bne_self_eq_false, Bool.false_eq_true, ↓reduceIte, decide_true]
  try simp only [if_true, if_false, bne_self_eq_false, Bool.false_eq_true, ↓reduceIte, decide_true]
  refine Ev.step (fun k => rfl) ?_
  simp only [laws_FnExactPartyOfNumbers.j1]
  try simp only [if_true, if_false, bne_self_eq_false, Bool.false_eq_true, ↓reduceIte, decide_true]
  obtain ⟨zm, hzm, hmm, hEm⟩ := markParty_ev R.1 R.2.1 1 (by omega) (by omega)
  refine Ev.bind hEm ?_
  try simp only [if_true, if_false, bne_self_eq_false, Bool.false_eq_true, ↓reduceIte, decide_true]
  refine Ev.bind (heldParty_ev R.1 zm 1 (by omega) (by omega) hmm) ?_
  simp only [hzm, if_neg (show ¬ ((1 + 2 * (R.2.1.length : Int)) < 0) by omega), if_true]
  refine Ev.bind (toIntS_ev l0 (by omega)) ?_
  refine Ev.bind hi ?_
  try simp only [if_true, if_false, bne_self_eq_false, Bool.false_eq_true, ↓reduceIte, decide_true]
  refine Ev.bind (eqParty_self R.1 R.2.1 (by omega)) ?_
  try simp only [if_true, if_false, bne_self_eq_false, Bool.false_eq_true, ↓reduceIte, decide_true]
  try simp only [if_true, if_false, bne_self_eq_false, Bool.false_eq_true, ↓reduceIte, decide_true]
  refine Ev.step (fun k => rfl) ?_
  simp only [laws_FnExactPartyOfNumbers.j2]
  try simp only [if_true, if_false, bne_self_eq_false, Bool.false_eq_true, ↓reduceIte, decide_true]
  refine Ev.bind (heldParty_ev R.1 zm 1 (by omega) (by omega) hmm) ?_
  simp only [hzm, if_neg (show ¬ ((1 + 2 * (R.2.1.length : Int)) < 0) by omega), if_true]
  exact Ev.now _
end Go.Proofs.Ytjipjcdeoajnjaa.Pure
