/- The program's TreeOfNumbers returns what the reference's returns, for all arguments (the plain statement behind the printed walk); no condition. -/
import Derived.Test.YtjipjcdeoajnjaaPx0
import Derived.Test.YtjipjcdeoajnjaaPx1
import Derived.Test.YtjipjcdeoajnjaaPx2
import Derived.Test.YtjipjcdeoajnjaaPx3
namespace Go.Proofs.Ytjipjcdeoajnjaa.Pure
open Go.RowKit Go.Proofs.Ytjipjcdeoajnjaa.P Go.Proofs.YtjipjcdeoajnjaaW.PrintWords Go.Proofs.YtjipjcdeoajnjaaW.PrintLast
set_option linter.unusedSimpArgs false
set_option linter.unusedVariables false
def idn (x : Int) : Int := x
def ind (x : Int) : Int := if 0 < x then 1 else 0
def smf (f : Int → Int) : List Int → Int
  | [] => 0
  | x :: xs => f x + smf f xs
def Inv (n : Nat) (r : Nat) (L : List Int) : Prop := L.length = n ∧ (∀ x ∈ L, 0 ≤ x ∧ x ≤ 12) ∧ smf ind L = (r : Int) + 1 ∧ smf idn L = 2 * (r : Int)
def idxInt (a : Int) : List Int → Nat → Int
  | [], _ => -1
  | x :: xs, i => if a = x then (i : Int) else idxInt a xs (i + 1)
theorem idxInt_nonneg (a : Int) : ∀ (l : List Int) (i : Nat), decide (idxInt a l i ≥ 0) = l.contains a
  | [], i => by simp [idxInt]
  | x :: l, i => by
    unfold idxInt
    by_cases c : a = x
    · simp [c]
    · rw [if_neg c, idxInt_nonneg a l (i + 1)]; simp [c]
theorem Ev.cast {α : Type} {g : Nat → Option α} {a b : α} (h : Ev g a) (e : a = b) : Ev g b := e ▸ h
theorem Ev.one {α : Type} {g : Nat → Option α} {r : α} (h : ∀ k, g (k + 1) = some r) : Ev g r := Ev.step h (Ev.now r)
theorem rd_mid (pre rest : List Int) (x : Int) : rd (pre ++ x :: rest) (pre.length : Int) = x := by
  unfold rd
  simp [List.getD_eq_getElem?_getD]
theorem w1 {n : Nat} (h : n < 4611686018427387904) : wrap64 ((n : Int) + 1) = ((n + 1 : Nat) : Int) := by unfold wrap64; omega
theorem index_l0 (l : List Int) (a : Int) (hl : l.length < 4611686018427387904) : ∀ (rest pre : List Int), l = pre ++ rest → Ev (fun k => slices_Index_int_int.l0 k l a (l.length : Int) (pre.length : Int)) (idxInt a rest pre.length)
  | [], pre, e => by
    have el : l.length = pre.length := by rw [e]; simp
    refine Ev.one (fun k => ?_)
    rw [slices_Index_int_int.l0, if_neg (by omega)]; rfl
  | x :: rest, pre, e => by
    have el : pre.length < l.length := by rw [e]; simp
    have hx : rd l (pre.length : Int) = x := by rw [e]; exact rd_mid pre _ x
    by_cases c : a = x
    · refine Ev.one (fun k => ?_)
      rw [slices_Index_int_int.l0, if_pos (by omega), if_pos (by omega), if_pos (by omega), hx, if_pos c]
      simp [idxInt, c]
    · have ih := index_l0 l a hl rest (pre ++ [x]) (by rw [e]; simp)
      rw [List.length_append, List.length_singleton] at ih
      refine Ev.cast (Ev.step (fun k => ?_) ih) (by simp [idxInt, c])
      rw [slices_Index_int_int.l0, if_pos (by omega), if_pos (by omega), if_pos (by omega), hx, if_neg c, w1 (by omega)]
theorem index_ev (l : List Int) (a : Int) (hl : l.length < 4611686018427387904) : Ev (fun k => slices_Index_int_int.f k l a) (idxInt a l 0) := index_l0 l a hl l [] rfl
theorem contains_ev (l : List Int) (a : Int) (hl : l.length < 4611686018427387904) : Ev (fun k => slices_Contains_int_int.f k l a) (l.contains a) := by
  unfold slices_Contains_int_int.f
  refine Ev.bind (index_ev l a hl) ?_
  rw [idxInt_nonneg]
  exact Ev.now _
def inAll (l : List Int) (lo hi : Int) : Bool := l.all fun n => decide (lo ≤ n) && decide (n ≤ hi)
def isNums (l : List Int) : Bool := decide (l.length ≤ 12) && inAll l 0 ((l.length : Int) - 1)
theorem getD_get (l : List Int) (i : Nat) (h : i < l.length) : l.getD i 0 = l[i] := by simp [List.getD_eq_getElem?_getD, h]
theorem l1In_f (a lo hi : Int) : spec_l1In.f a lo hi = some (decide (lo ≤ a) && decide (a ≤ hi)) := by
  unfold spec_l1In.f
  by_cases h : lo ≤ a
  · rw [if_pos h]; simp [h]
  · rw [if_neg h]; simp [h]
theorem l1All_l0 (l : List Int) (lo hi : Int) (hl : l.length < 4611686018427387904) : ∀ (d i : Nat), i + d = l.length → Ev (fun k => spec_l1All.l0 k lo hi l (l.length : Int) i) (inAll (l.drop i) lo hi)
  | 0, i, hd => by
    refine Ev.one (fun k => ?_)
    rw [spec_l1All.l0, if_neg (by omega), List.drop_of_length_le (by omega)]; rfl
  | d + 1, i, hd => by
    have hi' : i < l.length := by omega
    have e : rd l (i : Int) = l[i] := getD_get l i hi'
    have eD : inAll (l.drop i) lo hi = ((decide (lo ≤ l[i]) && decide (l[i] ≤ hi)) && inAll (l.drop (i + 1)) lo hi) := by
      rw [List.drop_eq_getElem_cons hi']; rfl
    rw [eD]
    cases hb : (decide (lo ≤ l[i]) && decide (l[i] ≤ hi)) with
    | false =>
      refine Ev.one (fun k => ?_)
      rw [spec_l1All.l0, if_pos (by omega), if_pos (by omega), if_pos (by omega), l1In_f, e, hb]; rfl
    | true =>
      refine Ev.step (fun k => ?_) (l1All_l0 l lo hi hl d (i + 1) (by omega))
      rw [spec_l1All.l0, if_pos (by omega), if_pos (by omega), if_pos (by omega), l1In_f, e, hb, w1 (by omega)]; rfl
theorem l1All_ev (l : List Int) (lo hi : Int) (hl : l.length < 4611686018427387904) : Ev (fun k => spec_l1All.f k l lo hi) (inAll l lo hi) := by
  unfold spec_l1All.f
  simpa using l1All_l0 l lo hi hl l.length 0 (by omega)
theorem w64 {i : Int} (h0 : -9223372036854775808 ≤ i) (h : i ≤ 9223372036854775807) : wrap64 i = i := by unfold wrap64; omega
theorem deGood_ev (l : List Int) : Ev (fun k => spec_deGood.f k l) (isNums l) := by
  unfold spec_deGood.f isNums
  by_cases h : l.length ≤ 12
  · simp only [if_pos (show (l.length : Int) ≤ 12 by omega), h, decide_true, Bool.true_and, w64 (i := (l.length : Int) - 1) (by omega) (by omega)]
    exact Ev.bind (l1All_ev l 0 _ (by omega)) (Ev.now _)
  · simp only [if_neg (show ¬ (l.length : Int) ≤ 12 by omega), h, decide_false, Bool.false_and]
    exact Ev.now _
/-! sums -/
def small (l : List Int) : Prop := l.length ≤ 12 ∧ ∀ x ∈ l, 0 ≤ x ∧ x ≤ 12
theorem sum_le : ∀ (l : List Int), (∀ x ∈ l, 0 ≤ x ∧ x ≤ 12) → 0 ≤ l.sum ∧ l.sum ≤ 12 * l.length
  | [], _ => by simp
  | x :: l, h => by
    have h1 := h x (by simp)
    have h2 := sum_le l (fun y hy => h y (by simp [hy]))
    simp only [List.sum_cons, List.length_cons]
    omega
theorem deSum_l0 (l : List Int) (hs : small l) : ∀ (rest pre : List Int), l = pre ++ rest → Ev (fun k => spec_deSum.l0 k pre.sum l (l.length : Int) (pre.length : Int)) l.sum
  | [], pre, e => by
    have el : l.length = pre.length := by rw [e]; simp
    refine Ev.one (fun k => ?_)
    rw [spec_deSum.l0, if_neg (by omega), e]; simp
  | x :: rest, pre, e => by
    have el : pre.length < l.length := by rw [e]; simp
    have hx : rd l (pre.length : Int) = x := by rw [e]; exact rd_mid pre _ x
    have hl := hs.1
    have hxb := hs.2 x (by rw [e]; simp)
    have hp := sum_le pre (fun y hy => hs.2 y (by rw [e]; simp [hy]))
    have ih := deSum_l0 l hs rest (pre ++ [x]) (by rw [e]; simp)
    rw [List.length_append, List.length_singleton, List.sum_append_int] at ih
    simp only [List.sum_cons, List.sum_nil, Int.add_zero] at ih
    refine Ev.step (fun k => ?_) ih
    rw [spec_deSum.l0, if_pos (by omega), if_pos (by omega), if_pos (by omega), hx, w1 (by omega), w64 (by omega) (by omega)]
theorem deSum_ev (l : List Int) (hs : small l) : Ev (fun k => spec_deSum.f k l) l.sum := deSum_l0 l hs l [] rfl
theorem implSum_l0 (l : List Int) (hs : small l) : ∀ (rest pre : List Int), l = pre ++ rest → Ev (fun k => impl_sum.l0 k pre.sum l (l.length : Int) (pre.length : Int)) l.sum
  | [], pre, e => by
    have el : l.length = pre.length := by rw [e]; simp
    refine Ev.one (fun k => ?_)
    rw [impl_sum.l0, if_neg (by omega), e]; simp
  | x :: rest, pre, e => by
    have el : pre.length < l.length := by rw [e]; simp
    have hx : rd l (pre.length : Int) = x := by rw [e]; exact rd_mid pre _ x
    have hl := hs.1
    have hxb := hs.2 x (by rw [e]; simp)
    have hp := sum_le pre (fun y hy => hs.2 y (by rw [e]; simp [hy]))
    have ih := implSum_l0 l hs rest (pre ++ [x]) (by rw [e]; simp)
    rw [List.length_append, List.length_singleton, List.sum_append_int] at ih
    simp only [List.sum_cons, List.sum_nil, Int.add_zero] at ih
    refine Ev.step (fun k => ?_) ih
    rw [impl_sum.l0, if_pos (by omega), if_pos (by omega), if_pos (by omega), hx, w1 (by omega), w64 (by omega) (by omega)]
theorem implSum_ev (l : List Int) (hs : small l) : Ev (fun k => impl_sum.f k l) l.sum := implSum_l0 l hs l [] rfl
theorem areWithin_f (l : List Int) (lo hi : Int) : impl_areWithin.f l lo hi = some (inAll l lo hi) := rfl

theorem within_f (a lo hi : Int) : impl_within.f a lo hi = some (decide (lo ≤ a) && decide (a ≤ hi)) := by
  unfold impl_within.f
  by_cases h : lo ≤ a
  · rw [if_pos h]; simp [h]
  · rw [if_neg h]; simp [h]
theorem isNumbers_f (l : List Int) (hl : l.length < 4611686018427387904) : impl_IsNumbers.f l = some (isNums l) := by
  unfold impl_IsNumbers.f impl_areCrowd.f isNums
  rw [within_f]
  by_cases h : l.length ≤ 12
  · have e : (decide (0 ≤ (l.length : Int)) && decide ((l.length : Int) ≤ 12)) = true := by simp; omega
    rw [e]
    simp only [Option.bind_some, if_true, h, decide_true, Bool.true_and]
    rw [w64 (by omega) (by omega), areWithin_f]; rfl
  · have e : (decide (0 ≤ (l.length : Int)) && decide ((l.length : Int) ≤ 12)) = false := by simp; omega
    rw [e]
    simp [h]

theorem isNums_bounds {l : List Int} (h : isNums l = true) : l.length ≤ 12 ∧ ∀ x ∈ l, 0 ≤ x ∧ x ≤ 12 := by
  unfold isNums inAll at h
  simp at h
  exact ⟨h.1, fun x hx => by have := h.2 x hx; omega⟩
/-! whether a number is there -/
theorem l1Has_l0 (l : List Int) (a : Int) (hl : l.length < 4611686018427387904) : ∀ (rest pre : List Int), l = pre ++ rest → Ev (fun k => spec_l1Has.l0 k a l (l.length : Int) (pre.length : Int)) (rest.contains a)
  | [], pre, e => by
    have el : l.length = pre.length := by rw [e]; simp
    refine Ev.one (fun k => ?_)
    rw [spec_l1Has.l0, if_neg (by omega)]; rfl
  | x :: rest, pre, e => by
    have el : pre.length < l.length := by rw [e]; simp
    have hx : rd l (pre.length : Int) = x := by rw [e]; exact rd_mid pre _ x
    by_cases c : x = a
    · refine Ev.one (fun k => ?_)
      rw [spec_l1Has.l0, if_pos (by omega), if_pos (by omega), if_pos (by omega), hx, if_pos c]
      simp [c]
    · have ih := l1Has_l0 l a hl rest (pre ++ [x]) (by rw [e]; simp)
      rw [List.length_append, List.length_singleton] at ih
      refine Ev.cast (Ev.step (fun k => ?_) ih) ?_
      · rw [spec_l1Has.l0, if_pos (by omega), if_pos (by omega), if_pos (by omega), hx, if_neg c, w1 (by omega)]
      · have : ¬ a = x := fun h => c h.symm
        simp [this]
theorem l1Has_ev (l : List Int) (a : Int) (hl : l.length < 4611686018427387904) : Ev (fun k => spec_l1Has.f k l a) (l.contains a) := l1Has_l0 l a hl l [] rfl
theorem l1Own_f (l : List Int) (h : l.length < 17592186044416) : spec_l1Own.f l = some l := by
  unfold spec_l1Own.f
  simp only [Option.bind_some, List.length_nil, Nat.zero_add, if_pos h, List.nil_append]
def noTree : Int × List S80 × Bool := (0, [], false)
abbrev Rel := Nat → Nat → Bool
def hasP (l : List S80) : Rel := fun a b => l.any fun x => (x.f0 == (a : Int) && x.f1 == (b : Int)) || (x.f0 == (b : Int) && x.f1 == (a : Int))
/-! ### matrices -/
def mat (m : Nat) (r : Rel) : List (List Bool) := (List.range m).map fun a => (List.range m).map fun b => r a b
def natPairs (m : Nat) (l : List S80) : Prop := ∀ x ∈ l, ∃ a b : Nat, x = ⟨(a : Int), (b : Int)⟩ ∧ a < b ∧ b < m
theorem hasP_nil : hasP [] = fun _ _ => false := by funext x y; rfl
theorem map_range_const {α : Type} (c : α) : ∀ m : Nat, (List.range m).map (fun _ => c) = List.replicate m c
  | 0 => rfl
  | m + 1 => by rw [List.range_succ, List.map_append, map_range_const c m, List.replicate_succ']; rfl
theorem mat_false (m : Nat) : mat m (fun _ _ => false) = List.replicate m (List.replicate m false) := by
  unfold mat; rw [map_range_const, map_range_const]
theorem mat_len (m : Nat) (r : Rel) : (mat m r).length = m := by simp [mat]
theorem map_range_getD {α : Type} (m : Nat) (f : Nat → α) (d : α) (a : Nat) (h : a < m) : ((List.range m).map f).getD a d = f a := by simp [List.getD_eq_getElem?_getD, h]
theorem mat_row (m : Nat) (r : Rel) (a : Nat) (h : a < m) : rd_L3 (mat m r) (a : Int) = (List.range m).map fun b => r a b := map_range_getD m _ _ a h
theorem map_range_congr {α : Type} (m : Nat) (f g : Nat → α) (h : ∀ a, a < m → f a = g a) : (List.range m).map f = (List.range m).map g := List.map_congr_left fun a ha => h a (List.mem_range.1 ha)
theorem map_range_set {α : Type} (m : Nat) (f : Nat → α) (a : Nat) (v : α) : ((List.range m).map f).set a v = (List.range m).map fun i => if i = a then v else f i := by
  apply List.ext_getElem?
  intro j
  rw [List.getElem?_set]
  by_cases hj : j < m
  · by_cases e : a = j
    · subst e; simp [hj]
    · have e' : ¬ j = a := fun h => e h.symm
      simp [hj, e, e']
  · by_cases e : a = j
    · subst e; simp [hj]
    · simp [hj, e]
def upd (r : Rel) (a b : Nat) (v : Bool) : Rel := fun x y => if x = a ∧ y = b then v else r x y
theorem mat_set (m : Nat) (r : Rel) (a b : Nat) (v : Bool) (ha : a < m) : (mat m r).set a ((rd_L3 (mat m r) (a : Int)).set b v) = mat m (upd r a b v) := by
  rw [mat_row m r a ha, map_range_set]
  show ((List.range m).map fun a => (List.range m).map fun b => r a b).set a _ = _
  rw [map_range_set]
  refine map_range_congr m _ _ fun i hi => ?_
  by_cases e : i = a
  · subst e
    rw [if_pos rfl]
    refine map_range_congr m _ _ fun j hj => ?_
    simp [upd]
  · rw [if_neg e]
    refine map_range_congr m _ _ fun j hj => ?_
    simp [upd, e]
theorem rdT_mid (pre rest : List S80) (x : S80) : rd_T80 (pre ++ x :: rest) (pre.length : Int) = x := by
  unfold rd_T80
  simp [List.getD_eq_getElem?_getD]
theorem hasP_snoc (pre : List S80) (a b x y : Nat) : hasP (pre ++ [⟨(a : Int), (b : Int)⟩]) x y = (hasP pre x y || ((decide (a = x) && decide (b = y)) || (decide (a = y) && decide (b = x)))) := by
  unfold hasP
  rw [List.any_append]
  congr 1
  simp only [List.any_cons, List.any_nil, Bool.or_false]
  have e : ∀ u v : Nat, ((u : Int) == (v : Int)) = decide (u = v) := fun u v => by
    by_cases h : u = v
    · simp [h]
    · have : ¬ (u : Int) = (v : Int) := by omega
      simp [h, this]
  rw [e, e, e, e]
theorem upd2_hasP (pre : List S80) (a b : Nat) : upd (upd (hasP pre) a b true) b a true = hasP (pre ++ [⟨(a : Int), (b : Int)⟩]) := by
  funext x y
  rw [hasP_snoc]
  unfold upd
  by_cases h1 : x = b ∧ y = a
  · simp [h1]
  · by_cases h2 : x = a ∧ y = b
    · simp [h2]
    · have e1 : (decide (a = x) && decide (b = y)) = false := by simp; intro h3 h4; exact h2 ⟨h3.symm, h4.symm⟩
      have e2 : (decide (a = y) && decide (b = x)) = false := by simp; intro h3 h4; exact h1 ⟨h4.symm, h3.symm⟩
      simp [h1, h2, e1, e2]
theorem paTable_l1 (m : Nat) (l : List S80) (hl : l.length < 4611686018427387904) (hn : natPairs m l) : ∀ (rest pre : List S80), l = pre ++ rest → Ev (fun k => spec_paTable.l1 k (mat m (hasP pre)) l (l.length : Int) (pre.length : Int)) (mat m (hasP l))
  | [], pre, h => by
    refine Ev.one (fun k => ?_)
    have e : l = pre := by rw [h]; simp
    rw [spec_paTable.l1, if_neg (by rw [e]; omega), e]
  | x :: rest, pre, h => by
    have hlen : pre.length < l.length := by rw [h]; simp
    obtain ⟨a, b, rfl, hab, hb⟩ := hn x (by rw [h]; simp)
    have hx : rd_T80 l (pre.length : Int) = ⟨(a : Int), (b : Int)⟩ := by rw [h]; exact rdT_mid pre rest _
    have ih := paTable_l1 m l hl hn rest (pre ++ [⟨(a : Int), (b : Int)⟩]) (by rw [h]; simp)
    rw [List.length_append, List.length_singleton, ← upd2_hasP] at ih
    refine Ev.step (fun k => ?_) ih
    have hrow : (rd_L3 (mat m (hasP pre)) (a : Int)).length = m := by rw [mat_row _ _ _ (by omega)]; simp
    have hrow2 : (rd_L3 (mat m (upd (hasP pre) a b true)) (b : Int)).length = m := by rw [mat_row _ _ _ (by omega)]; simp
    rw [spec_paTable.l1, if_pos (by omega), if_pos (by omega), if_pos (by omega), hx]
    dsimp only
    rw [mat_len, hrow, if_pos (by omega), if_pos (by omega), if_pos (by omega), if_pos (by omega), Int.toNat_natCast, Int.toNat_natCast, mat_set _ _ _ _ _ (by omega)]
    simp only [Option.bind_some]
    rw [if_pos (by omega), hrow2, if_pos (by omega), mat_set _ _ _ _ _ (by omega), w1 (by omega)]
theorem paTable_l0 (m : Nat) (hm : m ≤ 12) (l : List S80) (hl : l.length < 4611686018427387904) (hn : natPairs m l) : ∀ (d i : Nat), i + d = m → Ev (fun k => spec_paTable.l0 k (List.replicate i (List.replicate m false)) (i : Int) (m : Int) l) (mat m (hasP l))
  | 0, i, hd => by
    refine Ev.step (fun k => ?_) (paTable_l1 m l hl hn l [] rfl)
    obtain rfl : i = m := by omega
    rw [spec_paTable.l0, if_neg (by omega), hasP_nil, mat_false]
    rfl
  | d + 1, i, hd => by
    refine Ev.step (fun k => ?_) (paTable_l0 m hm l hl hn d (i + 1) (by omega))
    rw [spec_paTable.l0, if_pos (by omega), if_pos (by omega), if_pos (by omega), if_pos (by simp; omega), w1 (by omega), Int.toNat_natCast, List.replicate_succ']
theorem paTable_ev (m : Nat) (hm : m ≤ 12) (l : List S80) (hl : l.length < 4611686018427387904) (hn : natPairs m l) : Ev (fun k => spec_paTable.f k (m : Int) l) (mat m (hasP l)) := by
  unfold spec_paTable.f
  exact paTable_l0 m hm l hl hn m 0 (by omega)
/-! ### pairs listed -/
def rowFrom (r : Rel) (a : Nat) : Nat → Nat → List S80
  | _, 0 => []
  | b, d + 1 => (if r a b then [⟨(a : Int), (b : Int)⟩] else []) ++ rowFrom r a (b + 1) d
def pairsFrom (r : Rel) (m : Nat) : Nat → Nat → List S80
  | _, 0 => []
  | a, d + 1 => rowFrom r a (a + 1) (m - (a + 1)) ++ pairsFrom r m (a + 1) d
def pairsOf (m : Nat) (r : Rel) : List S80 := pairsFrom r m 0 m
theorem rowFrom_len (r : Rel) (a : Nat) : ∀ (d b : Nat), (rowFrom r a b d).length ≤ d
  | 0, _ => Nat.le_refl _
  | d + 1, b => by
    have := rowFrom_len r a d (b + 1)
    rw [rowFrom, List.length_append]
    split <;> simp <;> omega
theorem pairsFrom_len (r : Rel) (m : Nat) (hm : m ≤ 12) : ∀ (d a : Nat), (pairsFrom r m a d).length ≤ 12 * d
  | 0, _ => Nat.le_refl _
  | d + 1, a => by
    have := pairsFrom_len r m hm d (a + 1)
    have := rowFrom_len r a (m - (a + 1)) (a + 1)
    rw [pairsFrom, List.length_append]; omega
theorem pairsOf_len (m : Nat) (hm : m ≤ 12) (r : Rel) : (pairsOf m r).length ≤ 144 := by
  have := pairsFrom_len r m hm m 0
  unfold pairsOf; omega
theorem wraps_u16 (n : Int) (h0 : 0 ≤ n) (h1 : n < 2 ^ 16) : IntKind.u16.wrap n = n := by
  simp [IntKind.wrap, IntKind.bits, IntKind.signed]; omega
theorem and16 (x y : Nat) (hx : x < 65536) (hy : y < 65536) : Go.bits .and .u16 (x : Int) (y : Int) = ((x &&& y : Nat) : Int) := (bits_nat .u16 16 (by decide) wraps_u16 x y hx hy).1
/-! ### tables of bits -/
def bitsOf : Nat → (Nat → Bool) → Nat
  | 0, _ => 0
  | m + 1, f => bitsOf m f + (f m).toNat * 2 ^ m
theorem bitsOf_lt : ∀ (m : Nat) (f : Nat → Bool), bitsOf m f < 2 ^ m
  | 0, _ => by simp [bitsOf]
  | m + 1, f => by
    have := bitsOf_lt m f
    have h2 : (f m).toNat * 2 ^ m ≤ 2 ^ m := by cases f m <;> simp
    rw [bitsOf, Nat.pow_succ]; omega
theorem bitsOf_u16 (m : Nat) (hm : m ≤ 12) (f : Nat → Bool) : bitsOf m f < 65536 :=
  Nat.lt_of_lt_of_le (bitsOf_lt m f) (Nat.le_trans (Nat.pow_le_pow_right (by decide) hm) (by decide))
def tab (m : Nat) (r : Rel) : List Int := (List.range m).map fun a => ((bitsOf m (r a) : Nat) : Int)
theorem tab_at (m : Nat) (r : Rel) (a : Nat) (h : a < m) : rd (tab m r) (a : Int) = ((bitsOf m (r a) : Nat) : Int) := map_range_getD m _ _ a h
theorem tab_len (m : Nat) (r : Rel) : (tab m r).length = m := by simp [tab]
theorem testBit_bitsOf : ∀ (m : Nat) (f : Nat → Bool) (i : Nat), (bitsOf m f).testBit i = (decide (i < m) && f i)
  | 0, f, i => by simp [bitsOf]
  | m + 1, f, i => by
    have ih := testBit_bitsOf m f
    by_cases hi : i < m
    · have h1 : i < m + 1 := by omega
      cases hf : f m with
      | false => simp [bitsOf, hf, ih i, hi, h1]
      | true => rw [bitsOf, hf, Bool.toNat_true, Nat.one_mul, Nat.add_comm, Nat.testBit_two_pow_add_gt hi, ih i]; simp [hi, h1]
    · by_cases e : i = m
      · subst e
        cases hf : f i with
        | false => simp [bitsOf, hf, ih i]
        | true => rw [bitsOf, hf, Bool.toNat_true, Nat.one_mul, Nat.add_comm, Nat.testBit_two_pow_add_eq, ih i]; simp
      · have h1 : ¬ i < m + 1 := by omega
        rw [Nat.testBit_lt_two_pow (Nat.lt_of_lt_of_le (bitsOf_lt (m + 1) f) (Nat.pow_le_pow_right (by decide) (by omega)))]
        simp [h1]
theorem has_f (m : Nat) (hm : m ≤ 12) (r : Rel) (a b : Nat) (ha : a < m) (hb : b < m) : impl_table_has.f (tab m r) (a : Int) (b : Int) = some (r a b) := by
  unfold impl_table_has.f
  rw [if_pos (by omega), if_pos (by rw [tab_len]; omega), if_pos (by omega), tab_at m r a ha]
  have hX := bitsOf_u16 m hm (r a)
  have hs : shr .u16 ((bitsOf m (r a) : Nat) : Int) (b : Int) = ((bitsOf m (r a) / 2 ^ b : Nat) : Int) := by
    unfold shr
    rw [Int.toNat_natCast, Nat.min_eq_left (show b ≤ IntKind.u16.bits from by show b ≤ 16; omega)]
    simp
  have hd : bitsOf m (r a) / 2 ^ b < 65536 := Nat.lt_of_le_of_lt (Nat.div_le_self _ _) hX
  have ht := testBit_bitsOf m (r a) b
  rw [Nat.testBit_eq_decide_div_mod_eq] at ht
  have e1 : Go.bits .and .u16 ((bitsOf m (r a) / 2 ^ b : Nat) : Int) 1 = ((bitsOf m (r a) / 2 ^ b % 2 : Nat) : Int) := by
    have := and16 (bitsOf m (r a) / 2 ^ b) 1 hd (by decide)
    rw [Nat.and_one_is_mod] at this
    exact this
  rw [hs, e1]
  simp only [hb, decide_true, Bool.true_and] at ht
  rw [← ht]
  congr 1
  by_cases h : bitsOf m (r a) / 2 ^ b % 2 = 1
  · simp [h]
  · have h0 : bitsOf m (r a) / 2 ^ b % 2 = 0 := by omega
    simp [h0]
theorem party_l1 (m : Nat) (hm : m ≤ 12) (r : Rel) (a : Nat) (ha : a < m) (n : Int) (R : Int × List S80) : ∀ (d b : Nat) (acc : List S80), b + d = m → acc.length ≤ 12 * a + b → Ev (fun k => impl_table_party.l0 k (tab m r) (m : Int) ((a + 1 : Nat) : Int) n (acc ++ rowFrom r a b d)) R → Ev (fun k => impl_table_party.l1 k (tab m r) (a : Int) (b : Int) (m : Int) (a : Int) n acc) R
  | 0, b, acc, hd, hacc, h => by
    refine Ev.step (fun k => ?_) h
    rw [impl_table_party.l1, tab_len, if_neg (by omega), w1 (by omega), rowFrom, List.append_nil]
  | d + 1, b, acc, hd, hacc, h => by
    have hb : b < m := by omega
    rw [rowFrom, ← List.append_assoc] at h
    cases hr : r a b with
    | true =>
      rw [hr, if_pos rfl] at h
      have ih := party_l1 m hm r a ha n R d (b + 1) (acc ++ [⟨(a : Int), (b : Int)⟩]) (by omega) (by simp; omega) h
      refine Ev.step (fun k => ?_) ih
      rw [impl_table_party.l1, tab_len, if_pos (by omega), has_f m hm r a b ha hb, hr]
      simp only [Option.bind_some, if_true]
      rw [if_pos (by omega), w1 (by omega)]
    | false =>
      rw [hr, if_neg (by decide), List.append_nil] at h
      have ih := party_l1 m hm r a ha n R d (b + 1) acc (by omega) (by omega) h
      refine Ev.step (fun k => ?_) ih
      rw [impl_table_party.l1, tab_len, if_pos (by omega), has_f m hm r a b ha hb, hr, w1 (by omega)]
      rfl
theorem party_l0 (m : Nat) (hm : m ≤ 12) (r : Rel) (n : Int) : ∀ (d a : Nat) (acc : List S80), a + d = m → acc.length ≤ 12 * a → Ev (fun k => impl_table_party.l0 k (tab m r) (m : Int) (a : Int) n acc) (n, acc ++ pairsFrom r m a d)
  | 0, a, acc, hd, hacc => by
    refine Ev.one (fun k => ?_)
    rw [impl_table_party.l0, if_neg (by omega), pairsFrom, List.append_nil]
  | d + 1, a, acc, hd, hacc => by
    have hl := rowFrom_len r a (m - (a + 1)) (a + 1)
    have ih := party_l0 m hm r n d (a + 1) (acc ++ rowFrom r a (a + 1) (m - (a + 1))) (by omega) (by rw [List.length_append]; omega)
    rw [List.append_assoc, ← pairsFrom] at ih
    have h := party_l1 m hm r a (by omega) n _ (m - (a + 1)) (a + 1) acc (by omega) (by omega) ih
    refine Ev.step (fun k => ?_) h
    rw [impl_table_party.l0, if_pos (by omega), w1 (by omega)]
theorem party_ev (m : Nat) (hm : m ≤ 12) (r : Rel) : Ev (fun k => impl_table_party.f k (tab m r)) ((m : Int), pairsOf m r) := by
  unfold impl_table_party.f
  rw [tab_len]
  exact party_l0 m hm r m m 0 [] (by omega) (by simp)

theorem smf_ind_all : ∀ L : List Int, (∀ x ∈ L, 0 < x) → smf ind L = (L.length : Int)
  | [], _ => rfl
  | x :: L, h => by
    have h1 := h x (List.mem_cons_self ..)
    rw [smf, smf_ind_all L fun y hy => h y (List.mem_cons_of_mem _ hy), ind, if_pos h1, List.length_cons]
    omega
theorem spTree_no (l : List Int) : Ev (fun k => spec_TreeOfNumbers.j0 k l (l.length : Int) true) noTree :=
  Ev.one fun k => by rw [spec_TreeOfNumbers.j0, if_pos rfl]; rfl
theorem sum_smf : ∀ L : List Int, L.sum = smf idn L
  | [] => rfl
  | x :: L => by rw [List.sum_cons, smf, sum_smf L]; rfl
theorem tab_false (m : Nat) : tab m (fun _ _ => false) = List.replicate m 0 := by
  unfold tab
  rw [← map_range_const (0 : Int) m]
  refine map_range_congr m _ _ fun i hi => ?_
  have : bitsOf m (fun _ => false) = 0 := by
    apply Nat.eq_of_testBit_eq
    intro i
    rw [testBit_bitsOf]; simp
  rw [this]; rfl
theorem smf_set (f : Int → Int) : ∀ (L : List Int) (i : Nat) (v : Int), i < L.length → smf f (L.set i v) = smf f L - f (rd L (i : Int)) + f v
  | [], i, v, h => by simp at h
  | x :: L, 0, v, h => by simp [smf, rd]; omega
  | x :: L, i + 1, v, h => by
    have ih := smf_set f L i v (by simpa using h)
    have e : rd (x :: L) ((i + 1 : Nat) : Int) = rd L (i : Int) := by unfold rd; rw [Int.toNat_natCast, Int.toNat_natCast]; simp
    rw [List.set_cons_succ, smf, smf, ih, e]
    omega
theorem decT_inv {n r : Nat} (hn : n ≤ 12) {L : List Int} (h : Inv n (r + 1) L) (hr : 1 ≤ r) {a b : Nat} (ha : a < n) (hb : b < n) (hab : a ≠ b) (h1 : rd L (a : Int) = 1) (h2 : 2 ≤ rd L (b : Int)) : Inv n r (decT (decT L (a : Int)) (b : Int)) := by
  obtain ⟨hl, hm, hi, hs⟩ := h
  have hbL : rd L (b : Int) ≤ 12 := by
    have : rd L (b : Int) ∈ L := by
      unfold rd
      rw [Int.toNat_natCast, List.getD_eq_getElem?_getD, List.getElem?_eq_getElem (by omega)]
      exact List.getElem_mem _
    exact (hm _ this).2
  have e1 : decT L (a : Int) = L.set a 0 := by unfold decT; rw [h1, Int.toNat_natCast, show wrap64 (1 - 1) = 0 by unfold wrap64; omega]
  have e2 : rd (L.set a 0) (b : Int) = rd L (b : Int) := by
    unfold rd
    rw [Int.toNat_natCast, List.getD_eq_getElem?_getD, List.getD_eq_getElem?_getD, List.getElem?_set_ne hab]
  have e3 : decT (decT L (a : Int)) (b : Int) = (L.set a 0).set b (rd L (b : Int) - 1) := by
    rw [e1]
    unfold decT
    rw [e2, Int.toNat_natCast, w64 (by omega) (by omega)]
  rw [e3]
  refine ⟨by simp [hl], fun x hx => ?_, ?_, ?_⟩
  · rcases List.mem_or_eq_of_mem_set hx with hx | hx
    · rcases List.mem_or_eq_of_mem_set hx with hx | hx
      · exact hm x hx
      · omega
    · omega
  · rw [smf_set ind _ b _ (by simp; omega), smf_set ind _ a _ (by omega), e2, h1, hi]
    have i1 : ind 1 = 1 := rfl
    have i0 : ind 0 = 0 := rfl
    have ib : ind (rd L (b : Int)) = 1 := by unfold ind; rw [if_pos (by omega)]
    have ib2 : ind (rd L (b : Int) - 1) = 1 := by unfold ind; rw [if_pos (by omega)]
    rw [i1, i0, ib, ib2]
    omega
  · rw [smf_set idn _ b _ (by simp; omega), smf_set idn _ a _ (by omega), e2, h1, hs]
    unfold idn
    omega
theorem decT_len (L : List Int) (a : Int) : (decT L a).length = L.length := by simp [decT]
def fi (p : Int → Bool) : List Int → Nat → Int
  | [], _ => -1
  | x :: xs, i => if p x = true then (i : Int) else fi p xs (i + 1)
def fi2 (a : Nat) : List Int → Nat → Int
  | [], _ => -1
  | x :: xs, i => if x = 1 ∧ i ≠ a then (i : Int) else fi2 a xs (i + 1)
def gt1 (x : Int) : Bool := decide (x > 1)
def is1 (x : Int) : Bool := x == 1
theorem idxInt_fi : ∀ (L : List Int) (i : Nat), idxInt 1 L i = fi is1 L i
  | [], _ => rfl
  | x :: L, i => by
    rw [idxInt, fi, idxInt_fi L (i + 1)]
    by_cases h : 1 = x
    · rw [if_pos h, if_pos (by subst h; rfl)]
    · rw [if_neg h, if_neg (by unfold is1; simp; omega)]
theorem mat_at (m : Nat) (r : Rel) (a b : Nat) (h : a < m) (h2 : b < m) : rdOf false (rd_L3 (mat m r) (a : Int)) (b : Int) = r a b := by
  rw [mat_row m r a h]; exact map_range_getD m _ _ b h2
theorem paOf_l1 (m : Nat) (hm : m ≤ 12) (r : Rel) (a : Nat) (ha : a < m) (n : Int) (R : Int × List S80) : ∀ (d b : Nat) (acc : List S80), b + d = m → acc.length ≤ 12 * a + b → Ev (fun k => spec_paOf.l0 k (mat m r) (m : Int) ((a + 1 : Nat) : Int) n (acc ++ rowFrom r a b d)) R → Ev (fun k => spec_paOf.l1 k (mat m r) (a : Int) (b : Int) (m : Int) (a : Int) n acc) R
  | 0, b, acc, hd, hacc, h => by
    refine Ev.step (fun k => ?_) h
    rw [spec_paOf.l1, mat_len, if_neg (by omega), w1 (by omega), rowFrom, List.append_nil]
  | d + 1, b, acc, hd, hacc, h => by
    have hb : b < m := by omega
    rw [rowFrom, ← List.append_assoc] at h
    have hrow : (rd_L3 (mat m r) (a : Int)).length = m := by rw [mat_row m r a ha]; simp
    cases hr : r a b with
    | true =>
      rw [hr, if_pos rfl] at h
      have ih := paOf_l1 m hm r a ha n R d (b + 1) (acc ++ [⟨(a : Int), (b : Int)⟩]) (by omega) (by simp; omega) h
      refine Ev.step (fun k => ?_) ih
      rw [spec_paOf.l1, mat_len, if_pos (by omega), if_pos (by omega), if_pos (by omega), if_pos (by omega), hrow, if_pos (by omega), mat_at m r a b ha hb, hr, if_pos rfl, if_pos (by omega), w1 (by omega)]
    | false =>
      rw [hr, if_neg (by decide), List.append_nil] at h
      have ih := paOf_l1 m hm r a ha n R d (b + 1) acc (by omega) (by omega) h
      refine Ev.step (fun k => ?_) ih
      rw [spec_paOf.l1, mat_len, if_pos (by omega), if_pos (by omega), if_pos (by omega), if_pos (by omega), hrow, if_pos (by omega), mat_at m r a b ha hb, hr, if_neg (by decide), w1 (by omega)]
theorem paOf_l0 (m : Nat) (hm : m ≤ 12) (r : Rel) (n : Int) : ∀ (d a : Nat) (acc : List S80), a + d = m → acc.length ≤ 12 * a → Ev (fun k => spec_paOf.l0 k (mat m r) (m : Int) (a : Int) n acc) (n, acc ++ pairsFrom r m a d)
  | 0, a, acc, hd, hacc => by
    refine Ev.one (fun k => ?_)
    rw [spec_paOf.l0, if_neg (by omega), pairsFrom, List.append_nil]
  | d + 1, a, acc, hd, hacc => by
    have hl := rowFrom_len r a (m - (a + 1)) (a + 1)
    have ih := paOf_l0 m hm r n d (a + 1) (acc ++ rowFrom r a (a + 1) (m - (a + 1))) (by omega) (by rw [List.length_append]; omega)
    rw [List.append_assoc, ← pairsFrom] at ih
    have h := paOf_l1 m hm r a (by omega) n _ (m - (a + 1)) (a + 1) acc (by omega) (by omega) ih
    refine Ev.step (fun k => ?_) h
    rw [spec_paOf.l0, if_pos (by omega), w1 (by omega)]
theorem paOf_ev (m : Nat) (hm : m ≤ 12) (r : Rel) : Ev (fun k => spec_paOf.f k (mat m r)) ((m : Int), pairsOf m r) := by
  unfold spec_paOf.f
  rw [mat_len]
  exact paOf_l0 m hm r m m 0 [] (by omega) (by simp)
theorem bitsOf_or (m : Nat) (f : Nat → Bool) (b : Nat) (hb : b < m) : bitsOf m f ||| 2 ^ b = bitsOf m fun j => if j = b then true else f j := by
  apply Nat.eq_of_testBit_eq
  intro i
  rw [Nat.testBit_or, testBit_bitsOf, testBit_bitsOf, Nat.testBit_two_pow]
  by_cases e : i = b
  · subst e; simp [hb]
  · have e' : ¬ b = i := fun h => e h.symm
    simp [e, e']
theorem or16 (x y : Nat) (hx : x < 65536) (hy : y < 65536) : Go.bits .or .u16 (x : Int) (y : Int) = ((x ||| y : Nat) : Int) := (bits_nat .u16 16 (by decide) wraps_u16 x y hx hy).2
theorem pow_u16 (b : Nat) (h : b ≤ 12) : 2 ^ b < 65536 := Nat.lt_of_le_of_lt (Nat.pow_le_pow_right (by decide) h) (by decide)
theorem shl1 (b : Nat) (h : b ≤ 12) : shl .u16 1 (b : Int) = ((2 ^ b : Nat) : Int) := by
  have : b = 0 ∨ b = 1 ∨ b = 2 ∨ b = 3 ∨ b = 4 ∨ b = 5 ∨ b = 6 ∨ b = 7 ∨ b = 8 ∨ b = 9 ∨ b = 10 ∨ b = 11 ∨ b = 12 := by omega
  rcases this with rfl | rfl | rfl | rfl | rfl | rfl | rfl | rfl | rfl | rfl | rfl | rfl | rfl <;> decide
theorem bitsOf_congr (m : Nat) (f g : Nat → Bool) (h : ∀ i, i < m → f i = g i) : bitsOf m f = bitsOf m g := by
  apply Nat.eq_of_testBit_eq
  intro i
  rw [testBit_bitsOf, testBit_bitsOf]
  by_cases hi : i < m
  · simp [hi, h i hi]
  · simp [hi]
theorem tab_congr (m : Nat) (r s : Rel) (h : ∀ a b, a < m → b < m → r a b = s a b) : tab m r = tab m s := map_range_congr m _ _ fun a ha => by rw [bitsOf_congr m _ _ fun b hb => h a b ha hb]
theorem tab_set (m : Nat) (r : Rel) (a : Nat) (f : Nat → Bool) : (tab m r).set a ((bitsOf m f : Nat) : Int) = tab m (fun x => if x = a then f else r x) := by
  unfold tab
  rw [map_range_set]
  refine map_range_congr m _ _ fun i hi => ?_
  by_cases e : i = a <;> simp [e]
theorem tab_or (m : Nat) (hm : m ≤ 12) (r : Rel) (a b : Nat) (ha : a < m) (hb : b < m) : (tab m r).set a (Go.bits .or .u16 (rd (tab m r) (a : Int)) (shl .u16 1 (b : Int))) = tab m (upd r a b true) := by
  rw [tab_at m r a ha, shl1 b (by omega), or16 _ _ (bitsOf_u16 m hm _) (pow_u16 b (by omega)), bitsOf_or m _ b hb, tab_set]
  refine tab_congr m _ _ fun x y hx hy => ?_
  by_cases e : x = a
  · subst e; simp [upd]
  · simp [upd, e]
theorem put_f (m : Nat) (hm : m ≤ 12) (r : Rel) (a b : Nat) (ha : a < m) (hb : b < m) : impl_table_put.f (tab m r) (a : Int) (b : Int) = some (tab m (upd (upd r a b true) b a true)) := by
  unfold impl_table_put.f
  rw [if_pos (by omega), tab_len, if_pos (by omega), if_pos (by omega), Int.toNat_natCast, Int.toNat_natCast, tab_or m hm r a b ha hb]
  simp only [Option.bind_some]
  rw [if_pos (by omega), tab_or m hm _ b a hb ha]
theorem rd_at_ (pre : List Int) (s : Int) (ss : List Int) : rd (pre ++ s :: ss) (pre.length : Int) = s := by
  unfold rd
  rw [Int.toNat_natCast, List.getD_eq_getElem?_getD, List.getElem?_append_right (Nat.le_refl _)]
  simp
theorem sp_l1 (n : Nat) (hn : n ≤ 12) (L : List Int) (hL : L.length = n) (T : List (List Bool)) (j : Int) (R : Int × List S80 × Bool) : ∀ (rest pre : List Int) (a b : Int), L = pre ++ rest → (a = -1 ∨ 0 ≤ a) → (b = -1 ∨ 0 ≤ b) →
    Ev (fun k => spec_TreeOfNumbers.l2 k (n : Int) L T j (if a < 0 then fi is1 rest pre.length else a) (if b < 0 then fi gt1 rest pre.length else b) L (L.length : Int) 0) R → Ev (fun k => spec_TreeOfNumbers.l1 k (n : Int) L T j a b L (L.length : Int) (pre.length : Int)) R
  | [], pre, a, b, e, ha, hb, h => by
    have el : L.length = pre.length := by rw [e]; simp
    rw [show (if a < 0 then fi is1 [] pre.length else a) = a by rw [fi]; split <;> omega, show (if b < 0 then fi gt1 [] pre.length else b) = b by rw [fi]; split <;> omega] at h
    refine Ev.step (fun k => ?_) h
    rw [spec_TreeOfNumbers.l1, if_neg (by omega)]
  | z :: rest, pre, a, b, e, ha, hb, h => by
    have el : pre.length < L.length := by rw [e]; simp
    have hz : rd L (pre.length : Int) = z := by rw [e]; exact rd_at_ pre z rest
    have e' : L = (pre ++ [z]) ++ rest := by rw [e]; simp
    have ih := fun a' b' ha' hb' h' => sp_l1 n hn L hL T j R rest (pre ++ [z]) a' b' e' ha' hb' h'
    rw [List.length_append, List.length_singleton] at ih
    by_cases hz1 : z = 1
    · by_cases ha0 : a < 0
      · have hg : ¬ z > 1 := by omega
        have ih2 := ih (pre.length : Int) b (.inr (by omega)) hb (by
          rw [if_neg (by omega)]
          rw [if_pos ha0, fi, if_pos (by rw [hz1]; rfl), fi, if_neg (show ¬ gt1 z = true by unfold gt1; simp; omega)] at h
          exact h)
        refine Ev.step (f := fun k => spec_TreeOfNumbers.j3 k (n : Int) L T j a b (pre.length : Int) z L (L.length : Int) (pre.length : Int) true) (fun k => ?_) (Ev.step (fun k => ?_) ih2)
        · rw [spec_TreeOfNumbers.l1, if_pos (by omega), if_pos (by omega), if_pos (by omega), hz, if_pos hz1, decide_eq_true ha0]
        · rw [spec_TreeOfNumbers.j3, if_pos rfl, if_neg hg, w1 (by omega)]
      · have hg : ¬ z > 1 := by omega
        have ih2 := ih a b ha hb (by
          rw [if_neg ha0, fi, if_neg (show ¬ gt1 z = true by unfold gt1; simp; omega)] at h
          rw [if_neg ha0]
          exact h)
        refine Ev.step (f := fun k => spec_TreeOfNumbers.j3 k (n : Int) L T j a b (pre.length : Int) z L (L.length : Int) (pre.length : Int) false) (fun k => ?_) (Ev.step (fun k => ?_) ih2)
        · rw [spec_TreeOfNumbers.l1, if_pos (by omega), if_pos (by omega), if_pos (by omega), hz, if_pos hz1, decide_eq_false ha0]
        · rw [spec_TreeOfNumbers.j3, if_neg (by decide), if_neg hg, w1 (by omega)]
    · have hn1 : ¬ is1 z = true := by unfold is1; simpa using hz1
      by_cases hg : z > 1
      · have hgt : gt1 z = true := by unfold gt1; simpa using hg
        by_cases hb0 : b < 0
        · have ih2 := ih a (pre.length : Int) ha (.inr (by omega)) (by
            rw [if_neg (show ¬ ((pre.length : Nat) : Int) < 0 by omega)]
            rw [fi, if_neg hn1, if_pos hb0, fi, if_pos hgt] at h
            exact h)
          refine Ev.step (f := fun k => spec_TreeOfNumbers.j3 k (n : Int) L T j a b (pre.length : Int) z L (L.length : Int) (pre.length : Int) false) (fun k => ?_) (Ev.step (fun k => ?_) ih2)
          · rw [spec_TreeOfNumbers.l1, if_pos (by omega), if_pos (by omega), if_pos (by omega), hz, if_neg hz1]
          · rw [spec_TreeOfNumbers.j3, if_neg (by decide), if_pos hg, if_pos hb0, w1 (by omega)]
        · have ih2 := ih a b ha hb (by
            rw [fi, if_neg hn1, if_neg hb0] at h
            rw [if_neg hb0]
            exact h)
          refine Ev.step (f := fun k => spec_TreeOfNumbers.j3 k (n : Int) L T j a b (pre.length : Int) z L (L.length : Int) (pre.length : Int) false) (fun k => ?_) (Ev.step (fun k => ?_) ih2)
          · rw [spec_TreeOfNumbers.l1, if_pos (by omega), if_pos (by omega), if_pos (by omega), hz, if_neg hz1]
          · rw [spec_TreeOfNumbers.j3, if_neg (by decide), if_pos hg, if_neg hb0, w1 (by omega)]
      · have hngt : ¬ gt1 z = true := by unfold gt1; simpa using hg
        have ih2 := ih a b ha hb (by
          rw [fi, if_neg hn1, fi, if_neg hngt] at h
          exact h)
        refine Ev.step (f := fun k => spec_TreeOfNumbers.j3 k (n : Int) L T j a b (pre.length : Int) z L (L.length : Int) (pre.length : Int) false) (fun k => ?_) (Ev.step (fun k => ?_) ih2)
        · rw [spec_TreeOfNumbers.l1, if_pos (by omega), if_pos (by omega), if_pos (by omega), hz, if_neg hz1]
        · rw [spec_TreeOfNumbers.j3, if_neg (by decide), if_neg hg, w1 (by omega)]
theorem sp_l2 (n : Nat) (hn : n ≤ 12) (L : List Int) (hL : L.length = n) (rel : Rel) (j : Int) (x y : Nat) (hx : x < n) (hy : y < n) (R : Int × List S80 × Bool)
    (hR : Ev (fun k => spec_TreeOfNumbers.l0 k (n : Int) (decT (decT L (x : Int)) (y : Int)) (mat n (upd (upd rel x y true) y x true)) (wrap64 (j + 1))) R) : ∀ (rest pre : List Int) (b : Int), L = pre ++ rest → (b = -1 ∨ 0 ≤ b) → (if b < 0 then fi2 x rest pre.length else b) = (y : Int) →
    Ev (fun k => spec_TreeOfNumbers.l2 k (n : Int) L (mat n rel) j (x : Int) b L (L.length : Int) (pre.length : Int)) R
  | [], pre, b, e, hb, hf => by
    have el : L.length = pre.length := by rw [e]; simp
    have hby : b = (y : Int) := by
      by_cases hb0 : b < 0
      · rw [if_pos hb0, fi2] at hf; omega
      · rw [if_neg hb0] at hf; exact hf
    subst hby
    have hrow : (rd_L3 (mat n rel) (x : Int)).length = n := by rw [mat_row _ _ _ hx]; simp
    have hrow2 : (rd_L3 (mat n (upd rel x y true)) (y : Int)).length = n := by rw [mat_row _ _ _ hy]; simp
    refine Ev.step (fun k => ?_) hR
    rw [spec_TreeOfNumbers.l2, if_neg (by omega), if_pos (by omega), if_pos (by omega), Option.bind_some, if_pos (by omega), if_pos (by omega), mat_len, if_pos (by omega), hrow, if_pos (by omega)]
    simp only [Int.toNat_natCast, mat_set n rel x y true hx, Option.bind_some, hrow2, mat_set n _ y x true hy]
    rw [if_pos (by omega), if_pos (by omega)]
    rfl
  | z :: rest, pre, b, e, hb, hf => by
    have el : pre.length < L.length := by rw [e]; simp
    have hz : rd L (pre.length : Int) = z := by rw [e]; exact rd_at_ pre z rest
    have e' : L = (pre ++ [z]) ++ rest := by rw [e]; simp
    have ihb := fun b' hb' hf' => sp_l2 n hn L hL rel j x y hx hy R hR rest (pre ++ [z]) b' e' hb' hf'
    rw [List.length_append, List.length_singleton] at ihb
    by_cases hb0 : b < 0
    · rw [if_pos hb0, fi2] at hf
      by_cases hc : z = 1 ∧ pre.length ≠ x
      · rw [if_pos hc] at hf
        refine Ev.step (fun k => ?_) (ihb (pre.length : Int) (.inr (by omega)) (by rw [if_neg (by omega)]; exact hf))
        rw [spec_TreeOfNumbers.l2, if_pos (by omega), if_pos (by omega), if_pos (by omega), if_pos hb0, hz, if_pos hc.1, if_neg (by omega), w1 (by omega)]
      · rw [if_neg hc] at hf
        refine Ev.step (fun k => ?_) (ihb b hb (by rw [if_pos hb0]; exact hf))
        rw [spec_TreeOfNumbers.l2, if_pos (by omega), if_pos (by omega), if_pos (by omega), if_pos hb0, hz, w1 (by omega)]
        by_cases h1 : z = 1
        · rw [if_pos h1, if_pos (by omega)]
        · rw [if_neg h1]
    · rw [if_neg hb0] at hf
      refine Ev.step (fun k => ?_) (ihb b hb (by rw [if_neg hb0]; exact hf))
      rw [spec_TreeOfNumbers.l2, if_pos (by omega), if_pos (by omega), if_pos (by omega), if_neg hb0, w1 (by omega)]
theorem smf_le (f g : Int → Int) : ∀ L : List Int, (∀ x ∈ L, f x ≤ g x) → smf f L ≤ smf g L
  | [], _ => Int.le_refl _
  | x :: L, h => by
    have h1 := h x (List.mem_cons_self ..)
    have h2 := smf_le f g L fun y hy => h y (List.mem_cons_of_mem _ hy)
    rw [smf, smf]
    omega
theorem big_in {n r : Nat} {L : List Int} (h : Inv n r L) (hr : 2 ≤ r) : ∃ x ∈ L, gt1 x = true := by
  apply Classical.byContradiction
  intro hno
  have h1 := smf_le idn ind L fun x hx => by
    have h2 := h.2.1 x hx
    have h3 : ¬ x > 1 := fun e => hno ⟨x, hx, by unfold gt1; simp; omega⟩
    unfold ind idn
    split <;> omega
  rw [h.2.2.1, h.2.2.2] at h1
  omega
theorem fi2_skip (a : Nat) : ∀ (pre R : List Int) (i : Nat), (∀ y ∈ pre, is1 y = false) → fi2 a (pre ++ R) i = fi2 a R (i + pre.length)
  | [], R, i, _ => rfl
  | y :: pre, R, i, h => by
    have hy := h y (List.mem_cons_self ..)
    have ih := fi2_skip a pre R (i + 1) fun z hz => h z (List.mem_cons_of_mem _ hz)
    rw [List.cons_append, fi2, if_neg (by unfold is1 at hy; simp at hy; omega), ih, List.length_cons]
    congr 1
    omega
theorem fi_none (p : Int → Bool) : ∀ (L : List Int) (i : Nat), (∀ y ∈ L, p y = false) → fi p L i = -1
  | [], _, _ => rfl
  | x :: L, i, h => by rw [fi, if_neg (by rw [h x (List.mem_cons_self ..)]; decide)]; exact fi_none p L _ fun y hy => h y (List.mem_cons_of_mem _ hy)
theorem fi_split (p : Int → Bool) : ∀ (pre : List Int) (x : Int) (post : List Int) (i : Nat), (∀ y ∈ pre, p y = false) → p x = true → fi p (pre ++ x :: post) i = ((i + pre.length : Nat) : Int)
  | [], x, post, i, _, hx => by simp [fi, hx]
  | y :: pre, x, post, i, h, hx => by
    have ih := fi_split p pre x post (i + 1) (fun z hz => h z (List.mem_cons_of_mem _ hz)) hx
    rw [List.cons_append, fi, if_neg (by rw [h y (List.mem_cons_self ..)]; decide), ih, List.length_cons]
    congr 1
    omega
theorem idxT_none (p : Int → Bool) : ∀ (L : List Int), (∀ y ∈ L, p y = false) → idxT p L = -1
  | [], _ => rfl
  | x :: L, h => by
    rw [idxT, if_neg (by rw [h x (List.mem_cons_self ..)]; decide), idxT_none p L fun y hy => h y (List.mem_cons_of_mem _ hy)]
    rfl
theorem idxT_split (p : Int → Bool) : ∀ (pre : List Int) (x : Int) (post : List Int), (∀ y ∈ pre, p y = false) → p x = true → idxT p (pre ++ x :: post) = (pre.length : Int)
  | [], x, post, _, hx => by simp [idxT, hx]
  | y :: pre, x, post, h, hx => by
    have ih := idxT_split p pre x post (fun z hz => h z (List.mem_cons_of_mem _ hz)) hx
    rw [List.cons_append, idxT, if_neg (by rw [h y (List.mem_cons_self ..)]; decide), ih, if_neg (by omega), List.length_cons]
    omega
theorem smf_two : ∀ L : List Int, smf (fun x => 2 * ind x) L = 2 * smf ind L
  | [] => rfl
  | x :: L => by rw [smf, smf, smf_two L]; omega
theorem one_in {n r : Nat} {L : List Int} (h : Inv n r L) : ∃ x ∈ L, is1 x = true := by
  apply Classical.byContradiction
  intro hno
  have h1 := smf_le (fun x => 2 * ind x) idn L fun x hx => by
    have h2 := h.2.1 x hx
    have h3 : ¬ x = 1 := fun e => hno ⟨x, hx, by rw [e]; rfl⟩
    unfold ind idn
    split <;> omega
  rw [smf_two, h.2.2.1, h.2.2.2] at h1
  omega
theorem smf_append (f : Int → Int) : ∀ a b : List Int, smf f (a ++ b) = smf f a + smf f b
  | [], b => by simp [smf]
  | x :: a, b => by rw [List.cons_append, smf, smf, smf_append f a b]; omega
theorem split_first (p : Int → Bool) : ∀ L : List Int, (∃ x ∈ L, p x = true) → ∃ (pre : List Int) (x : Int) (post : List Int), L = pre ++ x :: post ∧ p x = true ∧ ∀ y ∈ pre, p y = false
  | [], h => by obtain ⟨x, hx, _⟩ := h; cases hx
  | y :: L, h => by
    by_cases hy : p y = true
    · exact ⟨[], y, L, rfl, hy, fun z hz => by cases hz⟩
    · obtain ⟨x, hx, hp⟩ := h
      rcases List.mem_cons.1 hx with rfl | hx
      · exact absurd hp hy
      · obtain ⟨pre, z, post, e, h1, h2⟩ := split_first p L ⟨x, hx, hp⟩
        refine ⟨y :: pre, z, post, by rw [e]; rfl, h1, fun w hw => ?_⟩
        rcases List.mem_cons.1 hw with rfl | hw
        · simpa using hy
        · exact h2 w hw
theorem tree_ab {n r : Nat} {L : List Int} (hr : 1 ≤ r) (h : Inv n r L) : ∃ a b : Nat, a < n ∧ b < n ∧ a ≠ b ∧ rd L (a : Int) = 1 ∧ 1 ≤ rd L (b : Int) ∧ (2 ≤ r → 2 ≤ rd L (b : Int)) ∧ fi is1 L 0 = (a : Int) ∧
    ((idxT (fun x => decide (x > 1)) L = -1 ∧ a + 1 < n ∧ fi is1 (L.drop (a + 1)) 0 = (b : Int) - (a : Int) - 1 ∧ a < b ∧ fi gt1 L 0 = -1 ∧ fi2 a L 0 = (b : Int)) ∨ (idxT (fun x => decide (x > 1)) L = (b : Int) ∧ fi gt1 L 0 = (b : Int))) := by
  obtain ⟨pre, x, post, e, hx, hpre⟩ := split_first is1 L (one_in h)
  have hx1 : x = 1 := by unfold is1 at hx; simpa using hx
  subst hx1
  have hlen : L.length = pre.length + (post.length + 1) := by rw [e]; simp
  have hln := h.1
  have hfa : fi is1 L 0 = (pre.length : Int) := by rw [e, fi_split is1 pre 1 post 0 hpre rfl, Nat.zero_add]
  have hra : rd L (pre.length : Int) = 1 := by rw [e]; exact rd_at_ _ _ _
  by_cases hb : ∃ y ∈ L, gt1 y = true
  · obtain ⟨pre2, y, post2, e2, hy, hpre2⟩ := split_first gt1 L hb
    have hy1 : y > 1 := by unfold gt1 at hy; simpa using hy
    have hl2 : L.length = pre2.length + (post2.length + 1) := by rw [e2]; simp
    have hrb : rd L (pre2.length : Int) = y := by rw [e2]; exact rd_at_ _ _ _
    refine ⟨pre.length, pre2.length, by omega, by omega, fun he => ?_, hra, by omega, fun _ => by omega, hfa, .inr ⟨?_, ?_⟩⟩
    · rw [he, hrb] at hra; omega
    · rw [e2]; exact idxT_split gt1 pre2 y post2 hpre2 hy
    · rw [e2, fi_split gt1 pre2 y post2 0 hpre2 hy, Nat.zero_add]
  · have hr1 : r = 1 := by
      apply Classical.byContradiction
      intro hne
      exact hb (big_in h (by omega))
    have hno : ∀ y ∈ L, gt1 y = false := fun y hy => by
      cases hg : gt1 y with
      | true => exact absurd ⟨y, hy, hg⟩ hb
      | false => rfl
    have hone : ∃ y ∈ post, is1 y = true := by
      apply Classical.byContradiction
      intro hnp
      have hsum := h.2.2.2
      rw [e, smf_append, smf] at hsum
      have z1 : smf idn pre ≤ smf (fun _ => 0) pre := smf_le _ _ _ fun y hy => by
        have h1 := h.2.1 y (by rw [e]; exact List.mem_append_left _ hy)
        have h2 := hno y (by rw [e]; exact List.mem_append_left _ hy)
        have h3 := hpre y hy
        unfold gt1 at h2
        unfold is1 at h3
        simp at h2 h3
        unfold idn
        omega
      have z2 : smf idn post ≤ smf (fun _ => 0) post := smf_le _ _ _ fun y hy => by
        have hm : y ∈ L := by rw [e]; exact List.mem_append_right _ (List.mem_cons_of_mem _ hy)
        have h1 := h.2.1 y hm
        have h2 := hno y hm
        have h3 : ¬ y = 1 := fun e => hnp ⟨y, hy, by rw [e]; rfl⟩
        unfold gt1 at h2
        simp at h2
        unfold idn
        omega
      have z3 : ∀ l : List Int, smf (fun _ => 0) l = 0 := by
        intro l
        induction l with
        | nil => rfl
        | cons x l ih => rw [smf, ih]; rfl
      rw [z3] at z1 z2
      have h5 : idn 1 = 1 := rfl
      omega
    obtain ⟨pre3, y, post3, e3, hy, hpre3⟩ := split_first is1 post hone
    have hy1 : y = 1 := by unfold is1 at hy; simpa using hy
    subst hy1
    have hl3 : post.length = pre3.length + (post3.length + 1) := by rw [e3]; simp
    have e4 : L = (pre ++ 1 :: pre3) ++ 1 :: post3 := by rw [e, e3]; simp
    have hl4 : (pre ++ 1 :: pre3).length = pre.length + 1 + pre3.length := by simp; omega
    have hrb : rd L ((pre.length + 1 + pre3.length : Nat) : Int) = 1 := by rw [← hl4, e4]; exact rd_at_ _ _ _
    refine ⟨pre.length, pre.length + 1 + pre3.length, by omega, by omega, by omega, hra, by omega, fun hh => by omega, hfa, .inl ⟨idxT_none gt1 L hno, by omega, ?_, by omega, fi_none gt1 L 0 hno, ?_⟩⟩
    · have hd : L.drop (pre.length + 1) = post := by rw [e, show pre ++ 1 :: post = (pre ++ [1]) ++ post by simp, List.drop_left' (by simp)]
      rw [hd, e3, fi_split is1 pre3 1 post3 0 hpre3 rfl]
      omega
    · rw [e, fi2_skip pre.length pre _ 0 hpre, fi2, if_neg (by omega), e3, fi2_skip pre.length pre3 _ _ hpre3, fi2, if_pos ⟨rfl, by omega⟩]
      congr 1
      omega

theorem tree_sim (n : Nat) (hn : n ≤ 12) (hn2 : 2 ≤ n) : ∀ (r : Nat) (L : List Int) (rel : Rel) (j : Nat), j + r = n - 1 → (r = 0 ∨ Inv n r L) → L.length = n →
    ∃ rel' : Rel, Ev (fun k => spec_TreeOfNumbers.l0 k (n : Int) L (mat n rel) (j : Int)) ((n : Int), pairsOf n rel', true) ∧ Ev (fun k => trT k r L (tab n rel)) (tab n rel')
  | 0, L, rel, j, hj, _, hL => by
    refine ⟨rel, ?_, Ev.now _⟩
    refine Ev.step (f := fun k => (spec_paOf.f k (mat n rel)).bind fun bt => some (bt.1, bt.2, true)) (fun k => ?_) (Ev.bind (paOf_ev n hn rel) (Ev.now _))
    rw [spec_TreeOfNumbers.l0, w64 (by omega) (by omega), if_neg (by omega)]
  | r + 1, L, rel, j, hj, hI, hL => by
    have hI2 : Inv n (r + 1) L := hI.resolve_left (by omega)
    obtain ⟨a, b, ha, hb, hab, h1, h2, h3, hfa, hor⟩ := tree_ab (by omega) hI2
    have hinv : r = 0 ∨ Inv n r (decT (decT L (a : Int)) (b : Int)) := by
      by_cases h0 : r = 0
      · exact .inl h0
      · exact .inr (decT_inv hn hI2 (by omega) ha hb hab h1 (h3 (by omega)))
    obtain ⟨rel', hs, hi⟩ := tree_sim n hn hn2 r (decT (decT L (a : Int)) (b : Int)) (upd (upd rel a b true) b a true) (j + 1) (by omega) hinv (by rw [decT_len, decT_len]; exact hL)
    refine ⟨rel', ?_, ?_⟩
    · rw [show ((j + 1 : Nat) : Int) = wrap64 ((j : Int) + 1) by rw [w1 (by omega)]] at hs
      have hbv : (if fi gt1 L 0 < 0 then fi2 a L 0 else fi gt1 L 0) = (b : Int) := by
        rcases hor with ⟨_, _, _, _, h5, h6⟩ | ⟨_, h5⟩
        · rw [h5, if_pos (by omega)]; exact h6
        · rw [h5, if_neg (by omega)]
      have hm1 : fi gt1 L 0 = -1 ∨ 0 ≤ fi gt1 L 0 := by
        rcases hor with ⟨_, _, _, _, h5, _⟩ | ⟨_, h5⟩
        · exact .inl h5
        · exact .inr (by omega)
      have hl2 := sp_l2 n hn L hL rel (j : Int) a b ha hb _ hs L [] (fi gt1 L 0) rfl hm1 (by simpa using hbv)
      have hl1 := sp_l1 n hn L hL (mat n rel) (j : Int) ((n : Int), pairsOf n rel', true) L [] (-1) (-1) rfl (.inl rfl) (.inl rfl) (by
        rw [if_pos (by decide), if_pos (by decide)]
        simp only [List.length_nil]
        rw [hfa]
        exact hl2)
      refine Ev.step (fun k => ?_) hl1
      rw [spec_TreeOfNumbers.l0, w64 (by omega) (by omega), if_pos (by omega)]
      rfl
    · unfold trT
      refine Ev.bind (Ev.cast (index_ev L 1 (by omega)) ((idxInt_fi L 0).trans hfa)) ?_
      rw [hL]
      simp only [if_pos (show (0 : Int) ≤ (a : Int) ∧ (a : Int) < (n : Int) by omega)]
      have htb : Ev (fun k => tbT k L (a : Int)) (b : Int) := by
        unfold tbT
        rcases hor with ⟨h4, h5, h6, h7, _, _⟩ | ⟨h4, _⟩
        · rw [h4]
          simp only [if_pos (show (-1 : Int) < 0 by decide)]
          rw [hL]
          simp only [if_pos (show (a : Int) + 1 < (n : Int) by omega), show ((a : Int) + 1).toNat = a + 1 by omega]
          refine Ev.bind (Ev.cast (index_ev (L.drop (a + 1)) 1 (by rw [List.length_drop]; omega)) ((idxInt_fi _ 0).trans h6)) ?_
          exact Ev.cast (Ev.now _) (by rw [w64 (by omega) (by omega)]; omega)
        · rw [h4]
          simp only [if_neg (show ¬ ((b : Nat) : Int) < 0 by omega)]
          exact Ev.now _
      refine Ev.bind htb ?_
      simp only [if_pos (show (0 : Int) ≤ (b : Int) ∧ (b : Int) < (n : Int) by omega), put_f n hn rel a b ha hb, Option.bind_some]
      exact hi

theorem TreeOfNumbers_common (l : List Int) (hl : l.length ≤ 1048576) : ∃ R : Int × List S80 × Bool, Ev (fun k => spec_TreeOfNumbers.f k l) R ∧ Ev (fun k => impl_TreeOfNumbers.f k l) R ∧ R.2.1.length ≤ 1048576 := by
  cases h : isNums l with
  | false =>
    refine ⟨noTree, ?_, ?_, Nat.zero_le _⟩
    · unfold spec_TreeOfNumbers.f
      refine Ev.bind (deGood_ev l) ?_
      simp only [h, Bool.false_eq_true, if_false]
      exact spTree_no l
    · unfold impl_TreeOfNumbers.f
      simp only [isNumbers_f l (by omega), Option.bind_some, h, Bool.false_eq_true, if_false]
      exact Ev.now _
  | true =>
    have hsm : small l := isNums_bounds h
    have hn := hsm.1
    by_cases h2 : (l.length : Int) < 2
    · refine ⟨noTree, ?_, ?_, Nat.zero_le _⟩
      · unfold spec_TreeOfNumbers.f
        refine Ev.bind (deGood_ev l) ?_
        simp only [h, if_true, if_pos h2]
        exact spTree_no l
      · unfold impl_TreeOfNumbers.f
        simp only [isNumbers_f l (by omega), Option.bind_some, h, if_true, if_pos h2]
        exact Ev.now _
    · cases hz : l.contains 0 with
      | true =>
        refine ⟨noTree, ?_, ?_, Nat.zero_le _⟩
        · unfold spec_TreeOfNumbers.f
          refine Ev.bind (deGood_ev l) ?_
          simp only [h, if_true, if_neg h2]
          refine Ev.bind (l1Has_ev l 0 (by omega)) ?_
          simp only [hz, if_true]
          exact spTree_no l
        · unfold impl_TreeOfNumbers.f
          simp only [isNumbers_f l (by omega), Option.bind_some, h, if_true, if_neg h2]
          refine Ev.bind (contains_ev l 0 (by omega)) ?_
          simp only [hz, if_true]
          exact Ev.now _
      | false =>
        have hw : wrap64 (2 * wrap64 ((l.length : Int) - 1)) = 2 * ((l.length : Int) - 1) := by rw [w64 (i := (l.length : Int) - 1) (by omega) (by omega), w64 (by omega) (by omega)]
        by_cases hs : l.sum = 2 * ((l.length : Int) - 1)
        · have hpos : ∀ x ∈ l, 0 < x := fun x hx => by
            have h1 := hsm.2 x hx
            have h3 : ¬ x = 0 := fun e => by
              have : l.contains 0 = true := by rw [List.contains_iff_mem]; rw [← e]; exact hx
              rw [hz] at this
              cases this
            omega
          have hI : Inv l.length (l.length - 1) l := ⟨rfl, hsm.2, by rw [smf_ind_all l hpos]; omega, by rw [← sum_smf, hs]; omega⟩
          obtain ⟨rel', e1, e2⟩ := tree_sim l.length hn (by omega) (l.length - 1) l (fun _ _ => false) 0 (by omega) (.inr hI) rfl
          refine ⟨((l.length : Int), pairsOf l.length rel', true), ?_, ?_, ?_⟩
          · unfold spec_TreeOfNumbers.f
            refine Ev.bind (deGood_ev l) ?_
            simp only [h, if_true, if_neg h2]
            refine Ev.bind (l1Has_ev l 0 (by omega)) ?_
            simp only [hz, Bool.false_eq_true, if_false]
            refine Ev.bind (deSum_ev l hsm) ?_
            rw [hw, hs]
            simp only [bne_self_eq_false]
            refine Ev.step (fun k => by rw [spec_TreeOfNumbers.j0, if_neg (by decide), l1Own_f l (by omega), Option.bind_some]) ?_
            have ht := paTable_ev l.length hn [] (by simp) (fun x hx => by cases hx)
            refine Ev.bind ht ?_
            exact e1
          · unfold impl_TreeOfNumbers.f
            simp only [isNumbers_f l (by omega), Option.bind_some, h, if_true, if_neg h2]
            refine Ev.bind (contains_ev l 0 (by omega)) ?_
            simp only [hz, Bool.false_eq_true, if_false]
            refine Ev.bind (implSum_ev l hsm) ?_
            simp only [if_pos hs, if_pos hn]
            rw [← tab_false]
            refine Ev.bind e2 ?_
            exact Ev.bind (party_ev l.length hn rel') (Ev.now _)
          · have := pairsOf_len l.length hn rel'
            simp only
            omega
        · refine ⟨noTree, ?_, ?_, Nat.zero_le _⟩
          · unfold spec_TreeOfNumbers.f
            refine Ev.bind (deGood_ev l) ?_
            simp only [h, if_true, if_neg h2]
            refine Ev.bind (l1Has_ev l 0 (by omega)) ?_
            simp only [hz, Bool.false_eq_true, if_false]
            refine Ev.bind (deSum_ev l hsm) ?_
            rw [hw, show (l.sum != 2 * ((l.length : Int) - 1)) = true from bne_iff_ne.2 hs]
            exact spTree_no l
          · unfold impl_TreeOfNumbers.f
            simp only [isNumbers_f l (by omega), Option.bind_some, h, if_true, if_neg h2]
            refine Ev.bind (contains_ev l 0 (by omega)) ?_
            simp only [hz, Bool.false_eq_true, if_false]
            refine Ev.bind (implSum_ev l hsm) ?_
            simp only [if_neg hs, if_pos hn]
            exact Ev.now _

theorem ext_getD {a b : List Int} (h : a.length = b.length) (hj : ∀ j, j < a.length → a.getD j 0 = b.getD j 0) : a = b := by
  apply List.ext_getElem h
  intro i h1 h2
  have := hj i h1
  simpa [List.getD_eq_getElem?_getD, h1, h2] using this
theorem eqIntS_l0 (a b : List Int) (h : a.length = b.length) (hl : a.length < 4611686018427387904) : ∀ (d i : Nat), i + d = a.length → (∀ j, j < i → a.getD j 0 = b.getD j 0) → Ev (fun k => laws_eqIntS.l0 k a b i) (decide (a = b))
  | 0, i, hd, hj => by
    refine Ev.one (fun k => ?_)
    have : a = b := ext_getD h (fun j hj' => hj j (by omega))
    rw [laws_eqIntS.l0, if_neg (by omega)]; simp [this]
  | d + 1, i, hd, hj => by
    by_cases e : a.getD i 0 = b.getD i 0
    · refine Ev.step (f := fun k => laws_eqIntS.l0 k a b ((i + 1 : Nat) : Int)) (fun k => ?_) (eqIntS_l0 a b h hl d (i + 1) (by omega) ?_)
      · rw [laws_eqIntS.l0, if_pos (by omega), if_pos (by omega), if_pos (by omega), if_pos (by exact e), w1 (by omega)]
      · intro j hj'
        by_cases e2 : j = i
        · rw [e2]; exact e
        · exact hj j (by omega)
    · refine Ev.one (fun k => ?_)
      have : a ≠ b := fun h => e (by rw [h])
      rw [laws_eqIntS.l0, if_pos (by omega), if_pos (by omega), if_pos (by omega), if_neg (by exact e)]; simp [this]
theorem eqIntS_ev (a b : List Int) (hl : a.length < 4611686018427387904) : Ev (fun k => laws_eqIntS.f k a b) (decide (a = b)) := by
  unfold laws_eqIntS.f
  by_cases h : a.length = b.length
  · simp only [if_pos (show (a.length : Int) = (b.length : Int) by omega)]
    exact eqIntS_l0 a b h hl a.length 0 (by omega) (fun j hj => absurd hj (Nat.not_lt_zero _))
  · simp only [if_neg (show ¬ (a.length : Int) = (b.length : Int) by omega)]
    have : a ≠ b := fun e => h (by rw [e])
    exact Ev.one (fun k => by simp [this])
theorem eqIntS_self (a : List Int) (hl : a.length < 4611686018427387904) : Ev (fun k => laws_eqIntS.f k a a) true := by
  have h := eqIntS_ev a a hl
  rwa [decide_eq_true rfl] at h
theorem eqPairS_l0 (l : List S80) (hl : l.length < 4611686018427387904) : ∀ (d i : Nat), i + d = l.length → Ev (fun k => laws_eqPairS.l0 k l l i) true
  | 0, i, hd => by
    refine Ev.one (fun k => ?_)
    rw [laws_eqPairS.l0, if_neg (by omega)]
  | d + 1, i, hd => by
    refine Ev.step (fun k => ?_) (eqPairS_l0 l hl d (i + 1) (by omega))
    rw [laws_eqPairS.l0, if_pos (by omega), if_pos (by omega), if_pos (by omega), laws_eqPair.f, if_pos rfl, if_pos rfl, w1 (by omega)]
    rfl
theorem eqParty_self (a : Int) (l : List S80) (hl : l.length < 4611686018427387904) : Ev (fun k => laws_eqParty.f k a l a l) true := by
  unfold laws_eqParty.f laws_eqPairS.f
  simp only [if_true]
  have h : Ev (fun k => laws_eqPairS.l0 k l l 0) true := by simpa using eqPairS_l0 l hl l.length 0 (by omega)
  refine Ev.bind h ?_
  simp only [if_true]
  exact Ev.now _

/-- The pairs bear the marks m, m+1, .. -/
def MarkedP (m : Int) (z : List S80) : Prop := ∀ j, j < z.length → z[j]? = some ⟨m + 2 * j, m + 2 * j + 1⟩
theorem getD_of_get {α : Type} (l : List α) (i : Nat) (d x : α) (h : l[i]? = some x) : l.getD i d = x := by rw [List.getD_eq_getElem?_getD, h]; rfl
theorem heldPairS_l0 (m : Int) (z : List S80) (h0 : 0 ≤ m) (hm : m + 2 * z.length < 4611686018427387904) (hz : MarkedP m z) : ∀ (d i : Nat), i + d = z.length → Ev (fun k => laws_heldPairS.l0 k z (m + 2 * i) i) (m + 2 * z.length)
  | 0, i, hd => by
    refine Ev.one (fun k => ?_)
    rw [laws_heldPairS.l0, if_neg (by omega), show i = z.length by omega]
  | d + 1, i, hd => by
    have hx : rd_T80 z (i : Int) = ⟨m + 2 * i, m + 2 * i + 1⟩ := getD_of_get z i _ _ (hz i (by omega))
    refine Ev.step (fun k => ?_) (heldPairS_l0 m z h0 hm hz d (i + 1) (by omega))
    rw [laws_heldPairS.l0, if_pos (by omega), if_pos (by omega), hx, if_pos rfl, w64 (i := m + 2 * (i : Int) + 1) (by omega) (by omega), if_pos rfl, w1 (by omega), w64 (by omega) (by omega), show m + 2 * (i : Int) + 1 + 1 = m + 2 * ((i + 1 : Nat) : Int) by omega]
theorem heldParty_ev (a : Int) (z : List S80) (m : Int) (h0 : 0 ≤ m) (hm : m + 2 * z.length < 4611686018427387904) (hz : MarkedP m z) : Ev (fun k => laws_heldParty.f k a z m) (m + 2 * z.length) := by
  unfold laws_heldParty.f laws_heldPairS.f
  have hE : Ev (fun k => laws_heldPairS.l0 k z m 0) (m + 2 * z.length) := by simpa using heldPairS_l0 m z h0 hm hz z.length 0 (by omega)
  refine Ev.bind hE ?_
  simp only [if_neg (show ¬ (m + 2 * (z.length : Int) < 0) by omega)]
  exact Ev.now _

/-- The list bears the marks m, m+1, .. -/
def Marked (m : Int) (z : List Int) : Prop := ∀ j, j < z.length → z.getD j 0 = m + j
theorem getD_set (l : List Int) (i j : Nat) (v : Int) (hi : i < l.length) : (l.set i v).getD j 0 = if i = j then v else l.getD j 0 := by
  rw [List.getD_eq_getElem?_getD, List.getElem?_set]
  by_cases h : i = j
  · subst h; simp [hi]
  · simp [h]
theorem markIntS_l0 (m : Int) (n : Nat) (h0 : 0 ≤ m) (hm : m + n < 4611686018427387904) : ∀ (d i : Nat) (y : List Int), i + d = n → y.length = n → (∀ j, j < i → y.getD j 0 = m + j) → ∃ z : List Int, z.length = n ∧ Marked m z ∧ Ev (fun k => laws_markIntS.l0 k y (m + i) i) (m + n, z)
  | 0, i, y, hd, hy, h => by
    refine ⟨y, hy, fun j hj => h j (by omega), Ev.one (fun k => ?_)⟩
    rw [laws_markIntS.l0, if_neg (by omega), show i = n by omega]
  | d + 1, i, y, hd, hy, h => by
    obtain ⟨z, hz, hj, hE⟩ := markIntS_l0 m n h0 hm d (i + 1) (y.set i (m + i)) (by omega) (by simpa using hy) (fun j hj => by
      rw [getD_set _ _ _ _ (by omega)]
      by_cases e : i = j
      · simp [e]
      · rw [if_neg e]; exact h j (by omega))
    refine ⟨z, hz, hj, Ev.step (fun k => ?_) hE⟩
    rw [laws_markIntS.l0, if_pos (by omega), if_pos (by omega), w1 (by omega), w64 (by omega) (by omega), show m + (i : Int) + 1 = m + ((i + 1 : Nat) : Int) by omega]
    rfl
theorem markIntS_ev (y : List Int) (m : Int) (h0 : 0 ≤ m) (hm : m + y.length < 4611686018427387904) : ∃ z : List Int, z.length = y.length ∧ Marked m z ∧ Ev (fun k => laws_markIntS.f k y m) (m + y.length, z) := by
  obtain ⟨z, hz, hj, hE⟩ := markIntS_l0 m y.length h0 hm y.length 0 y (by omega) rfl (fun j hj => absurd hj (Nat.not_lt_zero _))
  refine ⟨z, hz, hj, ?_⟩
  unfold laws_markIntS.f
  simpa using hE
theorem rdT_set (y : List S80) (i : Nat) (v : S80) (h : i < y.length) : rd_T80 (y.set i v) (i : Int) = v := getD_of_get _ i _ _ (by rw [List.getElem?_set]; simp [h])
theorem markPairS_l0 (m : Int) (n : Nat) (h0 : 0 ≤ m) (hm : m + 2 * n < 4611686018427387904) : ∀ (d i : Nat) (y : List S80), i + d = n → y.length = n → (∀ j, j < i → y[j]? = some ⟨m + 2 * j, m + 2 * j + 1⟩) → ∃ z : List S80, z.length = n ∧ MarkedP m z ∧ Ev (fun k => laws_markPairS.l0 k y (m + 2 * i) i) (m + 2 * n, z)
  | 0, i, y, hd, hy, h => by
    refine ⟨y, hy, fun j hj => h j (by omega), Ev.one (fun k => ?_)⟩
    rw [laws_markPairS.l0, if_neg (by omega), show i = n by omega]
  | d + 1, i, y, hd, hy, h => by
    have hi : i < y.length := by omega
    obtain ⟨z, hz, hj, hE⟩ := markPairS_l0 m n h0 hm d (i + 1) (y.set i ⟨m + 2 * i, m + 2 * i + 1⟩) (by omega) (by simpa using hy) (fun j hj => by
      rw [List.getElem?_set]
      by_cases e : i = j
      · subst e; simp [hi]
      · rw [if_neg e]; exact h j (by omega))
    refine ⟨z, hz, hj, Ev.step (fun k => ?_) hE⟩
    rw [laws_markPairS.l0, if_pos (by omega), if_pos (by omega)]
    simp only [Option.bind_some, Int.toNat_natCast]
    rw [rdT_set _ _ _ (by omega), List.set_set, w1 (by omega), w64 (i := m + 2 * (i : Int) + 1) (by omega) (by omega), w64 (by omega) (by omega), show m + 2 * (i : Int) + 1 + 1 = m + 2 * ((i + 1 : Nat) : Int) by omega]
theorem markParty_ev (a : Int) (y : List S80) (m : Int) (h0 : 0 ≤ m) (hm : m + 2 * y.length < 4611686018427387904) : ∃ z : List S80, z.length = y.length ∧ MarkedP m z ∧ Ev (fun k => laws_markParty.f k a y m) (m + 2 * y.length, z) := by
  obtain ⟨z, hz, hj, hE⟩ := markPairS_l0 m y.length h0 hm y.length 0 y (by omega) rfl (fun j hj => absurd hj (Nat.not_lt_zero _))
  refine ⟨z, hz, hj, ?_⟩
  unfold laws_markParty.f laws_markPairS.f
  have hE' : Ev (fun k => laws_markPairS.l0 k y m 0) (m + 2 * y.length, z) := by simpa using hE
  exact Ev.bind hE' (Ev.now _)
theorem toIntS_l0 (l : List Int) (hl : l.length < 4611686018427387904) : ∀ (d i : Nat) (y : List Int), i + d = l.length → y.length = l.length → (∀ j, j < i → y.getD j 0 = l.getD j 0) → Ev (fun k => laws_toIntS.l0 k l y i) l
  | 0, i, y, hd, hy, h => by
    refine Ev.one (fun k => ?_)
    rw [laws_toIntS.l0, if_neg (by omega), ext_getD hy (fun j hj => h j (by omega))]
  | d + 1, i, y, hd, hy, h => by
    refine Ev.step (f := fun k => laws_toIntS.l0 k l (y.set i (l.getD i 0)) ((i + 1 : Nat) : Int)) (fun k => ?_) (toIntS_l0 l hl d (i + 1) _ (by omega) (by simpa using hy) ?_)
    · rw [laws_toIntS.l0, if_pos (by omega), if_pos (by omega), if_pos (by omega), w1 (by omega)]; rfl
    · intro j hj
      rw [getD_set _ _ _ _ (by omega)]
      by_cases e : i = j
      · simp [e]
      · rw [if_neg e]; exact h j (by omega)
theorem toIntS_ev (l : List Int) (hl : l.length ≤ 35184372088832) : Ev (fun k => laws_toIntS.f k l) l := by
  unfold laws_toIntS.f
  simp only [if_pos (show (0 : Int) ≤ (l.length : Int) by omega), if_pos (show ((l.length : Int) : Int).toNat ≤ 35184372088832 by simpa using hl)]
  exact toIntS_l0 l (by omega) l.length 0 _ (by omega) (by simp) (fun j hj => absurd hj (Nat.not_lt_zero _))
theorem FnExactTreeOfNumbers : laws_FnExactTreeOfNumbers.Pure := by
  intro l0 hm0 hb0 hw0
  refine Ev.rounds ?_
  unfold laws_FnExactTreeOfNumbers.f
  by_cases hg0 : (l0.length : Int) > 1048576
  · simp only [if_pos hg0]; exact Ev.now _
  simp only [if_neg hg0]
  have hlen0 : l0.length ≤ 1048576 := by omega
  obtain ⟨R, hs, hi, hr0⟩ := TreeOfNumbers_common l0 (by omega)
  refine Ev.bind (toIntS_ev l0 (by omega)) ?_
  refine Ev.bind hs ?_
  try simp only [if_true, if_false, bne_self_eq_false, Bool.false_eq_true, ↓reduceIte, decide_true]
  refine Ev.bind (toIntS_ev l0 (by omega)) ?_
  refine Ev.bind hi ?_
  try simp only [if_true, if_false, bne_self_eq_false, Bool.false_eq_true, ↓reduceIte, decide_true]
  refine Ev.bind (eqParty_self R.1 R.2.1 (by omega)) ?_
  try simp only [if_true, if_false, bne_self_eq_false, Bool.false_eq_true, ↓reduceIte, decide_true]
  try simp only [if_true, if_false, bne_self_eq_false, Bool.false_eq_true, ↓reduceIte, decide_true]
  refine Ev.step (fun k => rfl) ?_
  simp only [laws_FnExactTreeOfNumbers.j0]
  try simp only [if_true, if_false, bne_self_eq_false, Bool.false_eq_true, ↓reduceIte, decide_true]
  refine Ev.bind (toIntS_ev l0 (by omega)) ?_
  refine Ev.bind (eqIntS_self l0 (by omega)) ?_
  try simp only [if_true, if_false, bne_self_eq_false, Bool.false_eq_true, ↓reduceIte, decide_true]
  obtain ⟨zk1, hzk1, _, hEk1⟩ := markIntS_ev l0 (1 : Int) (by omega) (by omega)
  refine Ev.bind hEk1 ?_
  try simp only [if_true, if_false, bne_self_eq_false, Bool.false_eq_true, ↓reduceIte, decide_true]
  simp only [if_neg (show ¬ (((1 : Int) + (l0.length : Int)) < 0) by omega)]
  refine Ev.bind (eqParty_self R.1 R.2.1 (by omega)) ?_
  try simp only [if_true, if_false, bne_self_eq_false, Bool.false_eq_true, ↓reduceIte, decide_true]
  try simp only [if_true, if_false, bne_self_eq_false, Bool.false_eq_true, ↓reduceIte, decide_true]
  refine Ev.step (fun k => rfl) ?_
  simp only [laws_FnExactTreeOfNumbers.j1]
  try simp only [if_true, if_false, bne_self_eq_false, Bool.false_eq_true, ↓reduceIte, decide_true]
  obtain ⟨zm, hzm, hmm, hEm⟩ := markParty_ev R.1 R.2.1 1 (by omega) (by omega)
  refine Ev.bind hEm ?_
  try simp only [if_true, if_false, bne_self_eq_false, Bool.false_eq_true, ↓reduceIte, decide_true]
  refine Ev.bind (heldParty_ev R.1 zm 1 (by omega) (by omega) hmm) ?_
  simp only [hzm, if_neg (show ¬ ((1 + 2 * (R.2.1.length : Int)) < 0) by omega), if_true]
  refine Ev.bind (toIntS_ev l0 (by omega)) ?_
  refine Ev.bind hi ?_
  try simp only [if_true, if_false, bne_self_eq_false, Bool.false_eq_true, ↓reduceIte, decide_true]
  refine Ev.bind (eqParty_self R.1 R.2.1 (by omega)) ?_
  try simp only [if_true, if_false, bne_self_eq_false, Bool.false_eq_true, ↓reduceIte, decide_true]
  try simp only [if_true, if_false, bne_self_eq_false, Bool.false_eq_true, ↓reduceIte, decide_true]
  refine Ev.step (fun k => rfl) ?_
  simp only [laws_FnExactTreeOfNumbers.j2]
  try simp only [if_true, if_false, bne_self_eq_false, Bool.false_eq_true, ↓reduceIte, decide_true]
  refine Ev.bind (heldParty_ev R.1 zm 1 (by omega) (by omega) hmm) ?_
  simp only [hzm, if_neg (show ¬ ((1 + 2 * (R.2.1.length : Int)) < 0) by omega), if_true]
  exact Ev.now _
end Go.Proofs.Ytjipjcdeoajnjaa.Pure
