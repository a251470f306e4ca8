/- The program's GroupsOfParty returns what the reference's returns, for all arguments (the plain statement behind the walk of lawss.py); no condition. -/
import Derived.Test.YtifkaefccghgdaaPx0
import Derived.Test.YtifkaefccghgdaaPx1
import Derived.Test.YtifkaefccghgdaaPx11
import Derived.Test.YtifkaefccghgdaaPx13
import Derived.Test.YtifkaefccghgdaaPx16
import Derived.Test.YtifkaefccghgdaaPx2
import Derived.Test.YtifkaefccghgdaaPx4
import Derived.Test.YtifkaefccghgdaaPx5
import Derived.Test.YtifkaefccghgdaaPx6
import Derived.Test.YtifkaefccghgdaaPx7
import Derived.Test.YtifkaefccghgdaaPx9
namespace Go.Proofs.Ytifkaefccghgdaa.Pure
open Go.RowKit Go.Proofs.Ytifkaefccghgdaa.P Go.Proofs.YtifkaefccghgdaaW.PrintWords Go.Proofs.YtifkaefccghgdaaW.PrintLast
set_option linter.unusedSimpArgs false
set_option linter.unusedVariables false
theorem Ev.cast {α : Type} {g : Nat → Option α} {a b : α} (h : Ev g a) (e : a = b) : Ev g b := e ▸ h
def crowd (n : Int) : Bool := decide (0 ≤ n ∧ n ≤ 12)
def lt2 (p q : S79) : Bool := decide (p.f0 < q.f0) || (decide (p.f0 = q.f0) && decide (p.f1 < q.f1))
def okPrev : Option S79 → S79 → Bool
  | none, _ => true
  | some p, x => lt2 p x
def okFrom (n : Int) : Option S79 → List S79 → Bool
  | _, [] => true
  | prev, x :: xs => (decide (0 ≤ x.f0) && (decide (x.f0 < x.f1) && (decide (x.f1 < n) && okPrev prev x))) && okFrom n (some x) xs
def good (n : Int) (l : List S79) : Bool := crowd n && okFrom n none l
def fewOf (n : Int) (l : List S79) : Bool := good n l && decide (n ≤ 8)
/-- The first colouring that begins with cs and has colours below most, in order. -/
def dfs (r : Nat → Nat → Bool) (most : Nat) : Nat → List Int → Option (List Int)
  | 0, cs => some cs
  | d + 1, cs => (List.range most).findSome? fun k => if clashAt r cs k cs.length then none else dfs r most d (cs ++ [(k : Int)])
def idFrom (m d : Nat) : List Int := (List.range' m d).map fun i : Nat => (i : Int)
/-- What the reference tells: the first number of colours that does, and the first colouring with it. -/
def fewSpec (r : Nat → Nat → Bool) (n : Nat) : List Int × Int :=
  match (List.range n).findSome? fun most => (dfs r most n []).map fun c => (c, most) with
  | some (c, most) => (c, (most : Int))
  | none => (idFrom 0 n, (n : Int))
theorem dfs_colours (r : Nat → Nat → Bool) (most : Nat) : ∀ (d : Nat) (cs x : List Int), dfs r most d cs = some x → (∀ y ∈ cs, 0 ≤ y ∧ y < (most : Int)) → ∀ y ∈ x, 0 ≤ y ∧ y < (most : Int)
  | 0, cs, x, h, hc => by simp [dfs] at h; subst h; exact hc
  | d + 1, cs, x, h, hc => by
    unfold dfs at h
    rw [List.findSome?_eq_some_iff] at h
    obtain ⟨l1, k, l2, he, h, _⟩ := h
    have hk : k < most := by
      have : k ∈ List.range most := by rw [he]; simp
      exact List.mem_range.1 this
    split at h
    · simp at h
    · refine dfs_colours r most d _ x h fun y hy => ?_
      rw [List.mem_append, List.mem_singleton] at hy
      rcases hy with hy | rfl
      · exact hc y hy
      · omega
theorem fewSpec_colours (r : Nat → Nat → Bool) (n : Nat) : ∃ few : Nat, (fewSpec r n).2 = (few : Int) ∧ few ≤ n ∧ ∀ y ∈ (fewSpec r n).1, 0 ≤ y ∧ y < (few : Int) := by
  unfold fewSpec
  split
  · next c most h =>
    rw [List.findSome?_eq_some_iff] at h
    obtain ⟨l1, a, l2, he0, h, _⟩ := h
    obtain ⟨c', hc, he⟩ := Option.map_eq_some_iff.1 h
    injection he with e1 e2
    subst e1 e2
    have hk : a < n := by
      have : a ∈ List.range n := by rw [he0]; simp
      exact List.mem_range.1 this
    exact ⟨a, rfl, by omega, dfs_colours r a n [] c' hc (by simp)⟩
  · refine ⟨n, rfl, Nat.le_refl _, fun y hy => ?_⟩
    simp only [idFrom, List.mem_map, List.mem_range'_1] at hy
    obtain ⟨i, hi, rfl⟩ := hy
    omega
theorem dfs_len (r : Nat → Nat → Bool) (most : Nat) : ∀ (d : Nat) (cs x : List Int), dfs r most d cs = some x → x.length = cs.length + d
  | 0, cs, x, h => by simp [dfs] at h; subst h; rfl
  | d + 1, cs, x, h => by
    unfold dfs at h
    rw [List.findSome?_eq_some_iff] at h
    obtain ⟨_, k, _, _, h, _⟩ := h
    split at h
    · simp at h
    · have := dfs_len r most d _ x h
      rw [List.length_append, List.length_singleton] at this
      omega
theorem fewSpec_len (r : Nat → Nat → Bool) (n : Nat) : (fewSpec r n).1.length = n := by
  unfold fewSpec
  split
  · next c most h =>
    rw [List.findSome?_eq_some_iff] at h
    obtain ⟨_, a, _, _, h, _⟩ := h
    obtain ⟨c', hc, he⟩ := Option.map_eq_some_iff.1 h
    injection he with e1 e2
    subst e1
    simpa using dfs_len r a n [] c' hc
  · simp [idFrom]
def run : List Int → Nat → Option Nat
  | [], m => some m
  | x :: l, m => if 0 ≤ x ∧ x < (m : Int) then run l m else if x = (m : Int) then run l (m + 1) else none
theorem run_append : ∀ (a b : List Int) (m : Nat), run (a ++ b) m = (run a m).bind fun i => run b i
  | [], b, m => rfl
  | x :: a, b, m => by
    rw [List.cons_append, run, run]
    split
    · exact run_append a b m
    · split
      · exact run_append a b (m + 1)
      · rfl
theorem cols_run (r : Nat → Nat → Bool) : ∀ (d : Nat) (cs : List Int) (m : Nat), run cs 0 = some m → ∀ p ∈ cols r d cs m, run p.1 0 = some p.2
  | 0, cs, m, h, p, hp => by simp [cols] at hp; subst hp; exact h
  | d + 1, cs, m, h, p, hp => by
    rw [cols, List.mem_flatMap] at hp
    obtain ⟨k, hk, hp⟩ := hp
    have hk := List.mem_range.1 hk
    split at hp
    · cases hp
    · refine cols_run r d _ _ ?_ p hp
      rw [run_append, h, Option.bind_some, run]
      by_cases e : k < m
      · rw [if_pos (by omega), show max m (k + 1) = m by omega]; rfl
      · rw [if_neg (by omega), if_pos (by omega), show max m (k + 1) = m + 1 by omega]; rfl
theorem few_in : ∀ (l : List (List Int × Nat)) (s : List Int × Int), (l.foldl (fun s p => fewStep s p.1 p.2) s = s) ∨ ∃ p ∈ l, l.foldl (fun s p => fewStep s p.1 p.2) s = (p.1, (p.2 : Int))
  | [], s => .inl rfl
  | q :: l, s => by
    rw [List.foldl_cons]
    rcases few_in l (fewStep s q.1 q.2) with h | ⟨p, hp, h⟩
    · rw [h]
      unfold fewStep
      split
      · exact .inr ⟨q, List.mem_cons_self .., rfl⟩
      · exact .inl rfl
    · exact .inr ⟨p, List.mem_cons_of_mem _ hp, h⟩
theorem clash_fresh (r : Nat → Nat → Bool) (cs : List Int) (m : Nat) (h : ∀ y ∈ cs, y < (m : Int)) : clashAt r cs m cs.length = false := by
  unfold clashAt
  rw [List.any_eq_false]
  intro b hb
  rw [List.mem_range] at hb
  have hy : cs.getD b 0 ∈ cs := by simp [List.getD, List.getElem?_eq_getElem hb]
  have := h _ hy
  simp only [Bool.and_eq_true, beq_iff_eq, not_and]
  intro he; omega
theorem idFrom_succ (m d : Nat) : idFrom m (d + 1) = (m : Int) :: idFrom (m + 1) d := by simp [idFrom, List.range'_succ]
theorem cols_id (r : Nat → Nat → Bool) : ∀ (d : Nat) (cs : List Int) (m : Nat), (∀ y ∈ cs, y < (m : Int)) → (cs ++ idFrom m d, m + d) ∈ cols r d cs m
  | 0, cs, m, _ => by simp [cols, idFrom]
  | d + 1, cs, m, hs => by
    unfold cols
    rw [List.mem_flatMap]
    refine ⟨m, by simp, ?_⟩
    rw [clash_fresh r cs m hs]
    have ih := cols_id r d (cs ++ [(m : Int)]) (m + 1) (fun y hy => by
      rw [List.mem_append, List.mem_singleton] at hy
      rcases hy with hy | rfl
      · have := hs y hy; omega
      · omega)
    rw [show max m (m + 1) = m + 1 by omega, if_neg (by simp), idFrom_succ]
    rw [List.append_assoc, List.singleton_append, show m + 1 + d = m + (d + 1) by omega] at ih
    exact ih
theorem cols_le (r : Nat → Nat → Bool) : ∀ (d : Nat) (cs : List Int) (m : Nat), ∀ p ∈ cols r d cs m, p.2 ≤ m + d ∧ (p.2 = m + d → p.1 = cs ++ idFrom m d)
  | 0, cs, m, p, h => by simp [cols] at h; subst h; simp [idFrom]
  | d + 1, cs, m, p, h => by
    unfold cols at h
    rw [List.mem_flatMap] at h
    obtain ⟨k, hk, h⟩ := h
    rw [List.mem_range] at hk
    split at h
    · simp at h
    · have ih := cols_le r d _ _ p h
      by_cases hkm : k = m
      · subst hkm
        rw [show max k (k + 1) = k + 1 by omega] at ih
        refine ⟨by omega, fun he => ?_⟩
        rw [ih.2 (by omega), idFrom_succ, List.append_assoc, List.singleton_append]
      · rw [show max m (k + 1) = m by omega] at ih
        exact ⟨by omega, fun he => by omega⟩
theorem cols_ge (r : Nat → Nat → Bool) : ∀ (d : Nat) (cs : List Int) (m : Nat), ∀ p ∈ cols r d cs m, m ≤ p.2
  | 0, cs, m, p, h => by simp [cols] at h; subst h; exact Nat.le_refl _
  | d + 1, cs, m, p, h => by
    unfold cols at h
    rw [List.mem_flatMap] at h
    obtain ⟨k, hk, h⟩ := h
    split at h
    · simp at h
    · exact Nat.le_trans (Nat.le_max_left _ _) (cols_ge r d _ _ p h)
def swapC (m k : Nat) (x : Int) : Int := if x = (m : Int) then (k : Int) else if x = (k : Int) then (m : Int) else x
theorem getD_map_swap (m k : Nat) (cs : List Int) (b : Nat) (h : b < cs.length) : (cs.map (swapC m k)).getD b 0 = swapC m k (cs.getD b 0) := by
  simp [List.getD, List.getElem?_eq_getElem h]
theorem swapC_swapC (m k : Nat) (x : Int) : swapC m k (swapC m k x) = x := by unfold swapC; (repeat' split) <;> omega
theorem swapC_inj (m k : Nat) (x y : Int) : swapC m k x = swapC m k y ↔ x = y := ⟨fun h => by rw [← swapC_swapC m k x, h, swapC_swapC], fun h => by rw [h]⟩
def swapN (m k x : Nat) : Nat := if x = m then k else if x = k then m else x
theorem swapN_cast (m k x : Nat) : swapC m k (x : Int) = ((swapN m k x : Nat) : Int) := by unfold swapC swapN; (repeat' split) <;> omega
theorem clashAt_swap (r : Nat → Nat → Bool) (m k : Nat) (cs : List Int) (x : Nat) : clashAt r (cs.map (swapC m k)) (swapN m k x) (cs.map (swapC m k)).length = clashAt r cs x cs.length := by
  unfold clashAt
  rw [List.length_map]
  have h : ∀ b ∈ List.range cs.length, (((cs.map (swapC m k)).getD b 0 == ((swapN m k x : Nat) : Int)) && r cs.length b) = ((cs.getD b 0 == (x : Int)) && r cs.length b) := by
    intro b hb
    rw [getD_map_swap m k cs b (List.mem_range.1 hb), ← swapN_cast]
    congr 1
    rw [Bool.eq_iff_iff, beq_iff_eq, beq_iff_eq, swapC_inj]
  rw [Bool.eq_iff_iff, List.any_eq_true, List.any_eq_true]
  exact ⟨fun ⟨b, h1, h2⟩ => ⟨b, h1, by rw [← h b h1]; exact h2⟩, fun ⟨b, h1, h2⟩ => ⟨b, h1, by rw [h b h1]; exact h2⟩⟩
theorem findSome_isSome {α β : Type} (l : List α) (f : α → Option β) : (l.findSome? f).isSome = true ↔ ∃ x ∈ l, (f x).isSome = true := by
  rw [List.findSome?_isSome_iff]
theorem dfs_swap (r : Nat → Nat → Bool) (most m k : Nat) (hm : m < most) (hk : k < most) : ∀ (d : Nat) (cs : List Int), (dfs r most d cs).isSome = true → (dfs r most d (cs.map (swapC m k))).isSome = true
  | 0, cs, _ => rfl
  | d + 1, cs, h => by
    unfold dfs at h ⊢
    rw [findSome_isSome] at h ⊢
    obtain ⟨x, hx, h⟩ := h
    refine ⟨swapN m k x, ?_, ?_⟩
    · rw [List.mem_range] at hx ⊢; unfold swapN; (repeat' split) <;> omega
    · rw [clashAt_swap]
      cases hc : clashAt r cs x cs.length with
      | true => rw [hc] at h; simp at h
      | false =>
        rw [hc] at h
        simp only [Bool.false_eq_true, if_false] at h ⊢
        have := dfs_swap r most m k hm hk d _ h
        rwa [List.map_append, List.map_singleton, swapN_cast] at this
theorem map_swap_small (m k : Nat) (hmk : m < k) : ∀ (cs : List Int), (∀ y ∈ cs, y < (m : Int)) → cs.map (swapC m k) = cs
  | [], _ => rfl
  | y :: cs, h => by
    rw [List.map_cons, map_swap_small m k hmk cs fun z hz => h z (by simp [hz])]
    have := h y (by simp)
    congr 1
    unfold swapC
    rw [if_neg (by omega), if_neg (by omega)]
theorem dfs_none_of {r : Nat → Nat → Bool} {most d m k : Nat} {cs : List Int} (hs : ∀ y ∈ cs, y < (m : Int)) (hmk : m < k) (hk : k < most) (h : dfs r most d (cs ++ [(m : Int)]) = none) : dfs r most d (cs ++ [(k : Int)]) = none := by
  cases hd : dfs r most d (cs ++ [(k : Int)]) with
  | none => rfl
  | some x =>
    have := dfs_swap r most m k (by omega) hk d (cs ++ [(k : Int)]) (by rw [hd]; rfl)
    rw [List.map_append, map_swap_small m k hmk cs hs, List.map_singleton, swapN_cast, show swapN m k k = m by unfold swapN; split <;> simp_all, h] at this
    simp at this
theorem findSome_congr {α β : Type} (f g : α → Option β) : ∀ (l : List α), (∀ x ∈ l, f x = g x) → l.findSome? f = l.findSome? g
  | [], _ => rfl
  | x :: l, h => by
    rw [List.findSome?_cons, List.findSome?_cons, h x (by simp), findSome_congr f g l fun y hy => h y (by simp [hy])]
theorem findSome_map {α β γ : Type} (f : α → Option β) (h : β → γ) : ∀ (l : List α), (l.findSome? f).map h = l.findSome? fun x => (f x).map h
  | [] => rfl
  | x :: l => by
    rw [List.findSome?_cons, List.findSome?_cons]
    cases f x with
    | none => exact findSome_map f h l
    | some y => rfl
theorem findSome_none {α β : Type} (f : α → Option β) : ∀ (l : List α), (∀ x ∈ l, f x = none) → l.findSome? f = none
  | [], _ => rfl
  | x :: l, h => by rw [List.findSome?_cons, h x (by simp)]; exact findSome_none f l fun y hy => h y (by simp [hy])
theorem find_flatMap {α β : Type} (p : β → Bool) (f : α → List β) : ∀ (l : List α), (l.flatMap f).find? p = l.findSome? fun x => (f x).find? p
  | [] => rfl
  | x :: l => by
    rw [List.flatMap_cons, List.find?_append, List.findSome?_cons, find_flatMap p f l]
    cases (f x).find? p <;> rfl
theorem range_split (m most : Nat) (h : m < most) : List.range most = List.range (m + 1) ++ List.range' (m + 1) (most - (m + 1)) := by
  rw [List.range_eq_range', List.range_eq_range']
  have := @List.range'_append 0 (m + 1) (most - (m + 1)) 1
  simp only [Nat.one_mul, Nat.zero_add] at this
  rw [this]; congr 1; omega
theorem dfs_cols (r : Nat → Nat → Bool) (most : Nat) : ∀ (d : Nat) (cs : List Int) (m : Nat), (∀ y ∈ cs, y < (m : Int)) → m ≤ most → dfs r most d cs = ((cols r d cs m).find? fun p => decide (p.2 ≤ most)).map Prod.fst
  | 0, cs, m, _, hm => by simp [dfs, cols, hm]
  | d + 1, cs, m, hs, hm => by
    unfold dfs cols
    rw [find_flatMap, findSome_map]
    have step : ∀ k, k ≤ m → k < most → (if clashAt r cs k cs.length then none else dfs r most d (cs ++ [(k : Int)])) = (((if clashAt r cs k cs.length then [] else cols r d (cs ++ [(k : Int)]) (max m (k + 1))).find? fun p => decide (p.2 ≤ most)).map Prod.fst) := by
      intro k hk hk2
      split
      · rfl
      · refine dfs_cols r most d _ _ (fun y hy => ?_) (by omega)
        rw [List.mem_append, List.mem_singleton] at hy
        rcases hy with hy | rfl
        · have := hs y hy; omega
        · omega
    by_cases hlt : m < most
    · rw [range_split m most hlt, List.findSome?_append, findSome_congr _ _ (List.range (m + 1)) fun k hk => step k (by rw [List.mem_range] at hk; omega) (by rw [List.mem_range] at hk; omega)]
      cases hf : ((List.range (m + 1)).findSome? fun k => ((if clashAt r cs k cs.length then [] else cols r d (cs ++ [(k : Int)]) (max m (k + 1))).find? fun p => decide (p.2 ≤ most)).map Prod.fst) with
      | some x => rfl
      | none =>
        rw [Option.none_or]
        refine findSome_none _ _ fun k hk => ?_
        rw [List.mem_range'_1] at hk
        split
        · rfl
        · rw [List.findSome?_eq_none_iff] at hf
          have h1 := hf m (by simp)
          rw [← step m (Nat.le_refl _) hlt, clash_fresh r cs m hs] at h1
          exact dfs_none_of hs (by omega) (by omega) (by simpa using h1)
    · obtain rfl : m = most := by omega
      rw [List.range_succ, List.findSome?_append, findSome_congr _ _ (List.range m) fun k hk => step k (by rw [List.mem_range] at hk; omega) (by rw [List.mem_range] at hk; omega)]
      have hl : ((if clashAt r cs m cs.length then [] else cols r d (cs ++ [(m : Int)]) (max m (m + 1))).find? fun p => decide (p.2 ≤ m)) = none := by
        rw [List.find?_eq_none]
        intro p hp
        split at hp
        · simp at hp
        · have := cols_ge r d _ _ p hp
          simp only [decide_eq_true_eq]; omega
      rw [List.findSome?_singleton, hl, Option.map_none, Option.or_none]
theorem few_post : ∀ (post : List (List Int × Nat)) (c : List Int) (x : Nat), (∀ y ∈ post, x ≤ y.2) → post.foldl (fun s p => fewStep s p.1 p.2) (c, (x : Int)) = (c, (x : Int))
  | [], _, _, _ => rfl
  | y :: post, c, x, h => by
    have := h y (by simp)
    rw [List.foldl_cons, fewStep, if_neg (by simp only; omega)]
    exact few_post post c x fun z hz => h z (by simp [hz])
theorem few_pre (x : Nat) : ∀ (pre : List (List Int × Nat)) (s : List Int × Int), (s.2 < 0 ∨ (x : Int) < s.2) → (∀ y ∈ pre, x < y.2) → ((pre.foldl (fun s p => fewStep s p.1 p.2) s).2 < 0 ∨ (x : Int) < (pre.foldl (fun s p => fewStep s p.1 p.2) s).2)
  | [], s, h, _ => h
  | y :: pre, s, h, hp => by
    rw [List.foldl_cons]
    refine few_pre x pre _ ?_ fun z hz => hp z (by simp [hz])
    have := hp y (by simp)
    unfold fewStep
    split
    · right; simp only; omega
    · exact h
theorem few_split (pre post : List (List Int × Nat)) (c : List Int) (x : Nat) (h1 : ∀ y ∈ pre, x < y.2) (h2 : ∀ y ∈ post, x ≤ y.2) : (pre ++ (c, x) :: post).foldl (fun s p => fewStep s p.1 p.2) ([], -1) = (c, (x : Int)) := by
  rw [List.foldl_append, List.foldl_cons]
  have h3 := few_pre x pre ([], -1) (.inl (by simp)) h1
  rw [show fewStep (pre.foldl (fun s p => fewStep s p.1 p.2) ([], -1)) c x = (c, (x : Int)) by rw [fewStep, if_pos h3]]
  exact few_post post c x h2
theorem few_spec (r : Nat → Nat → Bool) (n : Nat) : (cols r n [] 0).foldl (fun s p => fewStep s p.1 p.2) ([], -1) = fewSpec r n := by
  unfold fewSpec
  have hd : ∀ most, dfs r most n [] = ((cols r n [] 0).find? fun p => decide (p.2 ≤ most)).map Prod.fst := fun most => dfs_cols r most n [] 0 (by simp) (Nat.zero_le _)
  cases hf : ((List.range n).findSome? fun most => (dfs r most n []).map fun c => (c, most)) with
  | some q =>
    obtain ⟨c, most⟩ := q
    rw [List.findSome?_eq_some_iff] at hf
    obtain ⟨l1, a, l2, he, ha, hl⟩ := hf
    obtain ⟨c', hc', he2⟩ := Option.map_eq_some_iff.1 ha
    injection he2 with e1 e2
    subst e1 e2
    rw [hd, Option.map_eq_some_iff] at hc'
    obtain ⟨⟨c2, x⟩, hx, e3⟩ := hc'
    simp only at e3
    subst e3
    rw [List.find?_eq_some_iff_append] at hx
    obtain ⟨hx1, pre, post, hxs, hpre⟩ := hx
    simp only [decide_eq_true_eq] at hx1
    have hlen : l1.length = a := by
      have h1 : (List.range n)[l1.length]? = some a := by rw [he]; simp
      rw [List.getElem?_eq_some_iff] at h1
      obtain ⟨h2, h3⟩ := h1
      simpa using h3
    have hall : ∀ y ∈ cols r n [] 0, a ≤ y.2 := by
      intro y hy
      cases a with
      | zero => exact Nat.zero_le _
      | succ b =>
        have hb : b ∈ l1 := by
          have h1 : (List.range n)[b]? = l1[b]? := by rw [he, List.getElem?_append_left (by omega)]
          have h4 : n = l1.length + (l2.length + 1) := by have := congrArg List.length he; simpa using this
          rw [List.getElem?_range (by omega)] at h1
          exact List.mem_of_getElem? h1.symm
        have h2 := hl b hb
        rw [Option.map_eq_none_iff, hd, Option.map_eq_none_iff, List.find?_eq_none] at h2
        have := h2 y hy
        simp only [decide_eq_true_eq] at this
        omega
    have hxa : x = a := by have := hall (c2, x) (by rw [hxs]; simp); simp only at this; omega
    subst hxa
    rw [hxs]
    refine few_split pre post c2 x (fun y hy => ?_) (fun y hy => hall y (by rw [hxs]; simp [hy]))
    have := hpre y hy
    simp only [Bool.not_eq_true', decide_eq_false_iff_not] at this
    omega
  | none =>
    rw [List.findSome?_eq_none_iff] at hf
    have hall : ∀ y ∈ cols r n [] 0, y.1 = idFrom 0 n ∧ y.2 = n := by
      intro y hy
      have h1 := cols_le r n [] 0 y hy
      have h2 : n ≤ y.2 := by
        cases n with
        | zero => exact Nat.zero_le _
        | succ b =>
          have h2 := hf b (by simp)
          rw [Option.map_eq_none_iff, hd, Option.map_eq_none_iff, List.find?_eq_none] at h2
          have := h2 y hy
          simp only [decide_eq_true_eq] at this
          omega
      rw [Nat.zero_add] at h1
      refine ⟨?_, by omega⟩
      rw [h1.2 (by omega), List.nil_append]
    have hne := cols_id r n [] 0 (by simp)
    cases hx : cols r n [] 0 with
    | nil => rw [hx] at hne; simp at hne
    | cons p rest =>
      obtain ⟨c, x⟩ := p
      have h1 := hall (c, x) (by rw [hx]; simp)
      simp only at h1
      obtain ⟨rfl, rfl⟩ := h1
      exact few_split [] rest _ _ (by simp) (fun y hy => by have := hall y (by rw [hx]; simp [hy]); omega)
theorem fewSpec_run (r : Nat → Nat → Bool) (n few : Nat) (hf : (fewSpec r n).2 = (few : Int)) : run (fewSpec r n).1 0 = some few := by
  rcases few_in (cols r n [] 0) ([], -1) with h | ⟨p, hp, h⟩
  · rw [few_spec] at h
    rw [h] at hf
    exact absurd hf (by show ¬ (-1 : Int) = few; omega)
  · rw [few_spec] at h
    rw [h] at hf ⊢
    have := cols_run r n [] 0 rfl p hp
    rw [this]
    have hf : (p.2 : Int) = (few : Int) := hf
    congr 1
    omega
theorem cols_congr (r s : Nat → Nat → Bool) (n : Nat) (h : ∀ a b, a < n → b < n → r a b = s a b) : ∀ (d : Nat) (cs : List Int) (m : Nat), cs.length + d ≤ n → cols r d cs m = cols s d cs m
  | 0, cs, m, _ => rfl
  | d + 1, cs, m, hd => by
    have hc : ∀ k, clashAt r cs k cs.length = clashAt s cs k cs.length := by
      intro k
      unfold clashAt
      rw [Bool.eq_iff_iff, List.any_eq_true, List.any_eq_true]
      constructor
      · rintro ⟨b, h1, h2⟩
        exact ⟨b, h1, by rw [← h _ b (by omega) (by rw [List.mem_range] at h1; omega)]; exact h2⟩
      · rintro ⟨b, h1, h2⟩
        exact ⟨b, h1, by rw [h _ b (by omega) (by rw [List.mem_range] at h1; omega)]; exact h2⟩
    unfold cols
    congr 1
    funext k
    rw [hc k, cols_congr r s n h d _ _ (by rw [List.length_append, List.length_singleton]; omega)]

theorem fewSpec_congr (r s : Nat → Nat → Bool) (n : Nat) (h : ∀ a b, a < n → b < n → r a b = s a b) : fewSpec r n = fewSpec s n := by
  rw [← few_spec, ← few_spec, cols_congr r s n h n [] 0 (by simp)]
abbrev Rel := Nat → Nat → Bool
def hasP (l : List S79) : Rel := fun a b => l.any fun x => (x.f0 == (a : Int) && x.f1 == (b : Int)) || (x.f0 == (b : Int) && x.f1 == (a : Int))
/-! ### pairs listed -/
def rowFrom (r : Rel) (a : Nat) : Nat → Nat → List S79
  | _, 0 => []
  | b, d + 1 => (if r a b then [⟨(a : Int), (b : Int)⟩] else []) ++ rowFrom r a (b + 1) d
theorem mem_rowFrom (r : Rel) (a : Nat) (p : S79) : ∀ (d b : Nat), p ∈ rowFrom r a b d ↔ ∃ y : Nat, b ≤ y ∧ y < b + d ∧ r a y = true ∧ p = ⟨(a : Int), (y : Int)⟩
  | 0, b => by simp only [rowFrom, List.not_mem_nil, false_iff]; rintro ⟨y, h1, h2, _⟩; omega
  | d + 1, b => by
    rw [rowFrom, List.mem_append, mem_rowFrom r a p d (b + 1)]
    constructor
    · rintro (h | ⟨y, h1, h2, h3, h4⟩)
      · split at h
        · next hr => rw [List.mem_singleton] at h; exact ⟨b, Nat.le_refl _, by omega, hr, h⟩
        · simp at h
      · exact ⟨y, by omega, by omega, h3, h4⟩
    · rintro ⟨y, h1, h2, h3, h4⟩
      by_cases e : y = b
      · subst e; left; rw [h3, if_pos rfl]; simp [h4]
      · right; exact ⟨y, by omega, by omega, h3, h4⟩
def pairsFrom (r : Rel) (m : Nat) : Nat → Nat → List S79
  | _, 0 => []
  | a, d + 1 => rowFrom r a (a + 1) (m - (a + 1)) ++ pairsFrom r m (a + 1) d
theorem mem_pairsFrom (r : Rel) (m : Nat) (p : S79) : ∀ (d a : Nat), p ∈ pairsFrom r m a d ↔ ∃ x y : Nat, a ≤ x ∧ x < a + d ∧ x < y ∧ y < m ∧ r x y = true ∧ p = ⟨(x : Int), (y : Int)⟩
  | 0, a => by simp only [pairsFrom, List.not_mem_nil, false_iff]; rintro ⟨x, y, h1, h2, _⟩; omega
  | d + 1, a => by
    rw [pairsFrom, List.mem_append, mem_rowFrom, mem_pairsFrom r m p d (a + 1)]
    constructor
    · rintro (⟨y, h1, h2, h3, h4⟩ | ⟨x, y, h1, h2, h3, h4, h5, h6⟩)
      · exact ⟨a, y, Nat.le_refl _, by omega, by omega, by omega, h3, h4⟩
      · exact ⟨x, y, by omega, by omega, h3, h4, h5, h6⟩
    · rintro ⟨x, y, h1, h2, h3, h4, h5, h6⟩
      by_cases e : x = a
      · subst e; left; exact ⟨y, by omega, by omega, h5, h6⟩
      · right; exact ⟨x, y, by omega, by omega, h3, h4, h5, h6⟩
def pairsOf (m : Nat) (r : Rel) : List S79 := pairsFrom r m 0 m
theorem hasP_pairsOf (m : Nat) (s : Rel) (hs : ∀ a b, s a b = s b a) (a b : Nat) (ha : a < m) (hb : b < m) (hab : a ≠ b) : hasP (pairsOf m s) a b = s a b := by
  rw [Bool.eq_iff_iff]
  unfold hasP
  rw [List.any_eq_true]
  constructor
  · rintro ⟨p, hp, h⟩
    obtain ⟨x, y, _, _, h3, h4, h5, rfl⟩ := (mem_pairsFrom s m p m 0).1 hp
    simp only [Bool.or_eq_true, Bool.and_eq_true, beq_iff_eq] at h
    rcases h with ⟨h6, h7⟩ | ⟨h6, h7⟩
    · obtain rfl : x = a := by omega
      obtain rfl : y = b := by omega
      exact h5
    · obtain rfl : x = b := by omega
      obtain rfl : y = a := by omega
      rw [hs]; exact h5
  · intro h
    rcases Nat.lt_or_gt_of_ne hab with h1 | h1
    · exact ⟨⟨(a : Int), (b : Int)⟩, (mem_pairsFrom s m _ m 0).2 ⟨a, b, Nat.zero_le _, by omega, h1, hb, h, rfl⟩, by simp⟩
    · exact ⟨⟨(b : Int), (a : Int)⟩, (mem_pairsFrom s m _ m 0).2 ⟨b, a, Nat.zero_le _, by omega, h1, ha, by rw [hs]; exact h, rfl⟩, by simp⟩
theorem hasP_pairsOf_self (m : Nat) (s : Rel) (a : Nat) : hasP (pairsOf m s) a a = false := by
  unfold hasP
  rw [List.any_eq_false]
  intro p hp
  obtain ⟨x, y, _, _, h3, h4, h5, rfl⟩ := (mem_pairsFrom s m p m 0).1 hp
  simp only [Bool.or_eq_true, Bool.and_eq_true, beq_iff_eq]
  omega
theorem hasP_symm (l : List S79) (x y : Nat) : hasP l x y = hasP l y x := by
  unfold hasP; congr 1; funext z; rw [Bool.or_comm]
def notR (r : Rel) : Rel := fun x y => !r x y
def othR (r : Rel) : Rel := fun x y => !r x y && decide (y ≠ x)
theorem few_other (m : Nat) (l : List S79) : fewSpec (hasP (pairsOf m (notR (hasP l)))) m = fewSpec (othR (hasP l)) m := by
  refine fewSpec_congr _ _ _ fun a b ha hb => ?_
  unfold othR
  by_cases e : a = b
  · subst e; rw [hasP_pairsOf_self]; simp
  · rw [hasP_pairsOf m _ (fun x y => by unfold notR; rw [hasP_symm]) a b ha hb e]
    unfold notR
    rw [decide_eq_true (show b ≠ a from fun h => e h.symm), Bool.and_true]
def natPairs (m : Nat) (l : List S79) : Prop := ∀ x ∈ l, ∃ a b : Nat, x = ⟨(a : Int), (b : Int)⟩ ∧ a < b ∧ b < m
theorem okFrom_nat (m : Nat) : ∀ (l : List S79) (p : Option S79), okFrom (m : Int) p l = true → natPairs m l
  | [], _, _ => fun x hx => by simp at hx
  | x :: xs, p, h => by
    simp only [okFrom, Bool.and_eq_true, decide_eq_true_eq] at h
    obtain ⟨⟨h0, h1, h2, _⟩, h3⟩ := h
    intro y hy
    rcases List.mem_cons.1 hy with rfl | hy
    · refine ⟨y.f0.toNat, y.f1.toNat, ?_, by omega, by omega⟩
      rw [Int.toNat_of_nonneg h0, Int.toNat_of_nonneg (by omega)]
    · exact okFrom_nat m xs _ h3 y hy
theorem good_nat {n : Int} {l : List S79} (h : good n l = true) : ∃ m : Nat, n = (m : Int) ∧ m ≤ 12 ∧ natPairs m l ∧ okFrom (m : Int) none l = true := by
  unfold good crowd at h
  simp only [Bool.and_eq_true, decide_eq_true_eq] at h
  obtain ⟨⟨h0, h1⟩, h2⟩ := h
  obtain ⟨m, rfl⟩ := Int.eq_ofNat_of_zero_le h0
  exact ⟨m, rfl, by omega, okFrom_nat m l none h2, h2⟩
theorem Ev.one {α : Type} {g : Nat → Option α} {r : α} (h : ∀ k, g (k + 1) = some r) : Ev g r := Ev.step h (Ev.now r)
/-! the number of pairs -/
def below (m : Nat) : Nat → Nat
  | 0 => 0
  | a + 1 => below m a + (m - 1 - a)
theorem below_all (m : Nat) (h : m ≤ 12) : Int.tdiv ((m : Int) * ((m : Int) - 1)) 2 = (below m m : Int) := by
  have : m = 0 ∨ m = 1 ∨ m = 2 ∨ m = 3 ∨ m = 4 ∨ m = 5 ∨ m = 6 ∨ m = 7 ∨ m = 8 ∨ m = 9 ∨ m = 10 ∨ m = 11 ∨ m = 12 := by omega
  rcases this with rfl | rfl | rfl | rfl | rfl | rfl | rfl | rfl | rfl | rfl | rfl | rfl | rfl <;> rfl
/-- where a pair stands among all pairs of m people -/
def rank (m : Nat) (x : S79) : Nat := below m x.f0.toNat + (x.f1.toNat - x.f0.toNat - 1)
theorem below_mono (m a : Nat) : ∀ d, below m a ≤ below m (a + d)
  | 0 => Nat.le_refl _
  | d + 1 => Nat.le_trans (below_mono m a d) (by show below m (a + d) ≤ below m (a + d) + _; omega)
theorem rank_lt (m : Nat) (p x : S79) (h : lt2 p x = true) (p0 : 0 ≤ p.f0) (p1 : p.f0 < p.f1) (p2 : p.f1 < m) (x0 : 0 ≤ x.f0) (x1 : x.f0 < x.f1) : rank m p < rank m x := by
  unfold lt2 at h
  unfold rank
  simp at h
  rcases h with h | ⟨h, h2⟩
  · have h1 := below_mono m (p.f0.toNat + 1) (x.f0.toNat - (p.f0.toNat + 1))
    rw [show p.f0.toNat + 1 + (x.f0.toNat - (p.f0.toNat + 1)) = x.f0.toNat by omega] at h1
    have h3 : below m (p.f0.toNat + 1) = below m p.f0.toNat + (m - 1 - p.f0.toNat) := rfl
    omega
  · rw [h]; omega
theorem rank_top (m : Nat) (x : S79) (x0 : 0 ≤ x.f0) (x1 : x.f0 < x.f1) (x2 : x.f1 < m) : rank m x < below m m := by
  unfold rank
  have h1 := below_mono m (x.f0.toNat + 1) (m - (x.f0.toNat + 1))
  rw [show x.f0.toNat + 1 + (m - (x.f0.toNat + 1)) = m by omega] at h1
  have h3 : below m (x.f0.toNat + 1) = below m x.f0.toNat + (m - 1 - x.f0.toNat) := rfl
  omega
theorem okFrom_len (m : Nat) : ∀ (l : List S79) (p : S79), 0 ≤ p.f0 → p.f0 < p.f1 → p.f1 < m → okFrom m (some p) l = true → rank m p + l.length < below m m
  | [], p, p0, p1, p2, _ => rank_top m p p0 p1 p2
  | x :: xs, p, p0, p1, p2, h => by
    simp [okFrom, okPrev] at h
    obtain ⟨⟨x0, x1, x2, hlt⟩, h⟩ := h
    have ih := okFrom_len m xs x x0 x1 x2 h
    have := rank_lt m p x hlt p0 p1 p2 x0 x1
    simp only [List.length_cons]
    omega
theorem good_len (m : Nat) (l : List S79) (h : okFrom m none l = true) : l.length ≤ below m m := by
  cases l with
  | nil => simp
  | cons x xs =>
    simp [okFrom, okPrev] at h
    obtain ⟨⟨x0, x1, x2⟩, h⟩ := h
    have := okFrom_len m xs x x0 x1 x2 h
    simp only [List.length_cons]
    omega
theorem l1In_f (a lo hi : Int) : spec_l1In.f a lo hi = some (decide (lo ≤ a) && decide (a ≤ hi)) := by
  unfold spec_l1In.f
  by_cases h : lo ≤ a
  · rw [if_pos h]; simp [h]
  · rw [if_neg h]; simp [h]
theorem paLess_f (p x : S79) : spec_paLess.f p.f0 p.f1 x.f0 x.f1 = some (lt2 p x) := by
  unfold spec_paLess.f lt2
  by_cases h : p.f0 < x.f0
  · simp [h]
  · by_cases h2 : p.f0 = x.f0
    · simp [h2]
    · simp [h, h2]
theorem rdT_mid (pre rest : List S79) (x : S79) : rd_T79 (pre ++ x :: rest) (pre.length : Int) = x := by
  unfold rd_T79
  simp [List.getD_eq_getElem?_getD]
theorem w1 {n : Nat} (h : n < 4611686018427387904) : wrap64 ((n : Int) + 1) = ((n + 1 : Nat) : Int) := by unfold wrap64; omega
theorem w64 {i : Int} (h0 : -9223372036854775808 ≤ i) (h : i ≤ 9223372036854775807) : wrap64 i = i := by unfold wrap64; omega
theorem paGood_l0 (m : Nat) (hm : m ≤ 12) (l : List S79) (hl : l.length < 4611686018427387904) : ∀ (rest pre : List S79), l = pre ++ rest → Ev (fun k => spec_paGood.l0 k l (l.length : Int) (pre.length : Int) (m : Int) l) (okFrom m pre.getLast? rest)
  | [], pre, h => by
    refine Ev.one (fun k => ?_)
    have e : l.length = pre.length := by rw [h]; simp
    rw [spec_paGood.l0, if_neg (by omega)]
    simp [okFrom]
  | x :: rest, pre, h => by
    have hlen : pre.length < l.length := by rw [h]; simp
    have hx : rd_T79 l (pre.length : Int) = x := by rw [h]; exact rdT_mid pre rest x
    have ih := paGood_l0 m hm l hl rest (pre ++ [x]) (by rw [h]; simp)
    rw [List.getLast?_concat, List.length_append, List.length_singleton] at ih
    have em : wrap64 ((m : Int) - 1) = (m : Int) - 1 := w64 (by omega) (by omega)
    by_cases c1 : 0 ≤ x.f0 ∧ x.f0 ≤ (m : Int) - 1
    · have e1 : wrap64 (x.f0 + 1) = x.f0 + 1 := w64 (by omega) (by omega)
      have b1 : (decide (0 ≤ x.f0) && decide (x.f0 ≤ (m : Int) - 1)) = true := by simp; exact c1
      by_cases c2 : x.f0 + 1 ≤ x.f1 ∧ x.f1 ≤ (m : Int) - 1
      · have b2 : (decide (x.f0 + 1 ≤ x.f1) && decide (x.f1 ≤ (m : Int) - 1)) = true := by simp; exact c2
        have d1 : decide (0 ≤ x.f0) = true := by simp; omega
        have d2 : decide (x.f0 < x.f1) = true := by simp; omega
        have d3 : decide (x.f1 < (m : Int)) = true := by simp; omega
        rcases List.eq_nil_or_concat pre with rfl | ⟨q, p, rfl⟩
        · refine Ev.cast (Ev.step (fun k => ?_) ih) ?_
          · rw [spec_paGood.l0, if_pos (by omega), if_pos (by omega), if_pos (by omega), hx, em, e1, l1In_f, l1In_f, b1, b2]
            simp only [Option.bind_some, if_true]
            rw [if_neg (by simp), w1 (by simp)]
          · simp [okFrom, d1, d2, d3, okPrev]
        · rw [List.concat_eq_append] at hlen hx ih h ⊢
          have hp : rd_T79 l (q.length : Int) = p := by rw [h, List.append_assoc]; exact rdT_mid q (x :: rest) p
          have hq : (q ++ [p]).length = q.length + 1 := by simp
          rw [hq] at hlen hx ih ⊢
          rw [List.getLast?_concat]
          cases hlt : lt2 p x with
          | true =>
            refine Ev.cast (Ev.step (fun k => ?_) ih) ?_
            · rw [spec_paGood.l0, if_pos (by omega), if_pos (by omega), if_pos (by omega), hx, em, e1, l1In_f, l1In_f, b1, b2]
              simp only [Option.bind_some, if_true]
              rw [if_pos (by omega), w64 (i := ((q.length + 1 : Nat) : Int) - 1) (by omega) (by omega), show ((q.length + 1 : Nat) : Int) - 1 = (q.length : Int) by omega, if_pos (by omega), if_pos (by omega), hp, paLess_f, hlt, w1 (by omega)]
              rfl
            · simp [okFrom, d1, d2, d3, okPrev, hlt]
          | false =>
            refine Ev.one (fun k => ?_)
            rw [spec_paGood.l0, if_pos (by omega), if_pos (by omega), if_pos (by omega), hx, em, e1, l1In_f, l1In_f, b1, b2]
            simp only [Option.bind_some, if_true]
            rw [if_pos (by omega), w64 (i := ((q.length + 1 : Nat) : Int) - 1) (by omega) (by omega), show ((q.length + 1 : Nat) : Int) - 1 = (q.length : Int) by omega, if_pos (by omega), if_pos (by omega), hp, paLess_f, hlt]
            simp [okFrom, okPrev, hlt]
      · refine Ev.one (fun k => ?_)
        have b2 : (decide (x.f0 + 1 ≤ x.f1) && decide (x.f1 ≤ (m : Int) - 1)) = false := by simp; omega
        rw [spec_paGood.l0, if_pos (by omega), if_pos (by omega), if_pos (by omega), hx, em, e1, l1In_f, l1In_f, b1, b2]
        have : (decide (x.f0 < x.f1) && decide (x.f1 < (m : Int))) = false := by simp; omega
        simp only [okFrom, ← Bool.and_assoc (decide (x.f0 < x.f1)), this]
        simp
    · refine Ev.one (fun k => ?_)
      have b1 : (decide (0 ≤ x.f0) && decide (x.f0 ≤ (m : Int) - 1)) = false := by simp; omega
      rw [spec_paGood.l0, if_pos (by omega), if_pos (by omega), if_pos (by omega), hx, em, l1In_f, b1]
      have : (decide (0 ≤ x.f0) && (decide (x.f0 < x.f1) && (decide (x.f1 < (m : Int)) && okPrev pre.getLast? x))) = false := by
        by_cases z0 : 0 ≤ x.f0
        · by_cases z1 : x.f0 < x.f1
          · have : ¬ x.f1 < (m : Int) := by omega
            simp [this]
          · simp [z1]
        · simp [z0]
      simp [okFrom, this]
theorem paPeople_f (a : Int) : spec_paPeople.f a = some (decide (0 ≤ a ∧ a ≤ 12)) := by
  unfold spec_paPeople.f
  rw [l1In_f]; simp [Bool.decide_and]
theorem paGood_ev (n : Int) (l : List S79) (hl : l.length < 4611686018427387904) : Ev (fun k => spec_paGood.f k n l) (good n l) := by
  unfold spec_paGood.f
  rw [paPeople_f]
  by_cases h : 0 ≤ n ∧ n ≤ 12
  · obtain ⟨m, rfl⟩ := Int.eq_ofNat_of_zero_le h.1
    have hm : m ≤ 12 := by omega
    have hc : crowd (m : Int) = true := by unfold crowd; simp; omega
    have hmul : (m : Int) * ((m : Int) - 1) ≤ 144 := by
      have : m = 0 ∨ m = 1 ∨ m = 2 ∨ m = 3 ∨ m = 4 ∨ m = 5 ∨ m = 6 ∨ m = 7 ∨ m = 8 ∨ m = 9 ∨ m = 10 ∨ m = 11 ∨ m = 12 := by omega
      rcases this with rfl | rfl | rfl | rfl | rfl | rfl | rfl | rfl | rfl | rfl | rfl | rfl | rfl <;> decide
    have hmul0 : 0 ≤ (m : Int) * ((m : Int) - 1) := by
      have : m = 0 ∨ m = 1 ∨ m = 2 ∨ m = 3 ∨ m = 4 ∨ m = 5 ∨ m = 6 ∨ m = 7 ∨ m = 8 ∨ m = 9 ∨ m = 10 ∨ m = 11 ∨ m = 12 := by omega
      rcases this with rfl | rfl | rfl | rfl | rfl | rfl | rfl | rfl | rfl | rfl | rfl | rfl | rfl <;> decide
    have hb : (below m m : Int) ≤ 144 := by
      have : m = 0 ∨ m = 1 ∨ m = 2 ∨ m = 3 ∨ m = 4 ∨ m = 5 ∨ m = 6 ∨ m = 7 ∨ m = 8 ∨ m = 9 ∨ m = 10 ∨ m = 11 ∨ m = 12 := by omega
      rcases this with rfl | rfl | rfl | rfl | rfl | rfl | rfl | rfl | rfl | rfl | rfl | rfl | rfl <;> decide
    have e : wrap64 (Int.tdiv (wrap64 ((m : Int) * (wrap64 ((m : Int) - 1)))) 2) = (below m m : Int) := by
      rw [w64 (i := (m : Int) - 1) (by omega) (by omega), w64 (i := (m : Int) * ((m : Int) - 1)) (by omega) (by omega), below_all m hm, w64 (by omega) (by omega)]
    simp only [h, decide_true, Option.bind_some, if_true, e, and_self]
    unfold good
    rw [hc, Bool.true_and]
    by_cases hlen : l.length ≤ below m m
    · refine Ev.step (fun k => ?_) (paGood_l0 m hm l hl l [] rfl)
      have : decide ((l.length : Int) > (below m m : Int)) = false := by simp; omega
      rw [this, spec_paGood.j0, if_neg (by decide)]
      rfl
    · refine Ev.one (fun k => ?_)
      have : decide ((l.length : Int) > (below m m : Int)) = true := by simp; omega
      rw [this, spec_paGood.j0, if_pos rfl]
      have hn : okFrom (m : Int) none l = false := by
        cases hok : okFrom (m : Int) none l with
        | false => rfl
        | true => exact absurd (good_len m l hok) hlen
      rw [hn]
  · have hc : crowd n = false := by unfold crowd; simp; omega
    simp only [h, decide_false, Option.bind_some]
    unfold good
    rw [hc]
    refine Ev.one (fun k => ?_)
    rw [if_neg (by decide), spec_paGood.j0]; simp

theorem grFew_ev (n : Int) (l : List S79) (hl : l.length ≤ 1048576) : Ev (fun k => spec_grFew.f k n l) (fewOf n l) := by
  unfold spec_grFew.f fewOf
  refine Ev.bind (paGood_ev n l (by omega)) ?_
  cases good n l with
  | true => simp only [if_true, Bool.true_and]; exact Ev.now _
  | false => simp only [Bool.false_eq_true, if_false, Bool.false_and]; exact Ev.now _
theorem clash_take (r : Rel) (L : List Int) (a c b : Nat) (hb : b < a) (ha : a ≤ L.length) : clashAt r (L.take a) c (b + 1) = (clashAt r (L.take a) c b || ((rd L (b : Int) == (c : Int)) && r a b)) := by
  rw [clashAt_succ]
  have e1 : (L.take a).length = a := by rw [List.length_take]; omega
  have e2 : (L.take a).getD b 0 = rd L (b : Int) := by
    show _ = L.getD (b : Int).toNat 0
    rw [Int.toNat_natCast, List.getD, List.getD, List.getElem?_take_of_lt hb]
  rw [e1, e2]
/-! ### matrices -/
def mat (m : Nat) (r : Rel) : List (List Bool) := (List.range m).map fun a => (List.range m).map fun b => r a b
theorem map_range_getD {α : Type} (m : Nat) (f : Nat → α) (d : α) (a : Nat) (h : a < m) : ((List.range m).map f).getD a d = f a := by simp [List.getD_eq_getElem?_getD, h]
theorem mat_row (m : Nat) (r : Rel) (a : Nat) (h : a < m) : rd_L4 (mat m r) (a : Int) = (List.range m).map fun b => r a b := map_range_getD m _ _ a h
theorem mat_at (m : Nat) (r : Rel) (a b : Nat) (h : a < m) (h2 : b < m) : rdOf false (rd_L4 (mat m r) (a : Int)) (b : Int) = r a b := by
  rw [mat_row m r a h]; exact map_range_getD m _ _ b h2
theorem mat_len (m : Nat) (r : Rel) : (mat m r).length = m := by simp [mat]
theorem grColour_l1 (n : Nat) (hn : n ≤ 12) (r : Rel) (L : List Int) (hL : L.length = n) (a c : Nat) (ha : a < n) (most : Int) (R : Bool × List Int)
    (hc : Ev (fun K => if (!clashAt r (L.take a) c a) = true then ((spec_grColour.f K (mat n r) (L.set a (c : Int)) ((a + 1 : Nat) : Int) most).bind fun bt => if bt.1 = true then some (true, bt.2) else spec_grColour.l0 K (mat n r) bt.2 (a : Int) most (wrap64 ((c : Int) + 1))) else spec_grColour.l0 K (mat n r) (L.set a (c : Int)) (a : Int) most (wrap64 ((c : Int) + 1))) R) :
    ∀ (j b : Nat), b + j = a → Ev (fun K => spec_grColour.l1 K (mat n r) L (a : Int) most (c : Int) (!clashAt r (L.take a) c b) (b : Int)) R
  | 0, b, hb => by
    obtain rfl : b = a := by omega
    refine Ev.step (fun K => ?_) hc
    rw [spec_grColour.l1, if_neg (by omega), if_pos (by omega), if_pos (by omega), w1 (by omega), Int.toNat_natCast]
    rfl
  | j + 1, b, hb => by
    have ih := grColour_l1 n hn r L hL a c ha most R hc j (b + 1) (by omega)
    rw [clash_take r L a c b (by omega) (by omega)] at ih
    refine Ev.step (fun K => ?_) ih
    rw [spec_grColour.l1, if_pos (by omega), w1 (by omega)]
    cases hx : clashAt r (L.take a) c b with
    | true => simp
    | false =>
      have hrow : (rd_L4 (mat n r) (a : Int)).length = n := by rw [mat_row _ _ _ (by omega)]; simp
      rw [if_pos (by rfl), if_pos (by omega), mat_len, if_pos (by omega), if_pos (by omega), hrow, if_pos (by omega), mat_at n r a b (by omega) (by omega)]
      cases hr : r a b with
      | true => rw [if_pos rfl, if_pos (by omega)]; simp [bne]
      | false => rw [if_neg (by simp)]; simp
theorem take_set_succ (L : List Int) (a : Nat) (x : Int) (h : a < L.length) : (L.set a x).take (a + 1) = L.take a ++ [x] := by
  rw [List.take_succ_eq_append_getElem (by rw [List.length_set]; exact h), List.getElem_set_self, List.take_set_of_le (Nat.le_refl _)]
theorem grColour_ev (n : Nat) (hn : n ≤ 12) (r : Rel) (most : Nat) (hmost : most ≤ 12) : ∀ (d : Nat) (L : List Int) (a : Nat), a + d = n → L.length = n →
    ∃ L' : List Int, L'.length = n ∧ L'.take a = L.take a ∧ Ev (fun K => spec_grColour.f K (mat n r) L (a : Int) (most : Int)) ((dfs r most d (L.take a)).isSome, (dfs r most d (L.take a)).getD L')
  | 0, L, a, ha, hL => by
    refine ⟨L, hL, rfl, Ev.one fun K => ?_⟩
    rw [spec_grColour.f, mat_len, if_pos (by omega)]
    rw [List.take_of_length_le (by omega)]
    rfl
  | d + 1, L, a, ha, hL => by
    have IH := grColour_ev n hn r most hmost d
    have key : ∀ (j c : Nat) (M : List Int), c + j = most → M.length = n → M.take a = L.take a → ∃ L' : List Int, L'.length = n ∧ L'.take a = L.take a ∧ Ev (fun K => spec_grColour.l0 K (mat n r) M (a : Int) (most : Int) (c : Int)) (((List.range' c j).findSome? fun k => if clashAt r (L.take a) k (L.take a).length then none else dfs r most d (L.take a ++ [(k : Int)])).isSome, ((List.range' c j).findSome? fun k => if clashAt r (L.take a) k (L.take a).length then none else dfs r most d (L.take a ++ [(k : Int)])).getD L') := by
      intro j
      induction j with
      | zero =>
        intro c M hc hM hT
        refine ⟨M, hM, hT, Ev.one fun K => ?_⟩
        rw [spec_grColour.l0, if_neg (by omega)]
        rfl
      | succ j ih =>
        intro c M hc hM hT
        have hla : (L.take a).length = a := by rw [List.length_take]; omega
        rw [List.range'_succ, List.findSome?_cons, hla]
        have hts : (M.set a (c : Int)).take (a + 1) = L.take a ++ [(c : Int)] := by rw [take_set_succ M a _ (by omega), hT]
        have go : ∀ R : Bool × List Int, Ev (fun K => if (!clashAt r (M.take a) c a) = true then ((spec_grColour.f K (mat n r) (M.set a (c : Int)) ((a + 1 : Nat) : Int) (most : Int)).bind fun bt => if bt.1 = true then some (true, bt.2) else spec_grColour.l0 K (mat n r) bt.2 (a : Int) (most : Int) (wrap64 ((c : Int) + 1))) else spec_grColour.l0 K (mat n r) (M.set a (c : Int)) (a : Int) (most : Int) (wrap64 ((c : Int) + 1))) R → Ev (fun K => spec_grColour.l0 K (mat n r) M (a : Int) (most : Int) (c : Int)) R := by
          intro R h
          have h1 := grColour_l1 n hn r M hM a c (by omega) (most : Int) R h a 0 (by omega)
          refine Ev.step (fun K => ?_) h1
          rw [spec_grColour.l0, if_pos (by omega)]
          rfl
        cases hcl : clashAt r (L.take a) c a with
        | true =>
          obtain ⟨L', h1, h2, h3⟩ := ih (c + 1) (M.set a (c : Int)) (by omega) (by rw [List.length_set]; exact hM) (by rw [List.take_set_of_le (Nat.le_refl _)]; exact hT)
          rw [hla] at h3
          refine ⟨L', h1, h2, go _ ?_⟩
          rw [hT, hcl]
          simp only [Bool.not_true, Bool.false_eq_true, if_false, if_true]
          rw [w1 (by omega)]
          exact h3
        | false =>
          obtain ⟨L1, h1, h2, h3⟩ := IH (M.set a (c : Int)) (a + 1) (by omega) (by rw [List.length_set]; exact hM)
          rw [hts] at h2 h3
          cases hdf : dfs r most d (L.take a ++ [(c : Int)]) with
          | some full =>
            rw [hdf] at h3
            refine ⟨L, hL, rfl, go _ ?_⟩
            rw [hT, hcl]
            simp only [Bool.not_false, if_true, Bool.false_eq_true, if_false, hdf]
            refine Ev.bind h3 ?_
            simp only [Option.isSome_some, if_true, Option.getD_some]
            exact Ev.now _
          | none =>
            rw [hdf] at h3
            have h2' : L1.take a = L.take a := by
              have := congrArg (List.take a) h2
              rw [List.take_take, Nat.min_eq_left (by omega), List.take_append_of_le_length (by omega), List.take_take, Nat.min_self] at this
              exact this
            obtain ⟨L', h4, h5, h6⟩ := ih (c + 1) L1 (by omega) h1 h2'
            rw [hla] at h6
            refine ⟨L', h4, h5, go _ ?_⟩
            rw [hT, hcl]
            simp only [Bool.not_false, if_true, Bool.false_eq_true, if_false, hdf]
            refine Ev.bind h3 ?_
            simp only [Option.isSome_none, Bool.false_eq_true, if_false, Option.getD_none]
            rw [w1 (by omega)]
            exact h6
    obtain ⟨L', h1, h2, h3⟩ := key most 0 L (by omega) hL rfl
    refine ⟨L', h1, h2, ?_⟩
    unfold dfs
    rw [List.range_eq_range']
    refine Ev.step (fun K => ?_) h3
    rw [spec_grColour.f, mat_len, if_neg (by omega)]
    rfl
theorem grFewest_l1 (n : Nat) (hn : n ≤ 12) (l : List S79) : ∀ (j b : Nat) (L : List Int), b + j = n → L.length = n → Ev (fun K => spec_grFewest.l1 K L (n : Int) (b : Int) (n : Int) l) (L.take b ++ idFrom b j, (n : Int))
  | 0, b, L, hb, hL => by
    refine Ev.one fun K => ?_
    rw [spec_grFewest.l1, if_neg (by omega), List.take_of_length_le (by omega)]
    simp [idFrom]
  | j + 1, b, L, hb, hL => by
    have ih := grFewest_l1 n hn l j (b + 1) (L.set b (b : Int)) (by omega) (by rw [List.length_set]; exact hL)
    rw [take_set_succ L b _ (by omega), List.append_assoc, List.singleton_append, ← idFrom_succ] at ih
    refine Ev.step (fun K => ?_) ih
    rw [spec_grFewest.l1, if_pos (by omega), if_pos (by omega), if_pos (by omega), w1 (by omega), Int.toNat_natCast]
theorem hasP_nil : hasP [] = fun _ _ => false := by funext x y; rfl
theorem map_range_const {α : Type} (c : α) : ∀ m : Nat, (List.range m).map (fun _ => c) = List.replicate m c
  | 0 => rfl
  | m + 1 => by rw [List.range_succ, List.map_append, map_range_const c m, List.replicate_succ']; rfl
theorem mat_false (m : Nat) : mat m (fun _ _ => false) = List.replicate m (List.replicate m false) := by
  unfold mat; rw [map_range_const, map_range_const]
theorem map_range_congr {α : Type} (m : Nat) (f g : Nat → α) (h : ∀ a, a < m → f a = g a) : (List.range m).map f = (List.range m).map g := List.map_congr_left fun a ha => h a (List.mem_range.1 ha)
theorem map_range_set {α : Type} (m : Nat) (f : Nat → α) (a : Nat) (v : α) : ((List.range m).map f).set a v = (List.range m).map fun i => if i = a then v else f i := by
  apply List.ext_getElem?
  intro j
  rw [List.getElem?_set]
  by_cases hj : j < m
  · by_cases e : a = j
    · subst e; simp [hj]
    · have e' : ¬ j = a := fun h => e h.symm
      simp [hj, e, e']
  · by_cases e : a = j
    · subst e; simp [hj]
    · simp [hj, e]
def upd (r : Rel) (a b : Nat) (v : Bool) : Rel := fun x y => if x = a ∧ y = b then v else r x y
theorem mat_set (m : Nat) (r : Rel) (a b : Nat) (v : Bool) (ha : a < m) : (mat m r).set a ((rd_L4 (mat m r) (a : Int)).set b v) = mat m (upd r a b v) := by
  rw [mat_row m r a ha, map_range_set]
  show ((List.range m).map fun a => (List.range m).map fun b => r a b).set a _ = _
  rw [map_range_set]
  refine map_range_congr m _ _ fun i hi => ?_
  by_cases e : i = a
  · subst e
    rw [if_pos rfl]
    refine map_range_congr m _ _ fun j hj => ?_
    simp [upd]
  · rw [if_neg e]
    refine map_range_congr m _ _ fun j hj => ?_
    simp [upd, e]
theorem hasP_snoc (pre : List S79) (a b x y : Nat) : hasP (pre ++ [⟨(a : Int), (b : Int)⟩]) x y = (hasP pre x y || ((decide (a = x) && decide (b = y)) || (decide (a = y) && decide (b = x)))) := by
  unfold hasP
  rw [List.any_append]
  congr 1
  simp only [List.any_cons, List.any_nil, Bool.or_false]
  have e : ∀ u v : Nat, ((u : Int) == (v : Int)) = decide (u = v) := fun u v => by
    by_cases h : u = v
    · simp [h]
    · have : ¬ (u : Int) = (v : Int) := by omega
      simp [h, this]
  rw [e, e, e, e]
theorem upd2_hasP (pre : List S79) (a b : Nat) : upd (upd (hasP pre) a b true) b a true = hasP (pre ++ [⟨(a : Int), (b : Int)⟩]) := by
  funext x y
  rw [hasP_snoc]
  unfold upd
  by_cases h1 : x = b ∧ y = a
  · simp [h1]
  · by_cases h2 : x = a ∧ y = b
    · simp [h2]
    · have e1 : (decide (a = x) && decide (b = y)) = false := by simp; intro h3 h4; exact h2 ⟨h3.symm, h4.symm⟩
      have e2 : (decide (a = y) && decide (b = x)) = false := by simp; intro h3 h4; exact h1 ⟨h4.symm, h3.symm⟩
      simp [h1, h2, e1, e2]
theorem paTable_l1 (m : Nat) (l : List S79) (hl : l.length < 4611686018427387904) (hn : natPairs m l) : ∀ (rest pre : List S79), l = pre ++ rest → Ev (fun k => spec_paTable.l1 k (mat m (hasP pre)) l (l.length : Int) (pre.length : Int)) (mat m (hasP l))
  | [], pre, h => by
    refine Ev.one (fun k => ?_)
    have e : l = pre := by rw [h]; simp
    rw [spec_paTable.l1, if_neg (by rw [e]; omega), e]
  | x :: rest, pre, h => by
    have hlen : pre.length < l.length := by rw [h]; simp
    obtain ⟨a, b, rfl, hab, hb⟩ := hn x (by rw [h]; simp)
    have hx : rd_T79 l (pre.length : Int) = ⟨(a : Int), (b : Int)⟩ := by rw [h]; exact rdT_mid pre rest _
    have ih := paTable_l1 m l hl hn rest (pre ++ [⟨(a : Int), (b : Int)⟩]) (by rw [h]; simp)
    rw [List.length_append, List.length_singleton, ← upd2_hasP] at ih
    refine Ev.step (fun k => ?_) ih
    have hrow : (rd_L4 (mat m (hasP pre)) (a : Int)).length = m := by rw [mat_row _ _ _ (by omega)]; simp
    have hrow2 : (rd_L4 (mat m (upd (hasP pre) a b true)) (b : Int)).length = m := by rw [mat_row _ _ _ (by omega)]; simp
    rw [spec_paTable.l1, if_pos (by omega), if_pos (by omega), if_pos (by omega), hx]
    dsimp only
    rw [mat_len, hrow, if_pos (by omega), if_pos (by omega), if_pos (by omega), if_pos (by omega), Int.toNat_natCast, Int.toNat_natCast, mat_set _ _ _ _ _ (by omega)]
    simp only [Option.bind_some]
    rw [if_pos (by omega), hrow2, if_pos (by omega), mat_set _ _ _ _ _ (by omega), w1 (by omega)]
theorem paTable_l0 (m : Nat) (hm : m ≤ 12) (l : List S79) (hl : l.length < 4611686018427387904) (hn : natPairs m l) : ∀ (d i : Nat), i + d = m → Ev (fun k => spec_paTable.l0 k (List.replicate i (List.replicate m false)) (i : Int) (m : Int) l) (mat m (hasP l))
  | 0, i, hd => by
    refine Ev.step (fun k => ?_) (paTable_l1 m l hl hn l [] rfl)
    obtain rfl : i = m := by omega
    rw [spec_paTable.l0, if_neg (by omega), hasP_nil, mat_false]
    rfl
  | d + 1, i, hd => by
    refine Ev.step (fun k => ?_) (paTable_l0 m hm l hl hn d (i + 1) (by omega))
    rw [spec_paTable.l0, if_pos (by omega), if_pos (by omega), if_pos (by omega), if_pos (by simp; omega), w1 (by omega), Int.toNat_natCast, List.replicate_succ']
theorem paTable_ev (m : Nat) (hm : m ≤ 12) (l : List S79) (hl : l.length < 4611686018427387904) (hn : natPairs m l) : Ev (fun k => spec_paTable.f k (m : Int) l) (mat m (hasP l)) := by
  unfold spec_paTable.f
  exact paTable_l0 m hm l hl hn m 0 (by omega)
theorem grFewest_ev (n : Nat) (hn : n ≤ 12) (l : List S79) (hl : l.length < 4611686018427387904) (hp : natPairs n l) : Ev (fun K => spec_grFewest.f K (n : Int) l) (fewSpec (hasP l) n) := by
  have key : ∀ (j b : Nat) (L : List Int), b + j = n → L.length = n → Ev (fun K => spec_grFewest.l0 K L (b : Int) (n : Int) l) (match (List.range' b j).findSome? fun most => (dfs (hasP l) most n []).map fun c => (c, most) with | some (c, most) => (c, (most : Int)) | none => (idFrom 0 n, (n : Int))) := by
    intro j
    induction j with
    | zero =>
      intro b L hb hL
      have h1 := grFewest_l1 n hn l n 0 L (by omega) hL
      refine Ev.step (fun K => ?_) h1
      rw [spec_grFewest.l0, if_neg (by omega), hL]
      rfl
    | succ j ih =>
      intro b L hb hL
      obtain ⟨L', h1, h2, h3⟩ := grColour_ev n hn (hasP l) b (by omega) n L 0 (by omega) hL
      rw [List.take_zero] at h3
      have ih' := ih (b + 1) L' (by omega) h1
      rw [List.range'_succ, List.findSome?_cons]
      have hgo : ∀ R, Ev (fun K => (spec_paTable.f K (n : Int) l).bind fun t => (spec_grColour.f K t L 0 (b : Int)).bind fun bt => if bt.1 = true then some (bt.2, (b : Int)) else spec_grFewest.l0 K bt.2 (wrap64 ((b : Int) + 1)) (n : Int) l) R → Ev (fun K => spec_grFewest.l0 K L (b : Int) (n : Int) l) R := by
        intro R h
        refine Ev.step (fun K => ?_) h
        rw [spec_grFewest.l0, if_pos (by omega)]
      refine hgo _ (Ev.bind (paTable_ev n hn l hl hp) (Ev.bind h3 ?_))
      cases hdf : dfs (hasP l) b n [] with
      | some full =>
        simp only [Option.isSome_some, if_true, Option.getD_some, Option.map_some]
        exact Ev.now _
      | none =>
        simp only [Option.isSome_none, Bool.false_eq_true, if_false, Option.getD_none, Option.map_none]
        rw [w1 (by omega)]
        exact ih'
  unfold spec_grFewest.f
  simp only [if_pos (show (0 : Int) ≤ (n : Int) by omega), Int.toNat_natCast, if_pos (show n ≤ 35184372088832 by omega)]
  have h := key n 0 (List.replicate n 0) (by omega) (by simp)
  unfold fewSpec
  rw [List.range_eq_range']
  exact h
theorem wraps_u16 (n : Int) (h0 : 0 ≤ n) (h1 : n < 2 ^ 16) : IntKind.u16.wrap n = n := by
  simp [IntKind.wrap, IntKind.bits, IntKind.signed]; omega
theorem and16 (x y : Nat) (hx : x < 65536) (hy : y < 65536) : Go.bits .and .u16 (x : Int) (y : Int) = ((x &&& y : Nat) : Int) := (bits_nat .u16 16 (by decide) wraps_u16 x y hx hy).1
/-! ### tables of bits -/
def bitsOf : Nat → (Nat → Bool) → Nat
  | 0, _ => 0
  | m + 1, f => bitsOf m f + (f m).toNat * 2 ^ m
theorem bitsOf_lt : ∀ (m : Nat) (f : Nat → Bool), bitsOf m f < 2 ^ m
  | 0, _ => by simp [bitsOf]
  | m + 1, f => by
    have := bitsOf_lt m f
    have h2 : (f m).toNat * 2 ^ m ≤ 2 ^ m := by cases f m <;> simp
    rw [bitsOf, Nat.pow_succ]; omega
theorem bitsOf_u16 (m : Nat) (hm : m ≤ 12) (f : Nat → Bool) : bitsOf m f < 65536 :=
  Nat.lt_of_lt_of_le (bitsOf_lt m f) (Nat.le_trans (Nat.pow_le_pow_right (by decide) hm) (by decide))
def tab (m : Nat) (r : Rel) : List Int := (List.range m).map fun a => ((bitsOf m (r a) : Nat) : Int)
theorem tab_at (m : Nat) (r : Rel) (a : Nat) (h : a < m) : rd (tab m r) (a : Int) = ((bitsOf m (r a) : Nat) : Int) := map_range_getD m _ _ a h
theorem tab_len (m : Nat) (r : Rel) : (tab m r).length = m := by simp [tab]
theorem testBit_bitsOf : ∀ (m : Nat) (f : Nat → Bool) (i : Nat), (bitsOf m f).testBit i = (decide (i < m) && f i)
  | 0, f, i => by simp [bitsOf]
  | m + 1, f, i => by
    have ih := testBit_bitsOf m f
    by_cases hi : i < m
    · have h1 : i < m + 1 := by omega
      cases hf : f m with
      | false => simp [bitsOf, hf, ih i, hi, h1]
      | true => rw [bitsOf, hf, Bool.toNat_true, Nat.one_mul, Nat.add_comm, Nat.testBit_two_pow_add_gt hi, ih i]; simp [hi, h1]
    · by_cases e : i = m
      · subst e
        cases hf : f i with
        | false => simp [bitsOf, hf, ih i]
        | true => rw [bitsOf, hf, Bool.toNat_true, Nat.one_mul, Nat.add_comm, Nat.testBit_two_pow_add_eq, ih i]; simp
      · have h1 : ¬ i < m + 1 := by omega
        rw [Nat.testBit_lt_two_pow (Nat.lt_of_lt_of_le (bitsOf_lt (m + 1) f) (Nat.pow_le_pow_right (by decide) (by omega)))]
        simp [h1]
theorem has_f (m : Nat) (hm : m ≤ 12) (r : Rel) (a b : Nat) (ha : a < m) (hb : b < m) : impl_table_has.f (tab m r) (a : Int) (b : Int) = some (r a b) := by
  unfold impl_table_has.f
  rw [if_pos (by omega), if_pos (by rw [tab_len]; omega), if_pos (by omega), tab_at m r a ha]
  have hX := bitsOf_u16 m hm (r a)
  have hs : shr .u16 ((bitsOf m (r a) : Nat) : Int) (b : Int) = ((bitsOf m (r a) / 2 ^ b : Nat) : Int) := by
    unfold shr
    rw [Int.toNat_natCast, Nat.min_eq_left (show b ≤ IntKind.u16.bits from by show b ≤ 16; omega)]
    simp
  have hd : bitsOf m (r a) / 2 ^ b < 65536 := Nat.lt_of_le_of_lt (Nat.div_le_self _ _) hX
  have ht := testBit_bitsOf m (r a) b
  rw [Nat.testBit_eq_decide_div_mod_eq] at ht
  have e1 : Go.bits .and .u16 ((bitsOf m (r a) / 2 ^ b : Nat) : Int) 1 = ((bitsOf m (r a) / 2 ^ b % 2 : Nat) : Int) := by
    have := and16 (bitsOf m (r a) / 2 ^ b) 1 hd (by decide)
    rw [Nat.and_one_is_mod] at this
    exact this
  rw [hs, e1]
  simp only [hb, decide_true, Bool.true_and] at ht
  rw [← ht]
  congr 1
  by_cases h : bitsOf m (r a) / 2 ^ b % 2 = 1
  · simp [h]
  · have h0 : bitsOf m (r a) / 2 ^ b % 2 = 0 := by omega
    simp [h0]
theorem fewest_f (m : Nat) (hm : m ≤ 8) (r : Rel) : impl_table_fewest.f (tab m r) = some (fewSpec r m) := by
  unfold impl_table_fewest.f
  rw [tab_len, if_pos hm, ← few_spec, cols_congr (hasB (tab m r)) r m (fun a b ha hb => ?_) m [] 0 (by simp)]
  have h1 := has_f m (by omega) r a b ha hb
  rw [hasB_f _ _ _ (by rw [tab_len]; exact ha)] at h1
  injection h1
/-- The people before i with a colour. -/
def posOf (C : List Int) (q i : Nat) : List Int := ((List.range i).filter fun b => C.getD b 0 == (q : Int)).map fun b : Nat => (b : Int)
theorem posOf_len (C : List Int) (q i : Nat) : (posOf C q i).length ≤ i := by
  unfold posOf
  rw [List.length_map]
  exact Nat.le_trans (List.length_filter_le _ _) (by simp)
theorem posOf_succ (C : List Int) (q i : Nat) : posOf C q (i + 1) = if C.getD i 0 == (q : Int) then posOf C q i ++ [(i : Int)] else posOf C q i := by
  unfold posOf
  rw [List.range_succ, List.filter_append, List.map_append]
  split
  · next h => rw [List.filter_cons, if_pos h]; rfl
  · next h => rw [List.filter_cons, if_neg h, List.filter_nil, List.map_nil, List.append_nil]
theorem grp_l0 (C : List Int) (few : Nat) (hC : ∀ y ∈ C, 0 ≤ y ∧ y < (few : Int)) (hl : C.length ≤ 12) : ∀ (d i : Nat), i + d = C.length → Ev (fun k => impl_GroupsOfParty.l0 k ((List.range few).map fun q => posOf C q i) C (C.length : Int) (i : Int)) ((List.range few).map fun q => posOf C q C.length, true)
  | 0, i, h => by
    obtain rfl : i = C.length := by omega
    refine Ev.one fun k => ?_
    rw [impl_GroupsOfParty.l0, if_neg (by omega)]
  | d + 1, i, h => by
    have ih := grp_l0 C few hC hl d (i + 1) (by omega)
    have hi : i < C.length := by omega
    have hrd : rd C (i : Int) = C.getD i 0 := by show C.getD (i : Int).toNat 0 = _; rw [Int.toNat_natCast]
    have hmem : C.getD i 0 ∈ C := by simp [List.getD, List.getElem?_eq_getElem hi]
    obtain ⟨h0, h1⟩ := hC _ hmem
    obtain ⟨q, hq⟩ := Int.eq_ofNat_of_zero_le h0
    have hqf : q < few := by omega
    refine Ev.step (fun k => ?_) ih
    have hget : rd_L6 ((List.range few).map fun q => posOf C q i) (q : Int) = posOf C q i := map_range_getD few _ _ q hqf
    rw [impl_GroupsOfParty.l0, if_pos (by omega), if_pos (by omega), if_pos (by omega), hrd, hq, if_pos (by omega), List.length_map, List.length_range, if_pos (by omega), hget]
    have := posOf_len C q i
    rw [if_pos (by omega), w1 (by omega)]
    congr 1
    rw [Int.toNat_natCast, map_range_set]
    refine map_range_congr few _ _ fun x hx => ?_
    rw [posOf_succ, hq]
    by_cases e : x = q
    · subst e; simp
    · rw [if_neg e, if_neg (by simp; omega)]
theorem within_f (a lo hi : Int) : impl_within.f a lo hi = some (decide (lo ≤ a) && decide (a ≤ hi)) := by
  unfold impl_within.f
  by_cases h : lo ≤ a
  · rw [if_pos h]; simp [h]
  · rw [if_neg h]; simp [h]
theorem areCrowd_f (a : Int) : impl_areCrowd.f a = some (decide (0 ≤ a ∧ a ≤ 12)) := by
  unfold impl_areCrowd.f
  rw [within_f]; simp [Bool.decide_and]
def cmp3 (a b : Int) : Int := if a < b then -1 else if a > b then 1 else 0
def cmpP (p q : S79) : Int := if cmp3 p.f0 q.f0 = 0 then cmp3 p.f1 q.f1 else cmp3 p.f0 q.f0
theorem cmpP_neg (p q : S79) : decide (cmpP p q ≥ 0) = !lt2 p q := by
  unfold cmpP cmp3 lt2
  by_cases h1 : p.f0 < q.f0
  · simp [h1]
  · by_cases h2 : p.f0 > q.f0
    · have h3 : ¬ p.f0 = q.f0 := by omega
      simp [h1, h2, h3]
    · have h3 : p.f0 = q.f0 := by omega
      by_cases h4 : p.f1 < q.f1
      · simp [h3, h4]
      · by_cases h5 : p.f1 > q.f1
        · simp [h3, h4, h5]
        · simp [h3, h4, h5]
theorem cmpOr_ev (a b : Int) : Ev (fun k => cmp_Or_int.f k [a, b]) (if a = 0 then b else a) := by
  refine ⟨3, fun k hk => ?_⟩
  obtain ⟨k, rfl⟩ : ∃ m, k = m + 3 := ⟨k - 3, by omega⟩
  have e1 : wrap64 (0 + 1) = 1 := by unfold wrap64; omega
  have e2 : wrap64 (1 + 1) = 2 := by unfold wrap64; omega
  have r0 : rd [a, b] 0 = a := rfl
  have r1 : rd [a, b] 1 = b := rfl
  simp only [cmp_Or_int.f, cmp_Or_int.l0, List.length_cons, List.length_nil, r0, r1, e1, e2]
  by_cases h : a = 0
  · by_cases h2 : b = 0
    · simp [h, h2]
    · simp [h, h2]
  · simp [h]
theorem compare_f (a b : Int) : cmp_Compare_int.f a b = some (cmp3 a b) := by
  unfold cmp_Compare_int.f cmp_isNaN_int.f cmp3
  simp
  by_cases h : a < b
  · simp [h]
  · by_cases h2 : a > b
    · simp [h, h2]
    · simp [h, h2]
theorem comparePairs_ev (p q : S79) : Ev (fun k => impl_comparePairs.f k p.f0 p.f1 q.f0 q.f1) (cmpP p q) := by
  unfold impl_comparePairs.f
  simp only [compare_f, Option.bind_some]
  exact Ev.bind (cmpOr_ev _ _) (Ev.now _)
theorem implIsParty_l0 (n : Int) (l : List S79) (hl : l.length < 4611686018427387904) : ∀ (rest pre : List S79), l = pre ++ rest → Ev (fun k => impl_IsParty.l0 k l (l.length : Int) (pre.length : Int) n l) (okFrom n pre.getLast? rest && crowd n)
  | [], pre, h => by
    refine Ev.one (fun k => ?_)
    have e : l.length = pre.length := by rw [h]; simp
    rw [impl_IsParty.l0, if_neg (by omega), areCrowd_f]
    simp [okFrom, crowd]
  | x :: rest, pre, h => by
    have hlen : pre.length < l.length := by rw [h]; simp
    have hx : rd_T79 l (pre.length : Int) = x := by rw [h]; exact rdT_mid pre rest x
    have ih := implIsParty_l0 n l hl rest (pre ++ [x]) (by rw [h]; simp)
    rw [List.getLast?_concat, List.length_append, List.length_singleton] at ih
    by_cases c1 : x.f0 < 0
    · refine Ev.one (fun k => ?_)
      rw [impl_IsParty.l0, if_pos (by omega), if_pos (by omega), if_pos (by omega), hx, if_pos c1]
      have : decide (0 ≤ x.f0) = false := by simp; omega
      simp [okFrom, this]
    by_cases c2 : x.f0 ≥ x.f1
    · refine Ev.one (fun k => ?_)
      rw [impl_IsParty.l0, if_pos (by omega), if_pos (by omega), if_pos (by omega), hx, if_neg c1, if_pos c2]
      have : decide (x.f0 < x.f1) = false := by simp; omega
      simp [okFrom, this]
    by_cases c3 : x.f1 ≥ n
    · refine Ev.one (fun k => ?_)
      rw [impl_IsParty.l0, if_pos (by omega), if_pos (by omega), if_pos (by omega), hx, if_neg c1, if_neg c2, if_pos c3]
      have : decide (x.f1 < n) = false := by simp; omega
      simp [okFrom, this]
    have d1 : decide (0 ≤ x.f0) = true := by simp; omega
    have d2 : decide (x.f0 < x.f1) = true := by simp; omega
    have d3 : decide (x.f1 < n) = true := by simp; omega
    rcases List.eq_nil_or_concat pre with rfl | ⟨q, p, rfl⟩
    · refine Ev.cast (Ev.step (fun k => ?_) ih) ?_
      · rw [impl_IsParty.l0, if_pos (by omega), if_pos (by omega), if_pos (by omega), hx, if_neg c1, if_neg c2, if_neg c3, if_neg (by simp), w1 (by simp)]
      · simp [okFrom, d1, d2, d3, okPrev]
    · rw [List.concat_eq_append] at hlen hx ih h ⊢
      have hp : rd_T79 l (q.length : Int) = p := by rw [h, List.append_assoc]; exact rdT_mid q (x :: rest) p
      have hq : (q ++ [p]).length = q.length + 1 := by simp
      rw [hq] at hlen hx ih ⊢
      refine Ev.step (f := fun k => (impl_comparePairs.f k p.f0 p.f1 x.f0 x.f1).bind fun t => if t ≥ 0 then some false else impl_IsParty.l0 k l (l.length : Int) ((q.length + 1 + 1 : Nat) : Int) n l) (fun k => ?_) (Ev.bind (comparePairs_ev p x) ?_)
      · rw [impl_IsParty.l0, if_pos (by omega), if_pos (by omega), if_pos (by omega), hx, if_neg c1, if_neg c2, if_neg c3, if_pos (by omega), w64 (i := ((q.length + 1 : Nat) : Int) - 1) (by omega) (by omega), show ((q.length + 1 : Nat) : Int) - 1 = (q.length : Int) by omega, if_pos (by omega), if_pos (by omega), hp, w1 (by omega)]
      · have hc := cmpP_neg p x
        rw [List.getLast?_concat]
        by_cases hlt : lt2 p x = true
        · have c4 : ¬ cmpP p x ≥ 0 := by rw [hlt] at hc; simpa using hc
          simp only [if_neg c4]
          refine Ev.cast ih ?_
          simp [okFrom, d1, d2, d3, okPrev, hlt]
        · have hlt' : lt2 p x = false := by simpa using hlt
          have c4 : cmpP p x ≥ 0 := by rw [hlt'] at hc; simpa using hc
          simp only [if_pos c4]
          refine Ev.cast (Ev.now _) ?_
          simp [okFrom, okPrev, hlt']
theorem implIsParty_ev (n : Int) (l : List S79) (hl : l.length < 4611686018427387904) : Ev (fun k => impl_IsParty.f k n l) (good n l) := by
  unfold impl_IsParty.f
  have := implIsParty_l0 n l hl l [] rfl
  rw [Bool.and_comm] at this
  exact this
theorem isFew_ev (n : Int) (l : List S79) (hl : l.length ≤ 1048576) : Ev (fun k => impl_isFewColoured.f k n l) (fewOf n l) := by
  unfold impl_isFewColoured.f fewOf
  refine Ev.bind (implIsParty_ev n l (by omega)) ?_
  cases good n l with
  | true => simp only [if_true, Bool.true_and]; exact Ev.now _
  | false => simp only [Bool.false_eq_true, if_false, Bool.false_and]; exact Ev.now _
def andn (x y : Nat) : Nat := (BitVec.ofNat 16 x &&& ~~~BitVec.ofNat 16 y).toNat
theorem andn_lt (x y : Nat) : andn x y < 65536 := (BitVec.ofNat 16 x &&& ~~~BitVec.ofNat 16 y).isLt
theorem andNot16 (x y : Nat) : Go.bits .andNot .u16 (x : Int) (y : Int) = ((andn x y : Nat) : Int) := by
  have h := andn_lt x y
  show IntKind.u16.wrap _ = _
  rw [BitVec.ofInt_natCast, BitVec.ofInt_natCast]
  exact wraps_u16 _ (Int.natCast_nonneg _) (by exact_mod_cast h)
theorem pow_u16 (b : Nat) (h : b ≤ 12) : 2 ^ b < 65536 := Nat.lt_of_le_of_lt (Nat.pow_le_pow_right (by decide) h) (by decide)
theorem shl1 (b : Nat) (h : b ≤ 12) : shl .u16 1 (b : Int) = ((2 ^ b : Nat) : Int) := by
  have : b = 0 ∨ b = 1 ∨ b = 2 ∨ b = 3 ∨ b = 4 ∨ b = 5 ∨ b = 6 ∨ b = 7 ∨ b = 8 ∨ b = 9 ∨ b = 10 ∨ b = 11 ∨ b = 12 := by omega
  rcases this with rfl | rfl | rfl | rfl | rfl | rfl | rfl | rfl | rfl | rfl | rfl | rfl | rfl <;> decide
theorem testBit_andn (x y i : Nat) (hx : x < 65536) : (andn x y).testBit i = (x.testBit i && !y.testBit i) := by
  unfold andn
  rw [BitVec.testBit_toNat, BitVec.getLsbD_and, BitVec.getLsbD_not, BitVec.getLsbD_ofNat, BitVec.getLsbD_ofNat]
  by_cases h : i < 16
  · simp [h]
  · have : x.testBit i = false := Nat.testBit_lt_two_pow (Nat.lt_of_lt_of_le hx (Nat.le_trans (show 65536 ≤ 2 ^ 16 by decide) (Nat.pow_le_pow_right (by decide) (by omega))))
    simp [h, this]
theorem others_row (m : Nat) (hm : m ≤ 12) (f : Nat → Bool) (a : Nat) (ha : a < m) : Go.bits .andNot .u16 (Go.bits .andNot .u16 (IntKind.u16.wrap ((shl .u16 1 (m : Int)) - 1)) ((bitsOf m f : Nat) : Int)) (shl .u16 1 (a : Int)) = ((bitsOf m (fun y => !f y && decide (y ≠ a)) : Nat) : Int) := by
  have hp := Nat.two_pow_pos m
  have hq := pow_u16 m hm
  have e : IntKind.u16.wrap ((shl .u16 1 (m : Int)) - 1) = ((2 ^ m - 1 : Nat) : Int) := by
    rw [shl1 m hm, Int.natCast_sub hp]
    exact wraps_u16 _ (by omega) (by omega)
  rw [e, shl1 a (by omega), andNot16, andNot16]
  congr 1
  apply Nat.eq_of_testBit_eq
  intro i
  rw [testBit_andn _ _ _ (andn_lt _ _), testBit_andn _ _ _ (by omega), Nat.testBit_two_pow_sub_one, testBit_bitsOf, testBit_bitsOf, Nat.testBit_two_pow]
  by_cases hi : i < m
  · by_cases e2 : i = a
    · subst e2; simp
    · have e3 : ¬ a = i := fun h => e2 h.symm
      simp [hi, e2, e3]
  · simp [hi]
theorem bitsOf_congr (m : Nat) (f g : Nat → Bool) (h : ∀ i, i < m → f i = g i) : bitsOf m f = bitsOf m g := by
  apply Nat.eq_of_testBit_eq
  intro i
  rw [testBit_bitsOf, testBit_bitsOf]
  by_cases hi : i < m
  · simp [hi, h i hi]
  · simp [hi]
theorem tab_congr (m : Nat) (r s : Rel) (h : ∀ a b, a < m → b < m → r a b = s a b) : tab m r = tab m s := map_range_congr m _ _ fun a ha => by rw [bitsOf_congr m _ _ fun b hb => h a b ha hb]
theorem tab_set (m : Nat) (r : Rel) (a : Nat) (f : Nat → Bool) : (tab m r).set a ((bitsOf m f : Nat) : Int) = tab m (fun x => if x = a then f else r x) := by
  unfold tab
  rw [map_range_set]
  refine map_range_congr m _ _ fun i hi => ?_
  by_cases e : i = a <;> simp [e]
theorem others_l0 (m : Nat) (hm : m ≤ 12) (r : Rel) : ∀ (d a : Nat), a + d = m → Ev (fun k => impl_table_others.l0 k (tab m r) (tab m (fun x y => if x < a then othR r x y else false)) (m : Int) (a : Int)) (tab m (othR r))
  | 0, a, hd => by
    obtain rfl : a = m := by omega
    refine Ev.one (fun k => ?_)
    rw [impl_table_others.l0, if_neg (by omega)]
    congr 1
    exact tab_congr a _ _ fun x y hx hy => by simp [hx]
  | d + 1, a, hd => by
    refine Ev.step (fun k => ?_) (others_l0 m hm r d (a + 1) (by omega))
    rw [impl_table_others.l0, if_pos (by omega), if_pos (by omega), tab_len, if_pos (by omega), tab_len, if_pos (by omega), tab_at m r a (by omega), others_row m hm (r a) a (by omega), Int.toNat_natCast, tab_set, w1 (by omega)]
    congr 1
    refine tab_congr m _ _ fun x y hx hy => ?_
    by_cases h : x = a
    · subst h; simp [othR]
    · have : x < a ↔ x < a + 1 := by omega
      simp [h, this]
theorem tab_false (m : Nat) : tab m (fun _ _ => false) = List.replicate m 0 := by
  unfold tab
  rw [← map_range_const (0 : Int) m]
  refine map_range_congr m _ _ fun i hi => ?_
  have : bitsOf m (fun _ => false) = 0 := by
    apply Nat.eq_of_testBit_eq
    intro i
    rw [testBit_bitsOf]; simp
  rw [this]; rfl
theorem others_ev (m : Nat) (hm : m ≤ 12) (r : Rel) : Ev (fun k => impl_table_others.f k (tab m r)) (tab m (othR r)) := by
  unfold impl_table_others.f
  simp only [tab_len]
  simp only [if_pos (show (0 : Int) ≤ (m : Int) by omega), Int.toNat_natCast, if_pos (show m ≤ 140737488355328 by omega)]
  have h := others_l0 m hm r m 0 (by omega)
  have e : tab m (fun x y => if x < 0 then othR r x y else false) = List.replicate m 0 := by rw [← tab_false]; exact tab_congr m _ _ fun x y _ _ => by simp
  rw [e] at h
  exact h
theorem bitsOf_or (m : Nat) (f : Nat → Bool) (b : Nat) (hb : b < m) : bitsOf m f ||| 2 ^ b = bitsOf m fun j => if j = b then true else f j := by
  apply Nat.eq_of_testBit_eq
  intro i
  rw [Nat.testBit_or, testBit_bitsOf, testBit_bitsOf, Nat.testBit_two_pow]
  by_cases e : i = b
  · subst e; simp [hb]
  · have e' : ¬ b = i := fun h => e h.symm
    simp [e, e']
theorem or16 (x y : Nat) (hx : x < 65536) (hy : y < 65536) : Go.bits .or .u16 (x : Int) (y : Int) = ((x ||| y : Nat) : Int) := (bits_nat .u16 16 (by decide) wraps_u16 x y hx hy).2
theorem tab_or (m : Nat) (hm : m ≤ 12) (r : Rel) (a b : Nat) (ha : a < m) (hb : b < m) : (tab m r).set a (Go.bits .or .u16 (rd (tab m r) (a : Int)) (shl .u16 1 (b : Int))) = tab m (upd r a b true) := by
  rw [tab_at m r a ha, shl1 b (by omega), or16 _ _ (bitsOf_u16 m hm _) (pow_u16 b (by omega)), bitsOf_or m _ b hb, tab_set]
  refine tab_congr m _ _ fun x y hx hy => ?_
  by_cases e : x = a
  · subst e; simp [upd]
  · simp [upd, e]
theorem table_l0 (m : Nat) (hm : m ≤ 12) (l : List S79) (hl : l.length < 4611686018427387904) (hn : natPairs m l) : ∀ (rest pre : List S79), l = pre ++ rest → Ev (fun k => impl_Party_table.l0 k (tab m (hasP pre)) l (l.length : Int) (pre.length : Int)) (tab m (hasP l))
  | [], pre, h => by
    refine Ev.one (fun k => ?_)
    have e : l = pre := by rw [h]; simp
    rw [impl_Party_table.l0, if_neg (by rw [e]; omega), e]
  | x :: rest, pre, h => by
    have hlen : pre.length < l.length := by rw [h]; simp
    obtain ⟨a, b, rfl, hab, hb⟩ := hn x (by rw [h]; simp)
    have hx : rd_T79 l (pre.length : Int) = ⟨(a : Int), (b : Int)⟩ := by rw [h]; exact rdT_mid pre rest _
    have ih := table_l0 m hm l hl hn rest (pre ++ [⟨(a : Int), (b : Int)⟩]) (by rw [h]; simp)
    rw [List.length_append, List.length_singleton, ← upd2_hasP] at ih
    refine Ev.step (fun k => ?_) ih
    rw [impl_Party_table.l0, if_pos (by omega), if_pos (by omega), if_pos (by omega), hx]
    dsimp only
    rw [tab_len, if_pos (by omega), if_pos (by omega), if_pos (by omega), Int.toNat_natCast, Int.toNat_natCast, tab_or m hm _ a b (by omega) (by omega)]
    simp only [Option.bind_some]
    rw [if_pos (by omega), tab_or m hm _ b a (by omega) (by omega), w1 (by omega)]
theorem table_ev (m : Nat) (hm : m ≤ 12) (l : List S79) (hl : l.length < 4611686018427387904) (hn : natPairs m l) : Ev (fun k => impl_Party_table.f k (m : Int) l) (tab m (hasP l)) := by
  unfold impl_Party_table.f
  simp only [if_pos (show (0 : Int) ≤ (m : Int) by omega), Int.toNat_natCast, if_pos (show m ≤ 140737488355328 by omega)]
  have := table_l0 m hm l hl hn l [] rfl
  rw [hasP_nil, tab_false] at this
  exact this

theorem groups_ev (n : Int) (l : List S79) (hl : l.length ≤ 1048576) : ∃ R : List (List Int) × Bool, Ev (fun k => impl_GroupsOfParty.f k n l) R ∧ (fewOf n l = false → R = ([], false)) ∧ ∀ m : Nat, n = (m : Int) → fewOf n l = true → R = ((List.range (fewSpec (othR (hasP l)) m).2.toNat).map fun q => posOf (fewSpec (othR (hasP l)) m).1 q m, true) := by
  cases h : fewOf n l with
  | false =>
    refine ⟨([], false), ?_, fun _ => rfl, fun m _ h2 => by simp at h2⟩
    unfold impl_GroupsOfParty.f
    refine Ev.bind (isFew_ev n l hl) ?_
    simp only [h, Bool.false_eq_true, if_false]; exact Ev.now _
  | true =>
    have h' := h
    unfold fewOf at h'
    rw [Bool.and_eq_true, decide_eq_true_eq] at h'
    obtain ⟨hg, h8⟩ := h'
    obtain ⟨m, rfl, hm, hn, ho⟩ := good_nat hg
    refine ⟨((List.range (fewSpec (othR (hasP l)) m).2.toNat).map fun q => posOf (fewSpec (othR (hasP l)) m).1 q m, true), ?_, fun h => by simp at h, fun m' e _ => by
      obtain rfl : m' = m := by omega
      rfl⟩
    obtain ⟨few, hf, hfm, hC⟩ := fewSpec_colours (othR (hasP l)) m
    unfold impl_GroupsOfParty.f
    refine Ev.bind (isFew_ev _ l hl) ?_
    simp only [h, if_true]
    refine Ev.bind (table_ev m hm l (by omega) hn) (Ev.bind (others_ev m hm (hasP l)) ?_)
    rw [fewest_f m (by omega)]
    simp only [Option.bind_some, hf, if_pos (show (0 : Int) ≤ (few : Int) by omega), Int.toNat_natCast, if_pos (show few ≤ 11728124029610 by omega)]
    have hlen := fewSpec_len (othR (hasP l)) m
    have h1 := grp_l0 (fewSpec (othR (hasP l)) m).1 few hC (by omega) m 0 (by omega)
    rw [hlen] at h1
    rw [hlen]
    have h2 : (List.range few).map (fun q => posOf (fewSpec (othR (hasP l)) m).1 q 0) = List.replicate few [] := by
      rw [List.eq_replicate_iff]
      refine ⟨by simp, fun x hx => ?_⟩
      rw [List.mem_map] at hx
      obtain ⟨q, _, rfl⟩ := hx
      rfl
    rw [h2] at h1
    exact h1
def flipTo (r : Rel) (a b : Nat) : Rel := fun x y => if x < a ∨ (x = a ∧ y < b) then !r x y else r x y
theorem mat_congr (m : Nat) (r s : Rel) (h : ∀ a b, a < m → b < m → r a b = s a b) : mat m r = mat m s := map_range_congr m _ _ fun a ha => map_range_congr m _ _ fun b hb => h a b ha hb
theorem paOf_l1 (m : Nat) (hm : m ≤ 12) (r : Rel) (a : Nat) (ha : a < m) (n : Int) (R : Int × List S79) : ∀ (d b : Nat) (acc : List S79), b + d = m → acc.length ≤ 12 * a + b → Ev (fun k => spec_paOf.l0 k (mat m r) (m : Int) ((a + 1 : Nat) : Int) n (acc ++ rowFrom r a b d)) R → Ev (fun k => spec_paOf.l1 k (mat m r) (a : Int) (b : Int) (m : Int) (a : Int) n acc) R
  | 0, b, acc, hd, hacc, h => by
    refine Ev.step (fun k => ?_) h
    rw [spec_paOf.l1, mat_len, if_neg (by omega), w1 (by omega), rowFrom, List.append_nil]
  | d + 1, b, acc, hd, hacc, h => by
    have hb : b < m := by omega
    rw [rowFrom, ← List.append_assoc] at h
    have hrow : (rd_L4 (mat m r) (a : Int)).length = m := by rw [mat_row m r a ha]; simp
    cases hr : r a b with
    | true =>
      rw [hr, if_pos rfl] at h
      have ih := paOf_l1 m hm r a ha n R d (b + 1) (acc ++ [⟨(a : Int), (b : Int)⟩]) (by omega) (by simp; omega) h
      refine Ev.step (fun k => ?_) ih
      rw [spec_paOf.l1, mat_len, if_pos (by omega), if_pos (by omega), if_pos (by omega), if_pos (by omega), hrow, if_pos (by omega), mat_at m r a b ha hb, hr, if_pos rfl, if_pos (by omega), w1 (by omega)]
    | false =>
      rw [hr, if_neg (by decide), List.append_nil] at h
      have ih := paOf_l1 m hm r a ha n R d (b + 1) acc (by omega) (by omega) h
      refine Ev.step (fun k => ?_) ih
      rw [spec_paOf.l1, mat_len, if_pos (by omega), if_pos (by omega), if_pos (by omega), if_pos (by omega), hrow, if_pos (by omega), mat_at m r a b ha hb, hr, if_neg (by decide), w1 (by omega)]
theorem rowFrom_len (r : Rel) (a : Nat) : ∀ (d b : Nat), (rowFrom r a b d).length ≤ d
  | 0, _ => Nat.le_refl _
  | d + 1, b => by
    have := rowFrom_len r a d (b + 1)
    rw [rowFrom, List.length_append]
    split <;> simp <;> omega
theorem paOf_l0 (m : Nat) (hm : m ≤ 12) (r : Rel) (n : Int) : ∀ (d a : Nat) (acc : List S79), a + d = m → acc.length ≤ 12 * a → Ev (fun k => spec_paOf.l0 k (mat m r) (m : Int) (a : Int) n acc) (n, acc ++ pairsFrom r m a d)
  | 0, a, acc, hd, hacc => by
    refine Ev.one (fun k => ?_)
    rw [spec_paOf.l0, if_neg (by omega), pairsFrom, List.append_nil]
  | d + 1, a, acc, hd, hacc => by
    have hl := rowFrom_len r a (m - (a + 1)) (a + 1)
    have ih := paOf_l0 m hm r n d (a + 1) (acc ++ rowFrom r a (a + 1) (m - (a + 1))) (by omega) (by rw [List.length_append]; omega)
    rw [List.append_assoc, ← pairsFrom] at ih
    have h := paOf_l1 m hm r a (by omega) n _ (m - (a + 1)) (a + 1) acc (by omega) (by omega) ih
    refine Ev.step (fun k => ?_) h
    rw [spec_paOf.l0, if_pos (by omega), w1 (by omega)]
theorem paOf_ev (m : Nat) (hm : m ≤ 12) (r : Rel) : Ev (fun k => spec_paOf.f k (mat m r)) ((m : Int), pairsOf m r) := by
  unfold spec_paOf.f
  rw [mat_len]
  exact paOf_l0 m hm r m m 0 [] (by omega) (by simp)
theorem flip_row (m : Nat) (r : Rel) (a : Nat) : mat m (flipTo r a m) = mat m (flipTo r (a + 1) 0) := by
  refine mat_congr m _ _ fun x y hx hy => ?_
  unfold flipTo
  have : (x < a ∨ x = a ∧ y < m) ↔ (x < a + 1 ∨ x = a + 1 ∧ y < 0) := by omega
  simp [this]
theorem flip_upd (m : Nat) (r : Rel) (a b : Nat) : mat m (upd (flipTo r a b) a b (!r a b)) = mat m (flipTo r a (b + 1)) := by
  refine mat_congr m _ _ fun x y hx hy => ?_
  unfold upd flipTo
  by_cases h : x = a ∧ y = b
  · simp [h]
  · rw [if_neg h]
    have : (x < a ∨ x = a ∧ y < b) ↔ (x < a ∨ x = a ∧ y < b + 1) := by omega
    simp [this]
theorem paOther_l1 (m : Nat) (hm : m ≤ 12) (r : Rel) (a : Nat) (ha : a < m) (R : Int × List S79) (h : Ev (fun k => spec_paOther.l0 k (mat m (flipTo r (a + 1) 0)) (m : Int) ((a + 1 : Nat) : Int)) R) : ∀ (d b : Nat), b + d = m → Ev (fun k => spec_paOther.l1 k (mat m (flipTo r a b)) (a : Int) (m : Int) (a : Int) (m : Int) (b : Int)) R
  | 0, b, hd => by
    obtain rfl : b = m := by omega
    refine Ev.step (fun k => ?_) h
    rw [spec_paOther.l1, if_neg (by omega), w1 (by omega), flip_row]
  | d + 1, b, hd => by
    have hb : b < m := by omega
    have hrow : (rd_L4 (mat m (flipTo r a b)) (a : Int)).length = m := by rw [mat_row _ _ _ ha]; simp
    refine Ev.step (fun k => ?_) (paOther_l1 m hm r a ha R h d (b + 1) (by omega))
    rw [spec_paOther.l1, mat_len, if_pos (by omega), if_pos (by omega), if_pos (by omega), if_pos (by omega), hrow, if_pos (by omega), mat_at _ _ _ _ ha hb, Int.toNat_natCast, Int.toNat_natCast, mat_set _ _ _ _ _ ha, w1 (by omega)]
    have e : flipTo r a b a b = r a b := by simp [flipTo]
    rw [e, flip_upd]
theorem paOther_l0 (m : Nat) (hm : m ≤ 12) (r : Rel) : ∀ (d a : Nat), a + d = m → Ev (fun k => spec_paOther.l0 k (mat m (flipTo r a 0)) (m : Int) (a : Int)) ((m : Int), pairsOf m (notR r))
  | 0, a, hd => by
    obtain rfl : a = m := by omega
    have e : mat a (flipTo r a 0) = mat a (notR r) := mat_congr a _ _ fun x y hx hy => by simp [flipTo, notR, hx]
    refine Ev.step (f := fun k => (spec_paOf.f k (mat a (notR r))).bind fun bt => some (bt.1, bt.2)) (fun k => ?_) (Ev.bind (paOf_ev a hm _) (Ev.now _))
    rw [spec_paOther.l0, if_neg (by omega), e]
  | d + 1, a, hd => by
    refine Ev.step (fun k => ?_) (paOther_l1 m hm r a (by omega) _ (paOther_l0 m hm r d (a + 1) (by omega)) m 0 (by omega))
    rw [spec_paOther.l0, if_pos (by omega), mat_len]
    rfl
theorem paOther_ev (m : Nat) (hm : m ≤ 12) (l : List S79) (hl : l.length < 4611686018427387904) (hn : natPairs m l) : Ev (fun k => spec_paOther.f k (m : Int) l) ((m : Int), pairsOf m (notR (hasP l))) := by
  unfold spec_paOther.f
  refine Ev.bind (paTable_ev m hm l hl hn) ?_
  simp only [mat_len]
  have h := paOther_l0 m hm (hasP l) m 0 (by omega)
  have e : flipTo (hasP l) 0 0 = hasP l := by funext x y; simp [flipTo]
  rw [e] at h
  exact h
theorem pairsFrom_len (r : Rel) (m : Nat) (hm : m ≤ 12) : ∀ (d a : Nat), (pairsFrom r m a d).length ≤ 12 * d
  | 0, _ => Nat.le_refl _
  | d + 1, a => by
    have := pairsFrom_len r m hm d (a + 1)
    have := rowFrom_len r a (m - (a + 1)) (a + 1)
    rw [pairsFrom, List.length_append]; omega
theorem pairsOf_len (m : Nat) (hm : m ≤ 12) (r : Rel) : (pairsOf m r).length ≤ 144 := by
  have := pairsFrom_len r m hm m 0
  unfold pairsOf; omega
theorem rd_mid (pre rest : List Int) (x : Int) : rd (pre ++ x :: rest) (pre.length : Int) = x := by
  unfold rd
  simp [List.getD_eq_getElem?_getD]
/-! whether a number is there -/
theorem l1Has_l0 (l : List Int) (a : Int) (hl : l.length < 4611686018427387904) : ∀ (rest pre : List Int), l = pre ++ rest → Ev (fun k => spec_l1Has.l0 k a l (l.length : Int) (pre.length : Int)) (rest.contains a)
  | [], pre, e => by
    have el : l.length = pre.length := by rw [e]; simp
    refine Ev.one (fun k => ?_)
    rw [spec_l1Has.l0, if_neg (by omega)]; rfl
  | x :: rest, pre, e => by
    have el : pre.length < l.length := by rw [e]; simp
    have hx : rd l (pre.length : Int) = x := by rw [e]; exact rd_mid pre _ x
    by_cases c : x = a
    · refine Ev.one (fun k => ?_)
      rw [spec_l1Has.l0, if_pos (by omega), if_pos (by omega), if_pos (by omega), hx, if_pos c]
      simp [c]
    · have ih := l1Has_l0 l a hl rest (pre ++ [x]) (by rw [e]; simp)
      rw [List.length_append, List.length_singleton] at ih
      refine Ev.cast (Ev.step (fun k => ?_) ih) ?_
      · rw [spec_l1Has.l0, if_pos (by omega), if_pos (by omega), if_pos (by omega), hx, if_neg c, w1 (by omega)]
      · have : ¬ a = x := fun h => c h.symm
        simp [this]
theorem l1Has_ev (l : List Int) (a : Int) (hl : l.length < 4611686018427387904) : Ev (fun k => spec_l1Has.f k l a) (l.contains a) := l1Has_l0 l a hl l [] rfl
theorem run_mem : ∀ (l : List Int) (a b : Nat), run l a = some b → a ≤ b ∧ ∀ x : Int, (x ∈ l ∨ (0 ≤ x ∧ x < (a : Int))) ↔ (0 ≤ x ∧ x < (b : Int))
  | [], a, b, h => by
    rw [run] at h
    injection h with h
    subst h
    exact ⟨Nat.le_refl _, fun x => by simp⟩
  | y :: l, a, b, h => by
    rw [run] at h
    split at h
    · next hy =>
      obtain ⟨h1, h2⟩ := run_mem l a b h
      refine ⟨h1, fun x => ?_⟩
      rw [← h2 x, List.mem_cons]
      constructor
      · rintro ((rfl | h) | h)
        · exact .inr hy
        · exact .inl h
        · exact .inr h
      · rintro (h | h)
        · exact .inl (.inr h)
        · exact .inr h
    · split at h
      · next hy =>
        subst hy
        obtain ⟨h1, h2⟩ := run_mem l (a + 1) b h
        refine ⟨by omega, fun x => ?_⟩
        rw [← h2 x, List.mem_cons]
        constructor
        · rintro ((rfl | h) | h)
          · exact .inr (by omega)
          · exact .inl h
          · exact .inr (by omega)
        · rintro (h | h)
          · exact .inl (.inr h)
          · by_cases e : x = (a : Int)
            · exact .inl (.inl e)
            · exact .inr (by omega)
      · cases h
theorem sgrp_l1 (C : List Int) (hl : C.length ≤ 12) (q : Nat) (X : List (List Int)) (hX : X.length ≤ 100) (a : Nat) (ha : a < C.length) (R : List (List Int) × Bool) (h : Ev (fun k => spec_GroupsOfParty.l0 k C (X ++ [posOf C q C.length]) C (C.length : Int) ((a + 1 : Nat) : Int)) R) : ∀ (d i : Nat), i + d = C.length → Ev (fun k => spec_GroupsOfParty.l1 k C X (q : Int) (posOf C q i) C (C.length : Int) (a : Int) C (C.length : Int) (i : Int)) R
  | 0, i, hd => by
    obtain rfl : i = C.length := by omega
    refine Ev.step (fun k => ?_) h
    rw [spec_GroupsOfParty.l1, if_neg (by omega), if_pos (by omega), w1 (by omega)]
  | d + 1, i, hd => by
    have ih := sgrp_l1 C hl q X hX a ha R h d (i + 1) (by omega)
    have hrd : rd C (i : Int) = C.getD i 0 := by unfold rd; rw [Int.toNat_natCast]
    have hpl := posOf_len C q i
    refine Ev.step (fun k => ?_) ih
    rw [spec_GroupsOfParty.l1, if_pos (by omega), if_pos (by omega), if_pos (by omega), hrd, posOf_succ]
    by_cases hq : C.getD i 0 = (q : Int)
    · rw [if_pos hq, if_pos (by omega), if_pos (by rw [hq]; exact beq_self_eq_true _), w1 (by omega)]
    · rw [if_neg hq, if_neg (by simpa using hq), w1 (by omega)]
theorem sgrp_l0 (C : List Int) (few : Nat) (hl : C.length ≤ 12) (hfew : few ≤ 12) : ∀ (rest pre : List Int) (mi : Nat), C = pre ++ rest → run pre 0 = some mi → run rest mi = some few → Ev (fun k => spec_GroupsOfParty.l0 k C ((List.range mi).map fun q => posOf C q C.length) C (C.length : Int) (pre.length : Int)) ((List.range few).map fun q => posOf C q C.length, true)
  | [], pre, mi, e, h1, h2 => by
    have el : C.length = pre.length := by rw [e]; simp
    rw [run] at h2
    injection h2 with h2
    subst h2
    refine Ev.one fun k => ?_
    rw [spec_GroupsOfParty.l0, if_neg (by omega)]
  | x :: rest, pre, mi, e, h1, h2 => by
    have el : C.length = pre.length + (rest.length + 1) := by rw [e]; simp
    have ex : rd C (pre.length : Int) = x := by rw [e]; exact rd_mid pre rest x
    have et : C.take (pre.length : Int).toNat = pre := by rw [Int.toNat_natCast, e, List.take_left']; rfl
    have hm := run_mem pre 0 mi h1
    have hc : ∀ y : Int, pre.contains y = true ↔ (0 ≤ y ∧ y < (mi : Int)) := fun y => by
      rw [← hm.2 y, List.contains_iff_mem]
      constructor
      · exact .inl
      · rintro (h | h)
        · exact h
        · omega
    have hmi := (run_mem (x :: rest) mi few h2).1
    have hstep : ∀ k, spec_GroupsOfParty.l0 (k + 1) C ((List.range mi).map fun q => posOf C q C.length) C (C.length : Int) (pre.length : Int) = (spec_l1Has.f k pre x).bind fun t => if t = true then spec_GroupsOfParty.l0 k C ((List.range mi).map fun q => posOf C q C.length) C (C.length : Int) ((pre.length + 1 : Nat) : Int) else spec_GroupsOfParty.l1 k C ((List.range mi).map fun q => posOf C q C.length) x ([] : List Int) C (C.length : Int) (pre.length : Int) C (C.length : Int) 0 := fun k => by
      rw [spec_GroupsOfParty.l0, if_pos (by omega), if_pos (by omega), if_pos (by omega), if_pos (by omega), et, ex, w1 (by omega)]
    refine Ev.step hstep (Ev.bind (l1Has_ev pre x (by omega)) ?_)
    rw [run] at h2
    by_cases hx : 0 ≤ x ∧ x < (mi : Int)
    · rw [if_pos hx] at h2
      rw [(hc x).2 hx]
      simp only [if_true]
      have ih := sgrp_l0 C few hl hfew rest (pre ++ [x]) mi (by rw [e]; simp) (by rw [run_append, h1, Option.bind_some, run, if_pos hx]; rfl) h2
      rw [List.length_append, List.length_singleton] at ih
      exact ih
    · rw [if_neg hx] at h2
      have hf : pre.contains x = false := by
        cases h : pre.contains x with
        | false => rfl
        | true => exact absurd ((hc x).1 h) hx
      rw [hf]
      simp only [Bool.false_eq_true, if_false]
      by_cases hx2 : x = (mi : Int)
      · rw [if_pos hx2] at h2
        subst hx2
        have ih := sgrp_l0 C few hl hfew rest (pre ++ [(mi : Int)]) (mi + 1) (by rw [e]; simp) (by rw [run_append, h1, Option.bind_some, run, if_neg hx, if_pos rfl]; rfl) h2
        rw [List.length_append, List.length_singleton, List.range_succ, List.map_append] at ih
        exact sgrp_l1 C hl mi _ (by simp; omega) pre.length (by omega) _ ih C.length 0 (by omega)
      · rw [if_neg hx2] at h2; cases h2
def smallSS (L : List (List Int)) : Prop := L.length ≤ 100000 ∧ ∀ x ∈ L, x.length ≤ 1000
theorem GroupsOfParty_common (n : Int) (l : List S79) (w : (Lit.int .i64 n).wf = true) (hl : l.length ≤ 1048576) : ∃ R : List (List Int) × Bool, Ev (fun k => spec_GroupsOfParty.f k n l) R ∧ Ev (fun k => impl_GroupsOfParty.f k n l) R ∧ smallSS R.1 := by
  obtain ⟨G, hG, h0, h1⟩ := groups_ev n l hl
  refine ⟨G, ?_, hG, ?_⟩
  · cases h : fewOf n l with
    | false =>
      rw [h0 h]
      unfold spec_GroupsOfParty.f
      refine Ev.bind (grFew_ev n l hl) ?_
      simp only [h, Bool.false_eq_true, if_false]; exact Ev.now _
    | true =>
      have h' := h
      unfold fewOf at h'
      rw [Bool.and_eq_true, decide_eq_true_eq] at h'
      obtain ⟨hg, h8⟩ := h'
      obtain ⟨m, rfl, hm, hn, ho⟩ := good_nat hg
      rw [h1 m rfl h]
      obtain ⟨few, hf, hfm, hC⟩ := fewSpec_colours (othR (hasP l)) m
      unfold spec_GroupsOfParty.f
      refine Ev.bind (grFew_ev _ l hl) ?_
      simp only [h, if_true]
      refine Ev.bind (paOther_ev m hm l (by omega) hn) ?_
      have hlen := pairsOf_len m hm (notR (hasP l))
      have hp : natPairs m (pairsOf m (notR (hasP l))) := fun x hx => by
        obtain ⟨a, b, _, _, h3, h4, h5, rfl⟩ := (mem_pairsFrom _ m x m 0).1 hx
        exact ⟨a, b, rfl, h3, h4⟩
      refine Ev.bind (grFewest_ev m hm (pairsOf m (notR (hasP l))) (by omega) hp) ?_
      rw [few_other]
      have hcl := fewSpec_len (othR (hasP l)) m
      have := sgrp_l0 (fewSpec (othR (hasP l)) m).1 few (by omega) (by omega) (fewSpec (othR (hasP l)) m).1 [] 0 rfl rfl (fewSpec_run _ _ _ hf)
      refine Ev.cast this ?_
      rw [hf, Int.toNat_natCast, hcl]
  · cases h : fewOf n l with
    | false => rw [h0 h]; exact ⟨by simp, fun x hx => by cases hx⟩
    | true =>
      have h' := h
      unfold fewOf at h'
      rw [Bool.and_eq_true, decide_eq_true_eq] at h'
      obtain ⟨hg, h8⟩ := h'
      obtain ⟨m, rfl, hm, hn, ho⟩ := good_nat hg
      rw [h1 m rfl h]
      obtain ⟨few, hf, hfm, hC⟩ := fewSpec_colours (othR (hasP l)) m
      refine ⟨?_, fun x hx => ?_⟩
      · rw [List.length_map, List.length_range, hf, Int.toNat_natCast]; omega
      · obtain ⟨q, _, rfl⟩ := List.mem_map.1 hx
        have := posOf_len (fewSpec (othR (hasP l)) m).1 q m
        omega

def conv (l : List S81) : List S79 := l.map fun x => ⟨x.f0, x.f1⟩
theorem conv_len (l : List S81) : (conv l).length = l.length := by simp [conv]
theorem ext_getD {a b : List Int} (h : a.length = b.length) (hj : ∀ j, j < a.length → a.getD j 0 = b.getD j 0) : a = b := by
  apply List.ext_getElem h
  intro i h1 h2
  have := hj i h1
  simpa [List.getD_eq_getElem?_getD, h1, h2] using this
theorem eqIntS_l0 (a b : List Int) (h : a.length = b.length) (hl : a.length < 4611686018427387904) : ∀ (d i : Nat), i + d = a.length → (∀ j, j < i → a.getD j 0 = b.getD j 0) → Ev (fun k => laws_eqIntS.l0 k a b i) (decide (a = b))
  | 0, i, hd, hj => by
    refine Ev.one (fun k => ?_)
    have : a = b := ext_getD h (fun j hj' => hj j (by omega))
    rw [laws_eqIntS.l0, if_neg (by omega)]; simp [this]
  | d + 1, i, hd, hj => by
    by_cases e : a.getD i 0 = b.getD i 0
    · refine Ev.step (f := fun k => laws_eqIntS.l0 k a b ((i + 1 : Nat) : Int)) (fun k => ?_) (eqIntS_l0 a b h hl d (i + 1) (by omega) ?_)
      · rw [laws_eqIntS.l0, if_pos (by omega), if_pos (by omega), if_pos (by omega), if_pos (by exact e), w1 (by omega)]
      · intro j hj'
        by_cases e2 : j = i
        · rw [e2]; exact e
        · exact hj j (by omega)
    · refine Ev.one (fun k => ?_)
      have : a ≠ b := fun h => e (by rw [h])
      rw [laws_eqIntS.l0, if_pos (by omega), if_pos (by omega), if_pos (by omega), if_neg (by exact e)]; simp [this]
theorem eqIntS_ev (a b : List Int) (hl : a.length < 4611686018427387904) : Ev (fun k => laws_eqIntS.f k a b) (decide (a = b)) := by
  unfold laws_eqIntS.f
  by_cases h : a.length = b.length
  · simp only [if_pos (show (a.length : Int) = (b.length : Int) by omega)]
    exact eqIntS_l0 a b h hl a.length 0 (by omega) (fun j hj => absurd hj (Nat.not_lt_zero _))
  · simp only [if_neg (show ¬ (a.length : Int) = (b.length : Int) by omega)]
    have : a ≠ b := fun e => h (by rw [e])
    exact Ev.one (fun k => by simp [this])
theorem eqIntS_self (a : List Int) (hl : a.length < 4611686018427387904) : Ev (fun k => laws_eqIntS.f k a a) true := by
  have h := eqIntS_ev a a hl
  rwa [decide_eq_true rfl] at h
theorem rdL_mid (pre rest : List (List Int)) (x : List Int) : rd_L6 (pre ++ x :: rest) (pre.length : Int) = x := by
  show (pre ++ x :: rest).getD _ [] = x
  simp [List.getD_eq_getElem?_getD]
theorem eqIntSS_l0 (L : List (List Int)) (h : smallSS L) : ∀ (rest pre : List (List Int)), L = pre ++ rest → Ev (fun k => laws_eqIntSS.l0 k L L (pre.length : Int)) true
  | [], pre, e => by
    have e2 : L.length = pre.length := by rw [e]; simp
    refine Ev.one fun k => ?_
    rw [laws_eqIntSS.l0, if_neg (by omega)]
  | x :: rest, pre, e => by
    have e2 : L.length = pre.length + (rest.length + 1) := by rw [e]; simp
    have hx : rd_L6 L (pre.length : Int) = x := by rw [e]; exact rdL_mid pre rest x
    have hl := h.1
    have hxl := h.2 x (by rw [e]; simp)
    have ih := eqIntSS_l0 L h rest (pre ++ [x]) (by rw [e]; simp)
    rw [List.length_append, List.length_singleton] at ih
    refine Ev.step (f := fun k => (laws_eqIntS.f k x x).bind fun t => if t = true then laws_eqIntSS.l0 k L L ((pre.length + 1 : Nat) : Int) else some false) (fun k => ?_) (Ev.bind (eqIntS_self x (by omega)) ?_)
    · rw [laws_eqIntSS.l0, if_pos (by omega), if_pos (by omega), if_pos (by omega), hx, w1 (by omega)]
    · simp only [if_true]; exact ih
theorem eqIntSS_self (L : List (List Int)) (h : smallSS L) : Ev (fun k => laws_eqIntSS.f k L L) true := by
  unfold laws_eqIntSS.f
  simp only [if_true]
  exact eqIntSS_l0 L h L [] rfl
theorem eqPairS_l0 (l : List S79) (hl : l.length < 4611686018427387904) : ∀ (d i : Nat), i + d = l.length → Ev (fun k => laws_eqPairS.l0 k l l i) true
  | 0, i, hd => by
    refine Ev.one (fun k => ?_)
    rw [laws_eqPairS.l0, if_neg (by omega)]
  | d + 1, i, hd => by
    refine Ev.step (fun k => ?_) (eqPairS_l0 l hl d (i + 1) (by omega))
    rw [laws_eqPairS.l0, if_pos (by omega), if_pos (by omega), if_pos (by omega), laws_eqPair.f, if_pos rfl, if_pos rfl, w1 (by omega)]
    rfl
theorem eqParty_self (a : Int) (l : List S79) (hl : l.length < 4611686018427387904) : Ev (fun k => laws_eqParty.f k a l a l) true := by
  unfold laws_eqParty.f laws_eqPairS.f
  simp only [if_true]
  have h : Ev (fun k => laws_eqPairS.l0 k l l 0) true := by simpa using eqPairS_l0 l hl l.length 0 (by omega)
  refine Ev.bind h ?_
  simp only [if_true]
  exact Ev.now _

/-- The list bears the marks m, m+1, .. -/
def Marked (m : Int) (z : List Int) : Prop := ∀ j, j < z.length → z.getD j 0 = m + j
inductive MarkedSS : Nat → List (List Int) → Prop
  | nil (m : Nat) : MarkedSS m []
  | cons (m : Nat) (z : List Int) (Z : List (List Int)) : Marked (m : Int) z → MarkedSS (m + z.length) Z → MarkedSS m (z :: Z)
theorem heldIntS_l0 (m : Int) (z : List Int) (h0 : 0 ≤ m) (hm : m + z.length < 4611686018427387904) (hz : Marked m z) : ∀ (d i : Nat), i + d = z.length → Ev (fun k => laws_heldIntS.l0 k z (m + i) i) (m + z.length)
  | 0, i, hd => by
    refine Ev.one (fun k => ?_)
    rw [laws_heldIntS.l0, if_neg (by omega), show i = z.length by omega]
  | d + 1, i, hd => by
    refine Ev.step (fun k => ?_) (heldIntS_l0 m z h0 hm hz d (i + 1) (by omega))
    rw [laws_heldIntS.l0, if_pos (by omega), if_pos (by omega), if_pos (by exact hz i (by omega)), w1 (by omega), w64 (by omega) (by omega), show m + (i : Int) + 1 = m + ((i + 1 : Nat) : Int) by omega]
theorem heldIntS_ev (z : List Int) (m : Int) (h0 : 0 ≤ m) (hm : m + z.length < 4611686018427387904) (hz : Marked m z) : Ev (fun k => laws_heldIntS.f k z m) (m + z.length) := by
  unfold laws_heldIntS.f
  simpa using heldIntS_l0 m z h0 hm hz z.length 0 (by omega)

def sumLen : List (List Int) → Nat
  | [] => 0
  | x :: l => x.length + sumLen l
theorem heldSS_l0 (L : List (List Int)) (hb : L.length < 4611686018427387904) : ∀ (rest pre : List (List Int)) (m : Nat), L = pre ++ rest → MarkedSS m rest → m + sumLen rest < 4611686018427387904 → Ev (fun k => laws_heldIntSS.l0 k L (m : Int) (pre.length : Int)) ((m + sumLen rest : Nat) : Int)
  | [], pre, m, e, _, _ => by
    have e2 : L.length = pre.length := by rw [e]; simp
    refine Ev.one fun k => ?_
    rw [laws_heldIntSS.l0, if_neg (by omega)]; rfl
  | x :: rest, pre, m, e, hM, hs => by
    have e2 : L.length = pre.length + (rest.length + 1) := by rw [e]; simp
    have hx : rd_L6 L (pre.length : Int) = x := by rw [e]; exact rdL_mid pre rest x
    rw [sumLen] at hs
    cases hM with
    | cons _ _ _ hm hr =>
      have ih := heldSS_l0 L hb rest (pre ++ [x]) (m + x.length) (by rw [e]; simp) hr (by omega)
      rw [List.length_append, List.length_singleton] at ih
      have eN : (m : Int) + (x.length : Int) = ((m + x.length : Nat) : Int) := by omega
      have hh := heldIntS_ev x (m : Int) (by omega) (by omega) hm
      rw [eN] at hh
      refine Ev.step (f := fun k => (laws_heldIntS.f k x (m : Int)).bind fun t => if t < 0 then some (-1) else laws_heldIntSS.l0 k L t ((pre.length + 1 : Nat) : Int)) (fun k => ?_) (Ev.bind hh ?_)
      · rw [laws_heldIntSS.l0, if_pos (by omega), if_pos (by omega), hx, w1 (by omega)]
      · simp only [if_neg (show ¬ (((m + x.length : Nat) : Int) < 0) by omega)]
        rw [sumLen, ← Nat.add_assoc]; exact ih
theorem getD_set (l : List Int) (i j : Nat) (v : Int) (hi : i < l.length) : (l.set i v).getD j 0 = if i = j then v else l.getD j 0 := by
  rw [List.getD_eq_getElem?_getD, List.getElem?_set]
  by_cases h : i = j
  · subst h; simp [hi]
  · simp [h]
theorem markIntS_l0 (m : Int) (n : Nat) (h0 : 0 ≤ m) (hm : m + n < 4611686018427387904) : ∀ (d i : Nat) (y : List Int), i + d = n → y.length = n → (∀ j, j < i → y.getD j 0 = m + j) → ∃ z : List Int, z.length = n ∧ Marked m z ∧ Ev (fun k => laws_markIntS.l0 k y (m + i) i) (m + n, z)
  | 0, i, y, hd, hy, h => by
    refine ⟨y, hy, fun j hj => h j (by omega), Ev.one (fun k => ?_)⟩
    rw [laws_markIntS.l0, if_neg (by omega), show i = n by omega]
  | d + 1, i, y, hd, hy, h => by
    obtain ⟨z, hz, hj, hE⟩ := markIntS_l0 m n h0 hm d (i + 1) (y.set i (m + i)) (by omega) (by simpa using hy) (fun j hj => by
      rw [getD_set _ _ _ _ (by omega)]
      by_cases e : i = j
      · simp [e]
      · rw [if_neg e]; exact h j (by omega))
    refine ⟨z, hz, hj, Ev.step (fun k => ?_) hE⟩
    rw [laws_markIntS.l0, if_pos (by omega), if_pos (by omega), w1 (by omega), w64 (by omega) (by omega), show m + (i : Int) + 1 = m + ((i + 1 : Nat) : Int) by omega]
    rfl
theorem markIntS_ev (y : List Int) (m : Int) (h0 : 0 ≤ m) (hm : m + y.length < 4611686018427387904) : ∃ z : List Int, z.length = y.length ∧ Marked m z ∧ Ev (fun k => laws_markIntS.f k y m) (m + y.length, z) := by
  obtain ⟨z, hz, hj, hE⟩ := markIntS_l0 m y.length h0 hm y.length 0 y (by omega) rfl (fun j hj => absurd hj (Nat.not_lt_zero _))
  refine ⟨z, hz, hj, ?_⟩
  unfold laws_markIntS.f
  simpa using hE
theorem markSS_go : ∀ (L : List (List Int)) (m : Nat), m + sumLen L < 4611686018427387904 → ∃ Z : List (List Int), Z.length = L.length ∧ sumLen Z = sumLen L ∧ MarkedSS m Z ∧ Ev (fun k => laws_markIntSS.go k L (m : Int)) (((m + sumLen L : Nat) : Int), Z)
  | [], m, h => ⟨[], rfl, rfl, .nil m, Ev.now _⟩
  | x :: L, m, h => by
    rw [sumLen] at h
    obtain ⟨z, hz, hm, hE⟩ := markIntS_ev x (m : Int) (by omega) (by omega)
    obtain ⟨Z, h1, h2, h3, h4⟩ := markSS_go L (m + x.length) (by omega)
    refine ⟨z :: Z, by rw [List.length_cons, List.length_cons, h1], by rw [sumLen, sumLen, hz, h2], .cons m z Z hm (by rw [hz]; exact h3), ?_⟩
    unfold laws_markIntSS.go
    refine Ev.bind hE ?_
    have e : (m : Int) + (x.length : Int) = ((m + x.length : Nat) : Int) := by omega
    simp only [e]
    refine Ev.bind h4 ?_
    rw [sumLen, ← Nat.add_assoc]
    exact Ev.now _
theorem sumLen_le : ∀ (L : List (List Int)) (b : Nat), (∀ x ∈ L, x.length ≤ b) → sumLen L ≤ L.length * b
  | [], b, h => by simp [sumLen]
  | x :: l, b, h => by
    have h1 := h x (List.mem_cons_self ..)
    have h2 := sumLen_le l b (fun y hy => h y (List.mem_cons_of_mem _ hy))
    rw [sumLen, List.length_cons, Nat.succ_mul]; omega
theorem markIntSS_ev (L : List (List Int)) (h : smallSS L) : ∃ (Z : List (List Int)) (m : Int), 0 ≤ m ∧ Ev (fun k => laws_markIntSS.f k L 1) (m, Z) ∧ Ev (fun k => laws_heldIntSS.f k Z 1) m := by
  have hs := sumLen_le L 1000 h.2
  have hl := h.1
  have hs2 : sumLen L ≤ 100000000 := Nat.le_trans hs (by have := Nat.mul_le_mul_right 1000 hl; omega)
  obtain ⟨Z, h1, h2, h3, h4⟩ := markSS_go L 1 (by omega)
  refine ⟨Z, ((1 + sumLen L : Nat) : Int), by omega, ?_, ?_⟩
  · unfold laws_markIntSS.f
    simp only [if_pos (show L.length ≤ 1000000000 by omega)]
    exact h4
  · unfold laws_heldIntSS.f
    have := heldSS_l0 Z (by omega) Z [] 1 rfl h3 (by rw [h2]; omega)
    rw [h2] at this
    exact this

/-- The pairs bear the marks m, m+1, .. -/
def MarkedP (m : Int) (z : List S79) : Prop := ∀ j, j < z.length → z[j]? = some ⟨m + 2 * j, m + 2 * j + 1⟩
theorem getD_of_get {α : Type} (l : List α) (i : Nat) (d x : α) (h : l[i]? = some x) : l.getD i d = x := by rw [List.getD_eq_getElem?_getD, h]; rfl
theorem rdT_set (y : List S79) (i : Nat) (v : S79) (h : i < y.length) : rd_T79 (y.set i v) (i : Int) = v := getD_of_get _ i _ _ (by rw [List.getElem?_set]; simp [h])
theorem markPairS_l0 (m : Int) (n : Nat) (h0 : 0 ≤ m) (hm : m + 2 * n < 4611686018427387904) : ∀ (d i : Nat) (y : List S79), i + d = n → y.length = n → (∀ j, j < i → y[j]? = some ⟨m + 2 * j, m + 2 * j + 1⟩) → ∃ z : List S79, z.length = n ∧ MarkedP m z ∧ Ev (fun k => laws_markPairS.l0 k y (m + 2 * i) i) (m + 2 * n, z)
  | 0, i, y, hd, hy, h => by
    refine ⟨y, hy, fun j hj => h j (by omega), Ev.one (fun k => ?_)⟩
    rw [laws_markPairS.l0, if_neg (by omega), show i = n by omega]
  | d + 1, i, y, hd, hy, h => by
    have hi : i < y.length := by omega
    obtain ⟨z, hz, hj, hE⟩ := markPairS_l0 m n h0 hm d (i + 1) (y.set i ⟨m + 2 * i, m + 2 * i + 1⟩) (by omega) (by simpa using hy) (fun j hj => by
      rw [List.getElem?_set]
      by_cases e : i = j
      · subst e; simp [hi]
      · rw [if_neg e]; exact h j (by omega))
    refine ⟨z, hz, hj, Ev.step (fun k => ?_) hE⟩
    rw [laws_markPairS.l0, if_pos (by omega), if_pos (by omega)]
    simp only [Option.bind_some, Int.toNat_natCast]
    rw [rdT_set _ _ _ (by omega), List.set_set, w1 (by omega), w64 (i := m + 2 * (i : Int) + 1) (by omega) (by omega), w64 (by omega) (by omega), show m + 2 * (i : Int) + 1 + 1 = m + 2 * ((i + 1 : Nat) : Int) by omega]
theorem markParty_ev (a : Int) (y : List S79) (m : Int) (h0 : 0 ≤ m) (hm : m + 2 * y.length < 4611686018427387904) : ∃ z : List S79, z.length = y.length ∧ MarkedP m z ∧ Ev (fun k => laws_markParty.f k a y m) (m + 2 * y.length, z) := by
  obtain ⟨z, hz, hj, hE⟩ := markPairS_l0 m y.length h0 hm y.length 0 y (by omega) rfl (fun j hj => absurd hj (Nat.not_lt_zero _))
  refine ⟨z, hz, hj, ?_⟩
  unfold laws_markParty.f laws_markPairS.f
  have hE' : Ev (fun k => laws_markPairS.l0 k y m 0) (m + 2 * y.length, z) := by simpa using hE
  exact Ev.bind hE' (Ev.now _)
theorem szParty_f (a0 : Int) (l : List S81) (a1 : Int) (h0 : 0 ≤ a1) (h1 : a1 ≤ 1048576) (hl : l.length ≤ maxLen) : laws_szParty.f a0 l a1 = some (if a1 - l.length < 0 then -1 else a1 - l.length) := by
  unfold maxLen at hl
  unfold laws_szParty.f laws_szPairS.f
  rw [w64 (by omega) (by omega)]
  by_cases h : a1 - l.length < 0
  · simp [h]
  · simp [h]
theorem toPairS_l0 (l : List S81) (hl : l.length < 4611686018427387904) : ∀ (d i : Nat) (y : List S79), i + d = l.length → y.length = l.length → (∀ j, j < i → y[j]? = (conv l)[j]?) → Ev (fun k => laws_toPairS.l0 k l y i) (conv l)
  | 0, i, y, hd, hy, h => by
    refine Ev.one (fun k => ?_)
    have e : y = conv l := by
      apply List.ext_getElem?
      intro j
      by_cases hj : j < i
      · exact h j hj
      · rw [List.getElem?_eq_none (by omega), List.getElem?_eq_none (by rw [conv_len]; omega)]
    rw [laws_toPairS.l0, if_neg (by omega), e]
  | d + 1, i, y, hd, hy, h => by
    have hi : i < l.length := by omega
    have hx : rd_T81 l (i : Int) = l[i] := getD_of_get l i _ _ (List.getElem?_eq_getElem hi)
    refine Ev.step (fun k => ?_) (toPairS_l0 l hl d (i + 1) (y.set i ⟨l[i].f0, l[i].f1⟩) (by omega) (by simpa using hy) ?_)
    · rw [laws_toPairS.l0, if_pos (by omega), if_pos (by omega), hx, laws_toPair.f]
      simp only [Option.bind_some]
      rw [if_pos (by omega), w1 (by omega)]
      rfl
    · intro j hj
      rw [List.getElem?_set]
      by_cases e : i = j
      · subst e
        have hiy : i < y.length := by omega
        simp [conv, hi, hiy]
      · rw [if_neg e]; exact h j (by omega)
theorem toPairS_ev (l : List S81) (hl : l.length ≤ 17592186044416) : Ev (fun k => laws_toPairS.f k l) (conv l) := by
  unfold laws_toPairS.f
  simp only [if_pos (show (0 : Int) ≤ (l.length : Int) by omega), if_pos (show ((l.length : Int) : Int).toNat ≤ 17592186044416 by simpa using hl)]
  exact toPairS_l0 l (by omega) l.length 0 _ (by omega) (by simp) (fun j hj => absurd hj (Nat.not_lt_zero _))
theorem toParty_ev (a : Int) (l : List S81) (hl : l.length ≤ 17592186044416) : Ev (fun k => laws_toParty.f k a l) (a, conv l) := by
  unfold laws_toParty.f
  exact Ev.bind (toPairS_ev l hl) (Ev.now _)
theorem FnExactGroupsOfParty : ∀ (a0 : Int) (l0 : List S81), (Lit.int .i64 a0).wf = true → l0.length ≤ maxLen → (∀ x ∈ l0, ∃ m n : Int, x = ⟨m, n⟩ ∧ (Lit.int .i64 m).wf = true ∧ (Lit.int .i64 n).wf = true) → ∃ k, laws_FnExactGroupsOfParty.f k a0 l0 = some true := by
  intro a0 l0 w0 hm0 hw0
  refine Ev.rounds ?_
  unfold laws_FnExactGroupsOfParty.f
  simp only [szParty_f a0 l0 1048576 (by omega) (by omega) hm0, Option.bind_some]
  by_cases hg0 : 1048576 - (l0.length : Int) < 0
  · simp only [if_pos hg0, show ((-1 : Int) < 0) from by decide, if_true]; exact Ev.now _
  simp only [if_neg hg0]
  have hlen0 : l0.length ≤ 1048576 := by omega
  have hcl0 := conv_len l0
  obtain ⟨R, hs, hi, hr0⟩ := GroupsOfParty_common a0 (conv l0) w0 (by rw [conv_len]; omega)
  obtain ⟨zk1, hzk1, _, hEk1⟩ := markParty_ev a0 (conv l0) (1 : Int) (by omega) (by omega)
  obtain ⟨Z, m, hm, hEm, hEh⟩ := markIntSS_ev R.1 hr0
  refine Ev.bind (toParty_ev a0 l0 (by omega)) ?_
  refine Ev.bind hs ?_
  refine Ev.bind hi ?_
  refine Ev.bind (eqIntSS_self R.1 hr0) ?_
  refine Ev.bind (eqParty_self a0 (conv l0) (by omega)) ?_
  refine Ev.bind hEk1 ?_
  refine Ev.bind hEm ?_
  refine Ev.bind hEh ?_
  have h1 : (0 : Int) ≤ 1 + 2 * ((conv l0).length : Int) := by omega
  simp only [h1, hm, true_and, and_self, if_true]
  exact Ev.now _
end Go.Proofs.Ytifkaefccghgdaa.Pure
