/- The program's AreSame returns what the reference's returns, for all arguments (the plain statement behind the printed walk); no condition. -/
import Derived.Lib.TrailingZeros
import Derived.Test.YtoedkkoafidalaaPx0
import Derived.Test.YtoedkkoafidalaaPx10
import Derived.Test.YtoedkkoafidalaaPx2
import Derived.Test.YtoedkkoafidalaaPx3
import Derived.Test.YtoedkkoafidalaaPx4
import Derived.Test.YtoedkkoafidalaaPx6
import Derived.Test.YtoedkkoafidalaaPx7
import Derived.Test.YtoedkkoafidalaaPx8
namespace Go.Proofs.Ytoedkkoafidalaa.Pure
open Go.RowKit Go.Proofs.Ytoedkkoafidalaa.P Go.Proofs.YtoedkkoafidalaaW.PrintWords Go.Proofs.YtoedkkoafidalaaW.PrintLast
set_option linter.unusedSimpArgs false
set_option linter.unusedVariables false
instance decPair : DecidableEq S70 := fun x y => if h : x.f0 = y.f0 ∧ x.f1 = y.f1 then isTrue (by cases x; cases y; simp_all) else isFalse (fun e => h (by rw [e]; exact ⟨rfl, rfl⟩))
theorem Ev.cast {α : Type} {g : Nat → Option α} {a b : α} (h : Ev g a) (e : a = b) : Ev g b := e ▸ h
theorem Ev.one {α : Type} {g : Nat → Option α} {r : α} (h : ∀ k, g (k + 1) = some r) : Ev g r := Ev.step h (Ev.now r)
def crowd (n : Int) : Bool := decide (0 ≤ n ∧ n ≤ 12)
def lt2 (p q : S70) : Bool := decide (p.f0 < q.f0) || (decide (p.f0 = q.f0) && decide (p.f1 < q.f1))
def okPrev : Option S70 → S70 → Bool
  | none, _ => true
  | some p, x => lt2 p x
def okFrom (n : Int) : Option S70 → List S70 → Bool
  | _, [] => true
  | prev, x :: xs => (decide (0 ≤ x.f0) && (decide (x.f0 < x.f1) && (decide (x.f1 < n) && okPrev prev x))) && okFrom n (some x) xs
def good (n : Int) (l : List S70) : Bool := crowd n && okFrom n none l
theorem within_f (a lo hi : Int) : impl_within.f a lo hi = some (decide (lo ≤ a) && decide (a ≤ hi)) := by
  unfold impl_within.f
  by_cases h : lo ≤ a
  · rw [if_pos h]; simp [h]
  · rw [if_neg h]; simp [h]
theorem areCrowd_f (a : Int) : impl_areCrowd.f a = some (decide (0 ≤ a ∧ a ≤ 12)) := by
  unfold impl_areCrowd.f
  rw [within_f]; simp [Bool.decide_and]
def cmp3 (a b : Int) : Int := if a < b then -1 else if a > b then 1 else 0
def cmpP (p q : S70) : Int := if cmp3 p.f0 q.f0 = 0 then cmp3 p.f1 q.f1 else cmp3 p.f0 q.f0
theorem cmpP_neg (p q : S70) : decide (cmpP p q ≥ 0) = !lt2 p q := by
  unfold cmpP cmp3 lt2
  by_cases h1 : p.f0 < q.f0
  · simp [h1]
  · by_cases h2 : p.f0 > q.f0
    · have h3 : ¬ p.f0 = q.f0 := by omega
      simp [h1, h2, h3]
    · have h3 : p.f0 = q.f0 := by omega
      by_cases h4 : p.f1 < q.f1
      · simp [h3, h4]
      · by_cases h5 : p.f1 > q.f1
        · simp [h3, h4, h5]
        · simp [h3, h4, h5]
theorem cmpOr_ev (a b : Int) : Ev (fun k => cmp_Or_int.f k [a, b]) (if a = 0 then b else a) := by
  refine ⟨3, fun k hk => ?_⟩
  obtain ⟨k, rfl⟩ : ∃ m, k = m + 3 := ⟨k - 3, by omega⟩
  have e1 : wrap64 (0 + 1) = 1 := by unfold wrap64; omega
  have e2 : wrap64 (1 + 1) = 2 := by unfold wrap64; omega
  have r0 : rd [a, b] 0 = a := rfl
  have r1 : rd [a, b] 1 = b := rfl
  simp only [cmp_Or_int.f, cmp_Or_int.l0, List.length_cons, List.length_nil, r0, r1, e1, e2]
  by_cases h : a = 0
  · by_cases h2 : b = 0
    · simp [h, h2]
    · simp [h, h2]
  · simp [h]
theorem compare_f (a b : Int) : cmp_Compare_int.f a b = some (cmp3 a b) := by
  unfold cmp_Compare_int.f cmp_isNaN_int.f cmp3
  simp
  by_cases h : a < b
  · simp [h]
  · by_cases h2 : a > b
    · simp [h, h2]
    · simp [h, h2]
theorem comparePairs_ev (p q : S70) : Ev (fun k => impl_comparePairs.f k p.f0 p.f1 q.f0 q.f1) (cmpP p q) := by
  unfold impl_comparePairs.f
  simp only [compare_f, Option.bind_some]
  exact Ev.bind (cmpOr_ev _ _) (Ev.now _)
theorem rdT_mid (pre rest : List S70) (x : S70) : rd_T70 (pre ++ x :: rest) (pre.length : Int) = x := by
  unfold rd_T70
  simp [List.getD_eq_getElem?_getD]
theorem w1 {n : Nat} (h : n < 4611686018427387904) : wrap64 ((n : Int) + 1) = ((n + 1 : Nat) : Int) := by unfold wrap64; omega
theorem w64 {i : Int} (h0 : -9223372036854775808 ≤ i) (h : i ≤ 9223372036854775807) : wrap64 i = i := by unfold wrap64; omega
theorem implIsParty_l0 (n : Int) (l : List S70) (hl : l.length < 4611686018427387904) : ∀ (rest pre : List S70), l = pre ++ rest → Ev (fun k => impl_IsParty.l0 k l (l.length : Int) (pre.length : Int) n l) (okFrom n pre.getLast? rest && crowd n)
  | [], pre, h => by
    refine Ev.one (fun k => ?_)
    have e : l.length = pre.length := by rw [h]; simp
    rw [impl_IsParty.l0, if_neg (by omega), areCrowd_f]
    simp [okFrom, crowd]
  | x :: rest, pre, h => by
    have hlen : pre.length < l.length := by rw [h]; simp
    have hx : rd_T70 l (pre.length : Int) = x := by rw [h]; exact rdT_mid pre rest x
    have ih := implIsParty_l0 n l hl rest (pre ++ [x]) (by rw [h]; simp)
    rw [List.getLast?_concat, List.length_append, List.length_singleton] at ih
    by_cases c1 : x.f0 < 0
    · refine Ev.one (fun k => ?_)
      rw [impl_IsParty.l0, if_pos (by omega), if_pos (by omega), if_pos (by omega), hx, if_pos c1]
      have : decide (0 ≤ x.f0) = false := by simp; omega
      simp [okFrom, this]
    by_cases c2 : x.f0 ≥ x.f1
    · refine Ev.one (fun k => ?_)
      rw [impl_IsParty.l0, if_pos (by omega), if_pos (by omega), if_pos (by omega), hx, if_neg c1, if_pos c2]
      have : decide (x.f0 < x.f1) = false := by simp; omega
      simp [okFrom, this]
    by_cases c3 : x.f1 ≥ n
    · refine Ev.one (fun k => ?_)
      rw [impl_IsParty.l0, if_pos (by omega), if_pos (by omega), if_pos (by omega), hx, if_neg c1, if_neg c2, if_pos c3]
      have : decide (x.f1 < n) = false := by simp; omega
      simp [okFrom, this]
    have d1 : decide (0 ≤ x.f0) = true := by simp; omega
    have d2 : decide (x.f0 < x.f1) = true := by simp; omega
    have d3 : decide (x.f1 < n) = true := by simp; omega
    rcases List.eq_nil_or_concat pre with rfl | ⟨q, p, rfl⟩
    · refine Ev.cast (Ev.step (fun k => ?_) ih) ?_
      · rw [impl_IsParty.l0, if_pos (by omega), if_pos (by omega), if_pos (by omega), hx, if_neg c1, if_neg c2, if_neg c3, if_neg (by simp), w1 (by simp)]
      · simp [okFrom, d1, d2, d3, okPrev]
    · rw [List.concat_eq_append] at hlen hx ih h ⊢
      have hp : rd_T70 l (q.length : Int) = p := by rw [h, List.append_assoc]; exact rdT_mid q (x :: rest) p
      have hq : (q ++ [p]).length = q.length + 1 := by simp
      rw [hq] at hlen hx ih ⊢
      refine Ev.step (f := fun k => (impl_comparePairs.f k p.f0 p.f1 x.f0 x.f1).bind fun t => if t ≥ 0 then some false else impl_IsParty.l0 k l (l.length : Int) ((q.length + 1 + 1 : Nat) : Int) n l) (fun k => ?_) (Ev.bind (comparePairs_ev p x) ?_)
      · rw [impl_IsParty.l0, if_pos (by omega), if_pos (by omega), if_pos (by omega), hx, if_neg c1, if_neg c2, if_neg c3, if_pos (by omega), w64 (i := ((q.length + 1 : Nat) : Int) - 1) (by omega) (by omega), show ((q.length + 1 : Nat) : Int) - 1 = (q.length : Int) by omega, if_pos (by omega), if_pos (by omega), hp, w1 (by omega)]
      · have hc := cmpP_neg p x
        rw [List.getLast?_concat]
        by_cases hlt : lt2 p x = true
        · have c4 : ¬ cmpP p x ≥ 0 := by rw [hlt] at hc; simpa using hc
          simp only [if_neg c4]
          refine Ev.cast ih ?_
          simp [okFrom, d1, d2, d3, okPrev, hlt]
        · have hlt' : lt2 p x = false := by simpa using hlt
          have c4 : cmpP p x ≥ 0 := by rw [hlt'] at hc; simpa using hc
          simp only [if_pos c4]
          refine Ev.cast (Ev.now _) ?_
          simp [okFrom, okPrev, hlt']
theorem implIsParty_ev (n : Int) (l : List S70) (hl : l.length < 4611686018427387904) : Ev (fun k => impl_IsParty.f k n l) (good n l) := by
  unfold impl_IsParty.f
  have := implIsParty_l0 n l hl l [] rfl
  rw [Bool.and_comm] at this
  exact this
theorem areRenamed_ev (n : Int) (l : List S70) (hl : l.length < 4611686018427387904) : Ev (fun k => impl_areRenamed.f k n l) (good n l && decide (n ≤ 7)) := by
  unfold impl_areRenamed.f
  refine Ev.bind (implIsParty_ev n l hl) ?_
  cases good n l with
  | true => simp only [if_true, Bool.true_and]; exact Ev.now _
  | false => simp only [Bool.false_eq_true, if_false, Bool.false_and]; exact Ev.now _
theorem cmp2_zero (x y : S70) : cmp2 x.f0 x.f1 y.f0 y.f1 = 0 ↔ x = y := by
  obtain ⟨a, b⟩ := x
  obtain ⟨c, d⟩ := y
  rw [S70.mk.injEq]
  unfold cmp2
  dsimp only
  by_cases h1 : a < c
  · rw [if_pos h1]; exact ⟨fun h => absurd h (by decide), fun h => by omega⟩
  · rw [if_neg h1]
    by_cases h2 : c < a
    · rw [if_pos h2]; exact ⟨fun h => absurd h (by decide), fun h => by omega⟩
    · rw [if_neg h2]
      by_cases h3 : b < d
      · rw [if_pos h3]; exact ⟨fun h => absurd h (by decide), fun h => by omega⟩
      · rw [if_neg h3]
        by_cases h4 : d < b
        · rw [if_pos h4]; exact ⟨fun h => absurd h (by decide), fun h => by omega⟩
        · rw [if_neg h4]; exact ⟨fun _ => by omega, fun _ => rfl⟩
theorem cmpT_zero : ∀ a b : List S70, cmpT a b = 0 ↔ a = b
  | [], [] => by simp [cmpT]
  | [], _ :: _ => by simp [cmpT]
  | _ :: _, [] => by simp [cmpT]
  | x :: a, y :: b => by
    rw [cmpT]
    by_cases e : x = y
    · rw [if_pos ((cmp2_zero x y).2 e), cmpT_zero a b, e]; simp
    · rw [if_neg (fun h => e ((cmp2_zero x y).1 h))]
      exact ⟨fun h => absurd ((cmp2_zero x y).1 h) e, fun h => absurd (List.cons.inj h).1 e⟩
theorem compareParties_ev (n1 n2 : Int) (a b : List S70) (ha : a.length ≤ 1048576) : Ev (fun k => impl_compareParties.f k n1 a n2 b) (cmpT a b) := by
  refine ⟨4, fun k hk => ?_⟩
  obtain ⟨j, rfl⟩ : ∃ j, k = j + 4 := ⟨k - 4, by omega⟩
  unfold impl_compareParties.f
  dsimp only
  rw [if_pos (by omega), cmpL_eq]
def natPairs (m : Nat) (l : List S70) : Prop := ∀ x ∈ l, ∃ a b : Nat, x = ⟨(a : Int), (b : Int)⟩ ∧ a < b ∧ b < m
theorem okFrom_nat (m : Nat) : ∀ (l : List S70) (p : Option S70), okFrom (m : Int) p l = true → natPairs m l
  | [], _, _ => fun x hx => by simp at hx
  | x :: xs, p, h => by
    simp only [okFrom, Bool.and_eq_true, decide_eq_true_eq] at h
    obtain ⟨⟨h0, h1, h2, _⟩, h3⟩ := h
    intro y hy
    rcases List.mem_cons.1 hy with rfl | hy
    · refine ⟨y.f0.toNat, y.f1.toNat, ?_, by omega, by omega⟩
      rw [Int.toNat_of_nonneg h0, Int.toNat_of_nonneg (by omega)]
    · exact okFrom_nat m xs _ h3 y hy
theorem good_nat {n : Int} {l : List S70} (h : good n l = true) : ∃ m : Nat, n = (m : Int) ∧ m ≤ 12 ∧ natPairs m l ∧ okFrom (m : Int) none l = true := by
  unfold good crowd at h
  simp only [Bool.and_eq_true, decide_eq_true_eq] at h
  obtain ⟨⟨h0, h1⟩, h2⟩ := h
  obtain ⟨m, rfl⟩ := Int.eq_ofNat_of_zero_le h0
  exact ⟨m, rfl, by omega, okFrom_nat m l none h2, h2⟩
theorem iSame_no (a0 : Int) (l0 : List S70) (a1 : Int) (l1 : List S70) : Ev (fun k => impl_AreSame.j0 k true a0 l0 a1 l1) (false, false) := Ev.one fun k => by rw [impl_AreSame.j0, if_pos rfl]
abbrev Rel := Nat → Nat → Bool
def hasP (l : List S70) : Rel := fun a b => l.any fun x => (x.f0 == (a : Int) && x.f1 == (b : Int)) || (x.f0 == (b : Int) && x.f1 == (a : Int))
/-! ### pairs listed -/
def rowFrom (r : Rel) (a : Nat) : Nat → Nat → List S70
  | _, 0 => []
  | b, d + 1 => (if r a b then [⟨(a : Int), (b : Int)⟩] else []) ++ rowFrom r a (b + 1) d
def pairsFrom (r : Rel) (m : Nat) : Nat → Nat → List S70
  | _, 0 => []
  | a, d + 1 => rowFrom r a (a + 1) (m - (a + 1)) ++ pairsFrom r m (a + 1) d
def pairsOf (m : Nat) (r : Rel) : List S70 := pairsFrom r m 0 m
def nm (q : List Int) (i : Nat) : Nat := (rd q (i : Int)).toNat
def renP (q : List Int) (l : List S70) : List S70 := l.map fun x => ⟨(nm q x.f0.toNat : Int), (nm q x.f1.toNat : Int)⟩
def actP (m : Nat) (l : List S70) (q : List Int) : List S70 := pairsOf m (hasP (renP q l))
def ltL : List S70 → List S70 → Bool
  | [], [] => false
  | [], _ :: _ => true
  | _ :: _, [] => false
  | x :: a, y :: b => if x = y then ltL a b else lt2 x y
def cstep (act : List Int → List S70) (s : List S70 × Nat) (q : List Int) : List S70 × Nat := if ltL (act q) s.1 = true then (act q, 1) else if act q = s.1 then (s.1, s.2 + 1) else s
def leastC (m : Nat) (l : List S70) : List S70 × Nat := (rns m m []).foldl (cstep (actP m l)) (l, 0)
def lstep (act : List Int → List S70) (b : List S70) (q : List Int) : List S70 := if ltL (act q) b = true then act q else b
theorem cstep_fst (act : List Int → List S70) : ∀ (L : List (List Int)) (s : List S70 × Nat), (L.foldl (cstep act) s).1 = L.foldl (lstep act) s.1
  | [], _ => rfl
  | q :: L, s => by
    rw [List.foldl_cons, List.foldl_cons, cstep_fst act L]
    congr 1
    unfold cstep lstep
    split
    · rfl
    · split <;> rfl
theorem lstep_in (act : List Int → List S70) : ∀ (L : List (List Int)) (b : List S70), L.foldl (lstep act) b = b ∨ ∃ q ∈ L, L.foldl (lstep act) b = act q
  | [], b => .inl rfl
  | q :: L, b => by
    rw [List.foldl_cons]
    rcases lstep_in act L (lstep act b q) with h | ⟨x, hx, h⟩
    · rw [h]
      unfold lstep
      split
      · exact .inr ⟨q, List.mem_cons_self .., rfl⟩
      · exact .inl rfl
    · exact .inr ⟨x, List.mem_cons_of_mem _ hx, h⟩

theorem mem_rowFrom (r : Rel) (a : Nat) (p : S70) : ∀ (d b : Nat), p ∈ rowFrom r a b d ↔ ∃ y : Nat, b ≤ y ∧ y < b + d ∧ r a y = true ∧ p = ⟨(a : Int), (y : Int)⟩
  | 0, b => by simp only [rowFrom, List.not_mem_nil, false_iff]; rintro ⟨y, h1, h2, _⟩; omega
  | d + 1, b => by
    rw [rowFrom, List.mem_append, mem_rowFrom r a p d (b + 1)]
    constructor
    · rintro (h | ⟨y, h1, h2, h3, h4⟩)
      · split at h
        · next hr => rw [List.mem_singleton] at h; exact ⟨b, Nat.le_refl _, by omega, hr, h⟩
        · simp at h
      · exact ⟨y, by omega, by omega, h3, h4⟩
    · rintro ⟨y, h1, h2, h3, h4⟩
      by_cases e : y = b
      · subst e; left; rw [h3, if_pos rfl]; simp [h4]
      · right; exact ⟨y, by omega, by omega, h3, h4⟩
theorem mem_pairsFrom (r : Rel) (m : Nat) (p : S70) : ∀ (d a : Nat), p ∈ pairsFrom r m a d ↔ ∃ x y : Nat, a ≤ x ∧ x < a + d ∧ x < y ∧ y < m ∧ r x y = true ∧ p = ⟨(x : Int), (y : Int)⟩
  | 0, a => by simp only [pairsFrom, List.not_mem_nil, false_iff]; rintro ⟨x, y, h1, h2, _⟩; omega
  | d + 1, a => by
    rw [pairsFrom, List.mem_append, mem_rowFrom, mem_pairsFrom r m p d (a + 1)]
    constructor
    · rintro (⟨y, h1, h2, h3, h4⟩ | ⟨x, y, h1, h2, h3, h4, h5, h6⟩)
      · exact ⟨a, y, Nat.le_refl _, by omega, by omega, by omega, h3, h4⟩
      · exact ⟨x, y, by omega, by omega, h3, h4, h5, h6⟩
    · rintro ⟨x, y, h1, h2, h3, h4, h5, h6⟩
      by_cases e : x = a
      · subst e; left; exact ⟨y, by omega, by omega, h5, h6⟩
      · right; exact ⟨x, y, by omega, by omega, h3, h4, h5, h6⟩
theorem lt2_trans {p q x : S70} (h1 : lt2 p q = true) (h2 : lt2 q x = true) : lt2 p x = true := by
  unfold lt2 at *
  simp at *
  omega
theorem okFrom_all (n : Int) : ∀ (l : List S70) (p : S70), okFrom n (some p) l = true → ∀ y ∈ l, lt2 p y = true
  | [], _, _ => fun y hy => by simp at hy
  | x :: xs, p, h => by
    simp only [okFrom, okPrev, Bool.and_eq_true] at h
    obtain ⟨⟨_, _, _, hlt⟩, h3⟩ := h
    intro y hy
    rcases List.mem_cons.1 hy with rfl | hy
    · exact hlt
    · exact lt2_trans hlt (okFrom_all n xs x h3 y hy)
theorem okFrom_pair (n : Int) : ∀ (l : List S70) (p : Option S70), okFrom n p l = true → l.Pairwise (fun x y => lt2 x y = true)
  | [], _, _ => List.Pairwise.nil
  | x :: l, p, h => by
    have h2 : okFrom n (some x) l = true := by
      simp only [okFrom, Bool.and_eq_true] at h
      exact h.2
    exact List.pairwise_cons.2 ⟨okFrom_all n l x h2, okFrom_pair n l (some x) h2⟩
theorem eq_of_sorted {α : Type} (lt : α → α → Bool) (hi : ∀ x, lt x x = false) (ht : ∀ {x y z}, lt x y = true → lt y z = true → lt x z = true) : ∀ (l1 l2 : List α), l1.Pairwise (fun x y => lt x y = true) → l2.Pairwise (fun x y => lt x y = true) → (∀ x, x ∈ l1 ↔ x ∈ l2) → l1 = l2
  | [], [], _, _, _ => rfl
  | [], y :: l2, _, _, h => by have := (h y).2 (List.mem_cons_self ..); cases this
  | x :: l1, [], _, _, h => by have := (h x).1 (List.mem_cons_self ..); cases this
  | x :: l1, y :: l2, h1, h2, h => by
    obtain ⟨h1a, h1b⟩ := List.pairwise_cons.1 h1
    obtain ⟨h2a, h2b⟩ := List.pairwise_cons.1 h2
    have asym : ∀ a b, lt a b = true → lt b a = true → False := fun a b p q => by
      have := ht p q
      rw [hi] at this; cases this
    have e : x = y := by
      rcases List.mem_cons.1 ((h x).1 (List.mem_cons_self ..)) with e | hx
      · exact e
      · rcases List.mem_cons.1 ((h y).2 (List.mem_cons_self ..)) with e | hy
        · exact e.symm
        · exact (asym x y (h1a y hy) (h2a x hx)).elim
    subst e
    congr 1
    refine eq_of_sorted lt hi ht l1 l2 h1b h2b fun z => ?_
    constructor
    · intro hz
      rcases List.mem_cons.1 ((h z).1 (List.mem_cons_of_mem _ hz)) with e | hz2
      · subst e
        have := h1a z hz
        rw [hi] at this; cases this
      · exact hz2
    · intro hz
      rcases List.mem_cons.1 ((h z).2 (List.mem_cons_of_mem _ hz)) with e | hz2
      · subst e
        have := h2a z hz
        rw [hi] at this; cases this
      · exact hz2

theorem hasP_mem (m : Nat) (l : List S70) (hn : natPairs m l) (a b : Nat) (hab : a < b) : hasP l a b = true ↔ (⟨(a : Int), (b : Int)⟩ : S70) ∈ l := by
  unfold hasP
  rw [List.any_eq_true]
  constructor
  · rintro ⟨x, hx, h⟩
    obtain ⟨i, j, rfl, hij, hj⟩ := hn x hx
    simp only [Bool.or_eq_true, Bool.and_eq_true, beq_iff_eq] at h
    rcases h with ⟨h1, h2⟩ | ⟨h1, h2⟩
    · have e1 : i = a := by omega
      have e2 : j = b := by omega
      subst e1 e2; exact hx
    · omega
  · intro h
    exact ⟨_, h, by simp⟩
theorem lt2_irrefl (p : S70) : lt2 p p = false := by unfold lt2; simp
theorem rowFrom_pair (r : Rel) (a : Nat) : ∀ (d b : Nat), (rowFrom r a b d).Pairwise (fun x y => lt2 x y = true)
  | 0, b => List.Pairwise.nil
  | d + 1, b => by
    have ih := rowFrom_pair r a d (b + 1)
    rw [rowFrom]
    split
    · refine List.pairwise_cons.2 ⟨fun y hy => ?_, ih⟩
      obtain ⟨z, h1, h2, _, rfl⟩ := (mem_rowFrom r a y d (b + 1)).1 hy
      unfold lt2
      simp only [Bool.or_eq_true, Bool.and_eq_true, decide_eq_true_eq]
      right
      exact ⟨trivial, by omega⟩
    · exact ih
theorem pairsFrom_pair (r : Rel) (m : Nat) : ∀ (d a : Nat), (pairsFrom r m a d).Pairwise (fun x y => lt2 x y = true)
  | 0, a => List.Pairwise.nil
  | d + 1, a => by
    rw [pairsFrom]
    refine List.pairwise_append.2 ⟨rowFrom_pair r a _ _, pairsFrom_pair r m d (a + 1), fun x hx y hy => ?_⟩
    obtain ⟨z, h1, h2, _, rfl⟩ := (mem_rowFrom r a x _ _).1 hx
    obtain ⟨u, v, h3, h4, h5, h6, _, rfl⟩ := (mem_pairsFrom r m y d (a + 1)).1 hy
    unfold lt2
    simp only [Bool.or_eq_true, Bool.and_eq_true, decide_eq_true_eq]
    left
    show (a : Int) < (u : Int)
    omega
theorem pairsOf_pair (m : Nat) (r : Rel) : (pairsOf m r).Pairwise (fun x y => lt2 x y = true) := pairsFrom_pair r m m 0
/-- A list in order, of pairs of people, is what its relation has. -/
theorem pairsOf_sorted (m : Nat) (l : List S70) (hn : natPairs m l) (hs : l.Pairwise (fun x y => lt2 x y = true)) : pairsOf m (hasP l) = l := by
  refine eq_of_sorted lt2 lt2_irrefl (fun h1 h2 => lt2_trans h1 h2) _ _ (pairsOf_pair m _) hs fun x => ?_
  unfold pairsOf
  rw [mem_pairsFrom]
  constructor
  · rintro ⟨a, b, _, _, h1, h2, h3, rfl⟩
    exact (hasP_mem m l hn a b h1).1 h3
  · intro hx
    obtain ⟨a, b, rfl, h1, h2⟩ := hn x hx
    exact ⟨a, b, by omega, by omega, h1, h2, (hasP_mem m l hn a b h1).2 hx, rfl⟩
theorem pairsOf_good (m : Nat) (l : List S70) (hn : natPairs m l) (ho : okFrom (m : Int) none l = true) : pairsOf m (hasP l) = l := pairsOf_sorted m l hn (okFrom_pair _ l none ho)

theorem leastC_good (m : Nat) (l : List S70) (hn : natPairs m l) (ho : okFrom (m : Int) none l = true) : natPairs m (leastC m l).1 ∧ pairsOf m (hasP (leastC m l).1) = (leastC m l).1 := by
  have h : (leastC m l).1 = l ∨ ∃ q ∈ rns m m [], (leastC m l).1 = actP m l q := by
    unfold leastC
    rw [cstep_fst]
    exact lstep_in (actP m l) _ l
  rcases h with h | ⟨q, _, h⟩
  · rw [h]; exact ⟨hn, pairsOf_good m l hn ho⟩
  · rw [h]
    have hp : natPairs m (actP m l q) := fun x hx => by
      obtain ⟨a, b, _, _, h3, h4, h5, rfl⟩ := (mem_pairsFrom _ m x m 0).1 hx
      exact ⟨a, b, rfl, h3, h4⟩
    exact ⟨hp, pairsOf_sorted m _ hp (pairsOf_pair m _)⟩
theorem rowFrom_len (r : Rel) (a : Nat) : ∀ (d b : Nat), (rowFrom r a b d).length ≤ d
  | 0, _ => Nat.le_refl _
  | d + 1, b => by
    have := rowFrom_len r a d (b + 1)
    rw [rowFrom, List.length_append]
    split <;> simp <;> omega
theorem pairsFrom_len (r : Rel) (m : Nat) (hm : m ≤ 12) : ∀ (d a : Nat), (pairsFrom r m a d).length ≤ 12 * d
  | 0, _ => Nat.le_refl _
  | d + 1, a => by
    have := pairsFrom_len r m hm d (a + 1)
    have := rowFrom_len r a (m - (a + 1)) (a + 1)
    rw [pairsFrom, List.length_append]; omega
theorem pairsOf_len (m : Nat) (hm : m ≤ 12) (r : Rel) : (pairsOf m r).length ≤ 144 := by
  have := pairsFrom_len r m hm m 0
  unfold pairsOf; omega
theorem leastC_len (m : Nat) (hm : m ≤ 12) (l : List S70) (hn : natPairs m l) (ho : okFrom (m : Int) none l = true) : (leastC m l).1.length ≤ 144 := by
  rw [← (leastC_good m l hn ho).2]
  exact pairsOf_len m hm _
theorem cmp2_lt (x y : S70) : (cmp2 x.f0 x.f1 y.f0 y.f1 < 0) ↔ lt2 x y = true := by
  unfold cmp2 lt2
  simp only [Bool.or_eq_true, Bool.and_eq_true, decide_eq_true_eq]
  by_cases h1 : x.f0 < y.f0
  · rw [if_pos h1]; exact ⟨fun _ => .inl h1, fun _ => by decide⟩
  · rw [if_neg h1]
    by_cases h2 : y.f0 < x.f0
    · rw [if_pos h2]; exact ⟨fun h => absurd h (by decide), fun h => by omega⟩
    · rw [if_neg h2]
      by_cases h3 : x.f1 < y.f1
      · rw [if_pos h3]; exact ⟨fun _ => .inr ⟨by omega, h3⟩, fun _ => by decide⟩
      · rw [if_neg h3]
        by_cases h4 : y.f1 < x.f1
        · rw [if_pos h4]; exact ⟨fun h => absurd h (by decide), fun h => by omega⟩
        · rw [if_neg h4]; exact ⟨fun h => absurd h (by decide), fun h => by omega⟩
theorem cmpT_lt : ∀ a b : List S70, (cmpT a b < 0) ↔ ltL a b = true
  | [], [] => by simp [cmpT, ltL]
  | [], _ :: _ => by simp [cmpT, ltL]
  | _ :: _, [] => by simp [cmpT, ltL]
  | x :: a, y :: b => by
    rw [cmpT, ltL]
    by_cases e : x = y
    · rw [if_pos ((cmp2_zero x y).2 e), if_pos e]; exact cmpT_lt a b
    · rw [if_neg (fun h => e ((cmp2_zero x y).1 h)), if_neg e]; exact cmp2_lt x y
theorem least_fold (m : Nat) (l : List S70) : ∀ (T : List (List Int)) (b : List S70), (T.map fun q => ((m : Int), actP m l q)).foldl (fun (s r : Int × List S70) => if cmpT r.2 s.2 < 0 then r else s) ((m : Int), b) = ((m : Int), T.foldl (lstep (actP m l)) b)
  | [], b => rfl
  | q :: T, b => by
    rw [List.map_cons, List.foldl_cons, List.foldl_cons]
    have : (if cmpT (actP m l q) b < 0 then ((m : Int), actP m l q) else ((m : Int), b)) = ((m : Int), lstep (actP m l) b q) := by
      unfold lstep
      by_cases h : ltL (actP m l q) b = true
      · rw [if_pos ((cmpT_lt _ _).2 h), if_pos h]
      · rw [if_neg (fun h2 => h ((cmpT_lt _ _).1 h2)), if_neg h]
    rw [this]
    exact least_fold m l T _
theorem mapO_ev {α β : Type} (g : Nat → α → Option β) (h : α → β) : ∀ xs : List α, (∀ x ∈ xs, Ev (fun k => g k x) (h x)) → Ev (fun k => mapO (g k) xs) (xs.map h)
  | [], _ => Ev.now _
  | x :: xs, hx => by
    simp only [mapO]
    refine Ev.bind (hx x (by simp)) ?_
    refine Ev.bind (mapO_ev g h xs (fun y hy => hx y (by simp [hy]))) ?_
    exact Ev.now _
theorem hasP_nil : hasP [] = fun _ _ => false := by funext x y; rfl
def chk : List Int → List Int → Bool
  | _, [] => true
  | pre, x :: rest => if pre.contains x then false else chk (pre ++ [x]) rest
def inAll (l : List Int) (lo hi : Int) : Bool := l.all fun n => decide (lo ≤ n) && decide (n ≤ hi)
def isPerm (m : Nat) (q : List Int) : Bool := decide (q.length = m) && (inAll q 0 ((m : Int) - 1) && chk [] q)
theorem chk_iff : ∀ (rest pre : List Int), pre.Nodup → (chk pre rest = true ↔ (pre ++ rest).Nodup)
  | [], pre, h => by simp [chk, h]
  | x :: rest, pre, h => by
    rw [chk]
    cases hc : pre.contains x with
    | true =>
      have hx : x ∈ pre := by simpa using hc
      simp only [if_true, Bool.false_eq_true, false_iff]
      intro hn
      have := (List.nodup_append.1 hn).2.2 x hx x (List.mem_cons_self ..)
      exact this rfl
    | false =>
      have hx : x ∉ pre := by simpa using hc
      have hp : (pre ++ [x]).Nodup := by
        rw [List.nodup_append]
        exact ⟨h, by simp, fun a ha b hb => by rw [List.mem_singleton.1 hb]; exact fun e => hx (e ▸ ha)⟩
      simp only [Bool.false_eq_true, if_false]
      rw [chk_iff rest (pre ++ [x]) hp, List.append_assoc]; rfl
theorem getD_get (l : List Int) (i : Nat) (h : i < l.length) : l.getD i 0 = l[i] := by simp [List.getD_eq_getElem?_getD, h]
theorem inAll_nat (m : Nat) (q : List Int) (h : inAll q 0 ((m : Int) - 1) = true) (i : Nat) (hi : i < q.length) : ∃ a : Nat, rd q (i : Int) = (a : Int) ∧ a < m := by
  have e : rd q (i : Int) = q[i] := getD_get q i hi
  have hb := List.all_eq_true.mp h q[i] (List.getElem_mem hi)
  simp only [Bool.and_eq_true, decide_eq_true_eq] at hb
  refine ⟨q[i].toNat, by rw [e]; omega, by omega⟩
def ints (l : List Nat) : List Int := l.map Int.ofNat
theorem ints_len (l : List Nat) : (ints l).length = l.length := by simp [ints]
theorem rng_lt (m : Nat) : (ints (List.range m)).Pairwise (· < ·) := by
  unfold ints
  rw [List.pairwise_map]
  exact List.pairwise_lt_range.imp fun h => by simpa using h
theorem strict_range : ∀ (l : List Int) (lo : Nat), l.Pairwise (· < ·) → (∀ x ∈ l, (lo : Int) ≤ x ∧ x < (lo : Int) + (l.length : Int)) → l = (List.range' lo l.length).map Int.ofNat
  | [], lo, _, _ => rfl
  | x :: l, lo, hp, hb => by
    rw [List.pairwise_cons] at hp
    have hx := hb x (List.mem_cons_self ..)
    rw [List.length_cons] at hx
    have ih := strict_range l (lo + 1) hp.2 (fun y hy => by
      have h1 := hp.1 y hy
      have h2 := hb y (List.mem_cons_of_mem _ hy)
      rw [List.length_cons] at h2
      omega)
    rw [List.length_cons, List.range'_succ, List.map_cons, ← ih]
    congr 1
    show x = (lo : Int)
    cases l with
    | nil => simp only [List.length_nil] at hx; omega
    | cons y l =>
      have h1 := hp.1 y (List.mem_cons_self ..)
      rw [List.length_cons, List.range'_succ, List.map_cons] at ih
      injection ih with ih1 _
      have : y = ((lo + 1 : Nat) : Int) := ih1
      omega
theorem sort_perm (m : Nat) (q : List Int) : ((q.mergeSort fun x y => decide (x ≤ y)) = ints (List.range m)) ↔ isPerm m q = true := by
  have hp := List.mergeSort_perm q (fun x y => decide (x ≤ y))
  have hs := List.pairwise_mergeSort (le := fun x y : Int => decide (x ≤ y)) (fun a b c h1 h2 => by rw [decide_eq_true_eq] at *; omega) (fun a b => by rw [Bool.or_eq_true, decide_eq_true_eq, decide_eq_true_eq]; omega) q
  unfold isPerm
  simp only [Bool.and_eq_true, decide_eq_true_eq]
  rw [chk_iff q [] List.nodup_nil, List.nil_append]
  constructor
  · intro h
    rw [h] at hp
    have hn : (ints (List.range m)).Nodup := (rng_lt m).imp fun h => by omega
    refine ⟨?_, ?_, hp.nodup_iff.1 hn⟩
    · rw [← hp.length_eq, ints_len, List.length_range]
    · unfold inAll
      rw [List.all_eq_true]
      intro x hx
      obtain ⟨i, hi, rfl⟩ := List.mem_map.1 (hp.mem_iff.2 hx)
      have := List.mem_range.1 hi
      simp only [Bool.and_eq_true, decide_eq_true_eq]
      exact ⟨Int.natCast_nonneg i, by show (i : Int) ≤ _; omega⟩
  · rintro ⟨h1, h2, h3⟩
    have hn := hp.nodup_iff.2 h3
    have hl := hp.length_eq
    have hlt : (q.mergeSort fun x y => decide (x ≤ y)).Pairwise (· < ·) := by
      refine (hs.and hn).imp fun h => ?_
      have := h.1
      rw [decide_eq_true_eq] at this
      have := h.2
      omega
    have := strict_range _ 0 hlt (fun x hx => by
      have := List.all_eq_true.1 h2 x (hp.mem_iff.1 hx)
      simp only [Bool.and_eq_true, decide_eq_true_eq] at this
      omega)
    rw [this, hl, h1, List.range_eq_range']; rfl
theorem isPerm_facts (m : Nat) (q : List Int) (h : isPerm m q = true) : q.length = m ∧ (∀ i, i < m → rd q (i : Int) = (nm q i : Int) ∧ nm q i < m) ∧ (∀ i j, i < m → j < m → nm q i = nm q j → i = j) ∧ (∀ x, x < m → ∃ i, i < m ∧ nm q i = x) := by
  have h0 := h
  unfold isPerm at h
  simp only [Bool.and_eq_true, decide_eq_true_eq] at h
  obtain ⟨h1, h2, h3⟩ := h
  rw [chk_iff q [] List.nodup_nil, List.nil_append] at h3
  have hb : ∀ i, i < m → rd q (i : Int) = (nm q i : Int) ∧ nm q i < m := fun i hi => by
    obtain ⟨a, ha, hm⟩ := inAll_nat m q h2 i (by omega)
    unfold nm
    rw [ha]
    exact ⟨by rw [Int.toNat_natCast], by rw [Int.toNat_natCast]; exact hm⟩
  refine ⟨h1, hb, fun i j hi hj he => ?_, fun x hx => ?_⟩
  · have ei : rd q (i : Int) = q[i]'(by omega) := getD_get q i (by omega)
    have ej : rd q (j : Int) = q[j]'(by omega) := getD_get q j (by omega)
    have : q[i]'(by omega) = q[j]'(by omega) := by rw [← ei, ← ej, (hb i hi).1, (hb j hj).1, he]
    have hp := List.pairwise_iff_getElem.1 h3
    rcases Nat.lt_trichotomy i j with h | h | h
    · exact absurd this (hp i j (by omega) (by omega) h)
    · exact h
    · exact absurd this.symm (hp j i (by omega) (by omega) h)
  · have hs := (sort_perm m q).2 h0
    have hp := List.mergeSort_perm q (fun x y => decide (x ≤ y))
    rw [hs] at hp
    have hx' : (x : Int) ∈ q := hp.mem_iff.1 (List.mem_map.2 ⟨x, List.mem_range.2 hx, rfl⟩)
    obtain ⟨i, hi, e⟩ := List.getElem_of_mem hx'
    have ei : rd q (i : Int) = q[i]'hi := getD_get q i hi
    refine ⟨i, by omega, ?_⟩
    unfold nm
    rw [ei, e, Int.toNat_natCast]
theorem wraps_u16 (n : Int) (h0 : 0 ≤ n) (h1 : n < 2 ^ 16) : IntKind.u16.wrap n = n := by
  simp [IntKind.wrap, IntKind.bits, IntKind.signed]; omega
theorem and16 (x y : Nat) (hx : x < 65536) (hy : y < 65536) : Go.bits .and .u16 (x : Int) (y : Int) = ((x &&& y : Nat) : Int) := (bits_nat .u16 16 (by decide) wraps_u16 x y hx hy).1
/-! ### tables of bits -/
def bitsOf : Nat → (Nat → Bool) → Nat
  | 0, _ => 0
  | m + 1, f => bitsOf m f + (f m).toNat * 2 ^ m
theorem bitsOf_lt : ∀ (m : Nat) (f : Nat → Bool), bitsOf m f < 2 ^ m
  | 0, _ => by simp [bitsOf]
  | m + 1, f => by
    have := bitsOf_lt m f
    have h2 : (f m).toNat * 2 ^ m ≤ 2 ^ m := by cases f m <;> simp
    rw [bitsOf, Nat.pow_succ]; omega
theorem bitsOf_u16 (m : Nat) (hm : m ≤ 12) (f : Nat → Bool) : bitsOf m f < 65536 :=
  Nat.lt_of_lt_of_le (bitsOf_lt m f) (Nat.le_trans (Nat.pow_le_pow_right (by decide) hm) (by decide))
def tab (m : Nat) (r : Rel) : List Int := (List.range m).map fun a => ((bitsOf m (r a) : Nat) : Int)
theorem map_range_getD {α : Type} (m : Nat) (f : Nat → α) (d : α) (a : Nat) (h : a < m) : ((List.range m).map f).getD a d = f a := by simp [List.getD_eq_getElem?_getD, h]
theorem tab_at (m : Nat) (r : Rel) (a : Nat) (h : a < m) : rd (tab m r) (a : Int) = ((bitsOf m (r a) : Nat) : Int) := map_range_getD m _ _ a h
theorem tab_len (m : Nat) (r : Rel) : (tab m r).length = m := by simp [tab]
theorem testBit_bitsOf : ∀ (m : Nat) (f : Nat → Bool) (i : Nat), (bitsOf m f).testBit i = (decide (i < m) && f i)
  | 0, f, i => by simp [bitsOf]
  | m + 1, f, i => by
    have ih := testBit_bitsOf m f
    by_cases hi : i < m
    · have h1 : i < m + 1 := by omega
      cases hf : f m with
      | false => simp [bitsOf, hf, ih i, hi, h1]
      | true => rw [bitsOf, hf, Bool.toNat_true, Nat.one_mul, Nat.add_comm, Nat.testBit_two_pow_add_gt hi, ih i]; simp [hi, h1]
    · by_cases e : i = m
      · subst e
        cases hf : f i with
        | false => simp [bitsOf, hf, ih i]
        | true => rw [bitsOf, hf, Bool.toNat_true, Nat.one_mul, Nat.add_comm, Nat.testBit_two_pow_add_eq, ih i]; simp
      · have h1 : ¬ i < m + 1 := by omega
        rw [Nat.testBit_lt_two_pow (Nat.lt_of_lt_of_le (bitsOf_lt (m + 1) f) (Nat.pow_le_pow_right (by decide) (by omega)))]
        simp [h1]
theorem has_f (m : Nat) (hm : m ≤ 12) (r : Rel) (a b : Nat) (ha : a < m) (hb : b < m) : impl_table_has.f (tab m r) (a : Int) (b : Int) = some (r a b) := by
  unfold impl_table_has.f
  rw [if_pos (by omega), if_pos (by rw [tab_len]; omega), if_pos (by omega), tab_at m r a ha]
  have hX := bitsOf_u16 m hm (r a)
  have hs : shr .u16 ((bitsOf m (r a) : Nat) : Int) (b : Int) = ((bitsOf m (r a) / 2 ^ b : Nat) : Int) := by
    unfold shr
    rw [Int.toNat_natCast, Nat.min_eq_left (show b ≤ IntKind.u16.bits from by show b ≤ 16; omega)]
    simp
  have hd : bitsOf m (r a) / 2 ^ b < 65536 := Nat.lt_of_le_of_lt (Nat.div_le_self _ _) hX
  have ht := testBit_bitsOf m (r a) b
  rw [Nat.testBit_eq_decide_div_mod_eq] at ht
  have e1 : Go.bits .and .u16 ((bitsOf m (r a) / 2 ^ b : Nat) : Int) 1 = ((bitsOf m (r a) / 2 ^ b % 2 : Nat) : Int) := by
    have := and16 (bitsOf m (r a) / 2 ^ b) 1 hd (by decide)
    rw [Nat.and_one_is_mod] at this
    exact this
  rw [hs, e1]
  simp only [hb, decide_true, Bool.true_and] at ht
  rw [← ht]
  congr 1
  by_cases h : bitsOf m (r a) / 2 ^ b % 2 = 1
  · simp [h]
  · have h0 : bitsOf m (r a) / 2 ^ b % 2 = 0 := by omega
    simp [h0]
theorem party_l1 (m : Nat) (hm : m ≤ 12) (r : Rel) (a : Nat) (ha : a < m) (n : Int) (R : Int × List S70) : ∀ (d b : Nat) (acc : List S70), b + d = m → acc.length ≤ 12 * a + b → Ev (fun k => impl_table_party.l0 k (tab m r) (m : Int) ((a + 1 : Nat) : Int) n (acc ++ rowFrom r a b d)) R → Ev (fun k => impl_table_party.l1 k (tab m r) (a : Int) (b : Int) (m : Int) (a : Int) n acc) R
  | 0, b, acc, hd, hacc, h => by
    refine Ev.step (fun k => ?_) h
    rw [impl_table_party.l1, tab_len, if_neg (by omega), w1 (by omega), rowFrom, List.append_nil]
  | d + 1, b, acc, hd, hacc, h => by
    have hb : b < m := by omega
    rw [rowFrom, ← List.append_assoc] at h
    cases hr : r a b with
    | true =>
      rw [hr, if_pos rfl] at h
      have ih := party_l1 m hm r a ha n R d (b + 1) (acc ++ [⟨(a : Int), (b : Int)⟩]) (by omega) (by simp; omega) h
      refine Ev.step (fun k => ?_) ih
      rw [impl_table_party.l1, tab_len, if_pos (by omega), has_f m hm r a b ha hb, hr]
      simp only [Option.bind_some, if_true]
      rw [if_pos (by omega), w1 (by omega)]
    | false =>
      rw [hr, if_neg (by decide), List.append_nil] at h
      have ih := party_l1 m hm r a ha n R d (b + 1) acc (by omega) (by omega) h
      refine Ev.step (fun k => ?_) ih
      rw [impl_table_party.l1, tab_len, if_pos (by omega), has_f m hm r a b ha hb, hr, w1 (by omega)]
      rfl
theorem party_l0 (m : Nat) (hm : m ≤ 12) (r : Rel) (n : Int) : ∀ (d a : Nat) (acc : List S70), a + d = m → acc.length ≤ 12 * a → Ev (fun k => impl_table_party.l0 k (tab m r) (m : Int) (a : Int) n acc) (n, acc ++ pairsFrom r m a d)
  | 0, a, acc, hd, hacc => by
    refine Ev.one (fun k => ?_)
    rw [impl_table_party.l0, if_neg (by omega), pairsFrom, List.append_nil]
  | d + 1, a, acc, hd, hacc => by
    have hl := rowFrom_len r a (m - (a + 1)) (a + 1)
    have ih := party_l0 m hm r n d (a + 1) (acc ++ rowFrom r a (a + 1) (m - (a + 1))) (by omega) (by rw [List.length_append]; omega)
    rw [List.append_assoc, ← pairsFrom] at ih
    have h := party_l1 m hm r a (by omega) n _ (m - (a + 1)) (a + 1) acc (by omega) (by omega) ih
    refine Ev.step (fun k => ?_) h
    rw [impl_table_party.l0, if_pos (by omega), w1 (by omega)]
theorem party_ev (m : Nat) (hm : m ≤ 12) (r : Rel) : Ev (fun k => impl_table_party.f k (tab m r)) ((m : Int), pairsOf m r) := by
  unfold impl_table_party.f
  rw [tab_len]
  exact party_l0 m hm r m m 0 [] (by omega) (by simp)

theorem bitsOf_or (m : Nat) (f : Nat → Bool) (b : Nat) (hb : b < m) : bitsOf m f ||| 2 ^ b = bitsOf m fun j => if j = b then true else f j := by
  apply Nat.eq_of_testBit_eq
  intro i
  rw [Nat.testBit_or, testBit_bitsOf, testBit_bitsOf, Nat.testBit_two_pow]
  by_cases e : i = b
  · subst e; simp [hb]
  · have e' : ¬ b = i := fun h => e h.symm
    simp [e, e']
theorem or16 (x y : Nat) (hx : x < 65536) (hy : y < 65536) : Go.bits .or .u16 (x : Int) (y : Int) = ((x ||| y : Nat) : Int) := (bits_nat .u16 16 (by decide) wraps_u16 x y hx hy).2
theorem pow_u16 (b : Nat) (h : b ≤ 12) : 2 ^ b < 65536 := Nat.lt_of_le_of_lt (Nat.pow_le_pow_right (by decide) h) (by decide)
theorem shl1 (b : Nat) (h : b ≤ 12) : shl .u16 1 (b : Int) = ((2 ^ b : Nat) : Int) := by
  have : b = 0 ∨ b = 1 ∨ b = 2 ∨ b = 3 ∨ b = 4 ∨ b = 5 ∨ b = 6 ∨ b = 7 ∨ b = 8 ∨ b = 9 ∨ b = 10 ∨ b = 11 ∨ b = 12 := by omega
  rcases this with rfl | rfl | rfl | rfl | rfl | rfl | rfl | rfl | rfl | rfl | rfl | rfl | rfl <;> decide
theorem bitsOf_congr (m : Nat) (f g : Nat → Bool) (h : ∀ i, i < m → f i = g i) : bitsOf m f = bitsOf m g := by
  apply Nat.eq_of_testBit_eq
  intro i
  rw [testBit_bitsOf, testBit_bitsOf]
  by_cases hi : i < m
  · simp [hi, h i hi]
  · simp [hi]
theorem map_range_congr {α : Type} (m : Nat) (f g : Nat → α) (h : ∀ a, a < m → f a = g a) : (List.range m).map f = (List.range m).map g := List.map_congr_left fun a ha => h a (List.mem_range.1 ha)
theorem tab_congr (m : Nat) (r s : Rel) (h : ∀ a b, a < m → b < m → r a b = s a b) : tab m r = tab m s := map_range_congr m _ _ fun a ha => by rw [bitsOf_congr m _ _ fun b hb => h a b ha hb]
theorem map_range_set {α : Type} (m : Nat) (f : Nat → α) (a : Nat) (v : α) : ((List.range m).map f).set a v = (List.range m).map fun i => if i = a then v else f i := by
  apply List.ext_getElem?
  intro j
  rw [List.getElem?_set]
  by_cases hj : j < m
  · by_cases e : a = j
    · subst e; simp [hj]
    · have e' : ¬ j = a := fun h => e h.symm
      simp [hj, e, e']
  · by_cases e : a = j
    · subst e; simp [hj]
    · simp [hj, e]
theorem tab_set (m : Nat) (r : Rel) (a : Nat) (f : Nat → Bool) : (tab m r).set a ((bitsOf m f : Nat) : Int) = tab m (fun x => if x = a then f else r x) := by
  unfold tab
  rw [map_range_set]
  refine map_range_congr m _ _ fun i hi => ?_
  by_cases e : i = a <;> simp [e]
def upd (r : Rel) (a b : Nat) (v : Bool) : Rel := fun x y => if x = a ∧ y = b then v else r x y
theorem tab_or (m : Nat) (hm : m ≤ 12) (r : Rel) (a b : Nat) (ha : a < m) (hb : b < m) : (tab m r).set a (Go.bits .or .u16 (rd (tab m r) (a : Int)) (shl .u16 1 (b : Int))) = tab m (upd r a b true) := by
  rw [tab_at m r a ha, shl1 b (by omega), or16 _ _ (bitsOf_u16 m hm _) (pow_u16 b (by omega)), bitsOf_or m _ b hb, tab_set]
  refine tab_congr m _ _ fun x y hx hy => ?_
  by_cases e : x = a
  · subst e; simp [upd]
  · simp [upd, e]
theorem put_f (m : Nat) (hm : m ≤ 12) (r : Rel) (a b : Nat) (ha : a < m) (hb : b < m) : impl_table_put.f (tab m r) (a : Int) (b : Int) = some (tab m (upd (upd r a b true) b a true)) := by
  unfold impl_table_put.f
  rw [if_pos (by omega), tab_len, if_pos (by omega), if_pos (by omega), Int.toNat_natCast, Int.toNat_natCast, tab_or m hm r a b ha hb]
  simp only [Option.bind_some]
  rw [if_pos (by omega), tab_or m hm _ b a hb ha]
theorem hasP_snoc (pre : List S70) (a b x y : Nat) : hasP (pre ++ [⟨(a : Int), (b : Int)⟩]) x y = (hasP pre x y || ((decide (a = x) && decide (b = y)) || (decide (a = y) && decide (b = x)))) := by
  unfold hasP
  rw [List.any_append]
  congr 1
  simp only [List.any_cons, List.any_nil, Bool.or_false]
  have e : ∀ u v : Nat, ((u : Int) == (v : Int)) = decide (u = v) := fun u v => by
    by_cases h : u = v
    · simp [h]
    · have : ¬ (u : Int) = (v : Int) := by omega
      simp [h, this]
  rw [e, e, e, e]
theorem upd2_hasP (pre : List S70) (a b : Nat) : upd (upd (hasP pre) a b true) b a true = hasP (pre ++ [⟨(a : Int), (b : Int)⟩]) := by
  funext x y
  rw [hasP_snoc]
  unfold upd
  by_cases h1 : x = b ∧ y = a
  · simp [h1]
  · by_cases h2 : x = a ∧ y = b
    · simp [h2]
    · have e1 : (decide (a = x) && decide (b = y)) = false := by simp; intro h3 h4; exact h2 ⟨h3.symm, h4.symm⟩
      have e2 : (decide (a = y) && decide (b = x)) = false := by simp; intro h3 h4; exact h1 ⟨h4.symm, h3.symm⟩
      simp [h1, h2, e1, e2]
theorem renamed_l0 (m : Nat) (hm : m ≤ 12) (l : List S70) (hl : l.length ≤ 1048576) (hn : natPairs m l) (q : List Int) (hq : q.length = m) (hb : ∀ i, i < m → rd q (i : Int) = (nm q i : Int) ∧ nm q i < m) : ∀ (rest pre : List S70), l = pre ++ rest → Ev (fun k => impl_renamed.l0 k q (tab m (hasP (renP q pre))) l (l.length : Int) (pre.length : Int)) ((m : Int), pairsOf m (hasP (renP q l)))
  | [], pre, h => by
    have e : l = pre := by rw [h]; simp
    refine Ev.step (f := fun k => (impl_table_party.f k (tab m (hasP (renP q pre)))).bind fun bt => some (bt.1, bt.2)) (fun k => ?_) (Ev.bind (party_ev m hm _) (Ev.cast (Ev.now _) (by rw [e])))
    rw [impl_renamed.l0, if_neg (by rw [e]; omega)]
  | x :: rest, pre, h => by
    have hlen : pre.length < l.length := by rw [h]; simp
    obtain ⟨a, b, rfl, hab, hbm⟩ := hn x (by rw [h]; simp)
    have hx : rd_T70 l (pre.length : Int) = ⟨(a : Int), (b : Int)⟩ := by rw [h]; exact rdT_mid pre rest _
    have ih := renamed_l0 m hm l hl hn q hq hb rest (pre ++ [⟨(a : Int), (b : Int)⟩]) (by rw [h]; simp)
    have ea := hb a (by omega)
    have eb := hb b (by omega)
    have er : renP q (pre ++ [⟨(a : Int), (b : Int)⟩]) = renP q pre ++ [⟨(nm q a : Int), (nm q b : Int)⟩] := by unfold renP; rw [List.map_append]; simp
    rw [List.length_append, List.length_singleton, er, ← upd2_hasP] at ih
    refine Ev.step (fun k => ?_) ih
    rw [impl_renamed.l0, if_pos (by omega), if_pos (by omega), if_pos (by omega), hx]
    dsimp only
    rw [if_pos (by omega), if_pos (by omega), if_pos (by omega), if_pos (by omega), ea.1, eb.1, put_f m hm _ _ _ ea.2 eb.2, Option.bind_some, w1 (by omega)]
theorem map_range_const {α : Type} (c : α) : ∀ m : Nat, (List.range m).map (fun _ => c) = List.replicate m c
  | 0 => rfl
  | m + 1 => by rw [List.range_succ, List.map_append, map_range_const c m, List.replicate_succ']; rfl
theorem tab_false (m : Nat) : tab m (fun _ _ => false) = List.replicate m 0 := by
  unfold tab
  rw [← map_range_const (0 : Int) m]
  refine map_range_congr m _ _ fun i hi => ?_
  have : bitsOf m (fun _ => false) = 0 := by
    apply Nat.eq_of_testBit_eq
    intro i
    rw [testBit_bitsOf]; simp
  rw [this]; rfl
theorem renamed_ev (m : Nat) (hm : m ≤ 12) (l : List S70) (hl : l.length ≤ 1048576) (hn : natPairs m l) (q : List Int) (hp : isPerm m q = true) : Ev (fun k => impl_renamed.f k (m : Int) l q) ((m : Int), pairsOf m (hasP (renP q l))) := by
  obtain ⟨hq, hb, hj, hs⟩ := isPerm_facts m q hp
  unfold impl_renamed.f
  simp only [if_pos (show (0 : Int) ≤ (m : Int) by omega), Int.toNat_natCast, if_pos (show m ≤ 140737488355328 by omega)]
  have := renamed_l0 m hm l hl hn q hq hb l [] rfl
  rw [show renP q [] = [] from rfl, hasP_nil, tab_false] at this
  exact this
def permL (n : Nat) (q : List Int) : Prop := q.Nodup ∧ ∀ x ∈ q, 0 ≤ x ∧ x < (n : Int)
theorem isPerm_of {n : Nat} {q : List Int} (hl : q.length = n) (h : permL n q) : isPerm n q = true := by
  unfold isPerm inAll
  rw [decide_eq_true hl, Bool.true_and, Bool.and_eq_true]
  refine ⟨List.all_eq_true.2 fun x hx => ?_, (chk_iff q [] List.nodup_nil).2 (by simpa using h.1)⟩
  have := h.2 x hx
  rw [Bool.and_eq_true, decide_eq_true_eq, decide_eq_true_eq]
  omega
theorem permL_snoc {n : Nat} {q : List Int} (h : permL n q) {i : Nat} (hi : i < n) (hc : q.contains (i : Int) = false) : permL n (q ++ [(i : Int)]) := by
  have hx : (i : Int) ∉ q := by simpa using hc
  refine ⟨List.nodup_append.2 ⟨h.1, by simp, fun a ha b hb => by rw [List.mem_singleton.1 hb]; exact fun e => hx (e ▸ ha)⟩, fun x hm => ?_⟩
  rcases List.mem_append.1 hm with hm | hm
  · exact h.2 x hm
  · rw [List.mem_singleton.1 hm]; omega
theorem mem_rns (n : Nat) : ∀ (d : Nat) (q p : List Int), permL n q → (p ∈ rns n d q ↔ ∃ t, p = q ++ t ∧ t.length = d ∧ permL n p)
  | 0, q, p, h => by
    rw [rns, List.mem_singleton]
    constructor
    · rintro rfl; exact ⟨[], by simp, rfl, h⟩
    · rintro ⟨t, rfl, ht, _⟩
      rw [List.eq_nil_of_length_eq_zero ht, List.append_nil]
  | d + 1, q, p, h => by
    rw [rns, List.mem_flatMap]
    constructor
    · rintro ⟨i, hi, hp⟩
      have hi := List.mem_range.1 hi
      cases hc : q.contains (i : Int) with
      | true => rw [hc] at hp; simp at hp
      | false =>
        rw [hc] at hp
        simp only [Bool.false_eq_true, if_false] at hp
        obtain ⟨t, rfl, ht, hl⟩ := (mem_rns n d _ p (permL_snoc h hi hc)).1 hp
        exact ⟨(i : Int) :: t, by simp, by simp [ht], hl⟩
    · rintro ⟨t, rfl, ht, hl⟩
      cases t with
      | nil => simp at ht
      | cons x t =>
        have hx := hl.2 x (by simp)
        obtain ⟨i, rfl⟩ := Int.eq_ofNat_of_zero_le hx.1
        have hi : i < n := by omega
        have hc : q.contains (i : Int) = false := by
          have h3 := (List.nodup_append.1 hl.1).2.2
          cases hc : q.contains (i : Int) with
          | false => rfl
          | true => exact absurd rfl (h3 _ (by simpa using hc) (i : Int) (List.mem_cons_self ..))
        refine ⟨i, List.mem_range.2 hi, ?_⟩
        rw [hc]
        simp only [Bool.false_eq_true, if_false]
        exact (mem_rns n d _ _ (permL_snoc h hi hc)).2 ⟨t, by simp, by simpa using ht, hl⟩
theorem permL_nil (n : Nat) : permL n [] := ⟨List.nodup_nil, fun x hx => by cases hx⟩
theorem mem_perms (n : Nat) (p : List Int) : p ∈ rns n n [] ↔ p.length = n ∧ permL n p := by
  rw [mem_rns n n [] p (permL_nil n)]
  constructor
  · rintro ⟨t, rfl, h1, h2⟩; exact ⟨by simpa using h1, h2⟩
  · rintro ⟨h1, h2⟩; exact ⟨p, by simp, h1, h2⟩
theorem rns_perm (m : Nat) (q : List Int) (hq : q ∈ rns m m []) : isPerm m q = true := by
  obtain ⟨h1, h2⟩ := (mem_perms m q).1 hq
  exact isPerm_of h1 h2
theorem renamedO_ev (m : Nat) (hm : m ≤ 7) (l : List S70) (hl : l.length ≤ 1048576) (hn : natPairs m l) : Ev (fun k => mapO (fun q => impl_renamed.f k (m : Int) l q) (rns m m [])) ((rns m m []).map fun q => ((m : Int), actP m l q)) :=
  mapO_ev (fun k q => impl_renamed.f k (m : Int) l q) _ _ fun q hq => renamed_ev m (by omega) l hl hn q (rns_perm m q hq)
theorem least_ev (m : Nat) (hm : m ≤ 7) (l : List S70) (hl : l.length ≤ 1048576) (hn : natPairs m l) : Ev (fun k => impl_least.f k (m : Int) l) ((m : Int), (leastC m l).1) := by
  obtain ⟨K, hK⟩ := renamedO_ev m hm l hl hn
  refine ⟨max K 4, fun k hk => ?_⟩
  unfold impl_least.f
  have hk2 := hK k (by omega)
  dsimp only at hk2 ⊢
  rw [if_pos ⟨by omega, by omega, by omega, by omega⟩, Int.toNat_natCast, hk2, Option.bind_some, if_pos, least_fold]
  · congr 2
    exact (cstep_fst (actP m l) (rns m m []) (l, 0)).symm
  · intro r hr
    obtain ⟨q, _, rfl⟩ := List.mem_map.1 hr
    have : (actP m l q).length ≤ 144 := pairsOf_len m (by omega) _
    show (actP m l q).length ≤ 1000000000
    omega
/-! the number of pairs -/
def below (m : Nat) : Nat → Nat
  | 0 => 0
  | a + 1 => below m a + (m - 1 - a)
theorem below_all (m : Nat) (h : m ≤ 12) : Int.tdiv ((m : Int) * ((m : Int) - 1)) 2 = (below m m : Int) := by
  have : m = 0 ∨ m = 1 ∨ m = 2 ∨ m = 3 ∨ m = 4 ∨ m = 5 ∨ m = 6 ∨ m = 7 ∨ m = 8 ∨ m = 9 ∨ m = 10 ∨ m = 11 ∨ m = 12 := by omega
  rcases this with rfl | rfl | rfl | rfl | rfl | rfl | rfl | rfl | rfl | rfl | rfl | rfl | rfl <;> rfl
/-- where a pair stands among all pairs of m people -/
def rank (m : Nat) (x : S70) : Nat := below m x.f0.toNat + (x.f1.toNat - x.f0.toNat - 1)
theorem below_mono (m a : Nat) : ∀ d, below m a ≤ below m (a + d)
  | 0 => Nat.le_refl _
  | d + 1 => Nat.le_trans (below_mono m a d) (by show below m (a + d) ≤ below m (a + d) + _; omega)
theorem rank_lt (m : Nat) (p x : S70) (h : lt2 p x = true) (p0 : 0 ≤ p.f0) (p1 : p.f0 < p.f1) (p2 : p.f1 < m) (x0 : 0 ≤ x.f0) (x1 : x.f0 < x.f1) : rank m p < rank m x := by
  unfold lt2 at h
  unfold rank
  simp at h
  rcases h with h | ⟨h, h2⟩
  · have h1 := below_mono m (p.f0.toNat + 1) (x.f0.toNat - (p.f0.toNat + 1))
    rw [show p.f0.toNat + 1 + (x.f0.toNat - (p.f0.toNat + 1)) = x.f0.toNat by omega] at h1
    have h3 : below m (p.f0.toNat + 1) = below m p.f0.toNat + (m - 1 - p.f0.toNat) := rfl
    omega
  · rw [h]; omega
theorem rank_top (m : Nat) (x : S70) (x0 : 0 ≤ x.f0) (x1 : x.f0 < x.f1) (x2 : x.f1 < m) : rank m x < below m m := by
  unfold rank
  have h1 := below_mono m (x.f0.toNat + 1) (m - (x.f0.toNat + 1))
  rw [show x.f0.toNat + 1 + (m - (x.f0.toNat + 1)) = m by omega] at h1
  have h3 : below m (x.f0.toNat + 1) = below m x.f0.toNat + (m - 1 - x.f0.toNat) := rfl
  omega
theorem okFrom_len (m : Nat) : ∀ (l : List S70) (p : S70), 0 ≤ p.f0 → p.f0 < p.f1 → p.f1 < m → okFrom m (some p) l = true → rank m p + l.length < below m m
  | [], p, p0, p1, p2, _ => rank_top m p p0 p1 p2
  | x :: xs, p, p0, p1, p2, h => by
    simp [okFrom, okPrev] at h
    obtain ⟨⟨x0, x1, x2, hlt⟩, h⟩ := h
    have ih := okFrom_len m xs x x0 x1 x2 h
    have := rank_lt m p x hlt p0 p1 p2 x0 x1
    simp only [List.length_cons]
    omega
theorem good_len (m : Nat) (l : List S70) (h : okFrom m none l = true) : l.length ≤ below m m := by
  cases l with
  | nil => simp
  | cons x xs =>
    simp [okFrom, okPrev] at h
    obtain ⟨⟨x0, x1, x2⟩, h⟩ := h
    have := okFrom_len m xs x x0 x1 x2 h
    simp only [List.length_cons]
    omega
theorem l1In_f (a lo hi : Int) : spec_l1In.f a lo hi = some (decide (lo ≤ a) && decide (a ≤ hi)) := by
  unfold spec_l1In.f
  by_cases h : lo ≤ a
  · rw [if_pos h]; simp [h]
  · rw [if_neg h]; simp [h]
theorem paLess_f (p x : S70) : spec_paLess.f p.f0 p.f1 x.f0 x.f1 = some (lt2 p x) := by
  unfold spec_paLess.f lt2
  by_cases h : p.f0 < x.f0
  · simp [h]
  · by_cases h2 : p.f0 = x.f0
    · simp [h2]
    · simp [h, h2]
theorem paGood_l0 (m : Nat) (hm : m ≤ 12) (l : List S70) (hl : l.length < 4611686018427387904) : ∀ (rest pre : List S70), l = pre ++ rest → Ev (fun k => spec_paGood.l0 k l (l.length : Int) (pre.length : Int) (m : Int) l) (okFrom m pre.getLast? rest)
  | [], pre, h => by
    refine Ev.one (fun k => ?_)
    have e : l.length = pre.length := by rw [h]; simp
    rw [spec_paGood.l0, if_neg (by omega)]
    simp [okFrom]
  | x :: rest, pre, h => by
    have hlen : pre.length < l.length := by rw [h]; simp
    have hx : rd_T70 l (pre.length : Int) = x := by rw [h]; exact rdT_mid pre rest x
    have ih := paGood_l0 m hm l hl rest (pre ++ [x]) (by rw [h]; simp)
    rw [List.getLast?_concat, List.length_append, List.length_singleton] at ih
    have em : wrap64 ((m : Int) - 1) = (m : Int) - 1 := w64 (by omega) (by omega)
    by_cases c1 : 0 ≤ x.f0 ∧ x.f0 ≤ (m : Int) - 1
    · have e1 : wrap64 (x.f0 + 1) = x.f0 + 1 := w64 (by omega) (by omega)
      have b1 : (decide (0 ≤ x.f0) && decide (x.f0 ≤ (m : Int) - 1)) = true := by simp; exact c1
      by_cases c2 : x.f0 + 1 ≤ x.f1 ∧ x.f1 ≤ (m : Int) - 1
      · have b2 : (decide (x.f0 + 1 ≤ x.f1) && decide (x.f1 ≤ (m : Int) - 1)) = true := by simp; exact c2
        have d1 : decide (0 ≤ x.f0) = true := by simp; omega
        have d2 : decide (x.f0 < x.f1) = true := by simp; omega
        have d3 : decide (x.f1 < (m : Int)) = true := by simp; omega
        rcases List.eq_nil_or_concat pre with rfl | ⟨q, p, rfl⟩
        · refine Ev.cast (Ev.step (fun k => ?_) ih) ?_
          · rw [spec_paGood.l0, if_pos (by omega), if_pos (by omega), if_pos (by omega), hx, em, e1, l1In_f, l1In_f, b1, b2]
            simp only [Option.bind_some, if_true]
            rw [if_neg (by simp), w1 (by simp)]
          · simp [okFrom, d1, d2, d3, okPrev]
        · rw [List.concat_eq_append] at hlen hx ih h ⊢
          have hp : rd_T70 l (q.length : Int) = p := by rw [h, List.append_assoc]; exact rdT_mid q (x :: rest) p
          have hq : (q ++ [p]).length = q.length + 1 := by simp
          rw [hq] at hlen hx ih ⊢
          rw [List.getLast?_concat]
          cases hlt : lt2 p x with
          | true =>
            refine Ev.cast (Ev.step (fun k => ?_) ih) ?_
            · rw [spec_paGood.l0, if_pos (by omega), if_pos (by omega), if_pos (by omega), hx, em, e1, l1In_f, l1In_f, b1, b2]
              simp only [Option.bind_some, if_true]
              rw [if_pos (by omega), w64 (i := ((q.length + 1 : Nat) : Int) - 1) (by omega) (by omega), show ((q.length + 1 : Nat) : Int) - 1 = (q.length : Int) by omega, if_pos (by omega), if_pos (by omega), hp, paLess_f, hlt, w1 (by omega)]
              rfl
            · simp [okFrom, d1, d2, d3, okPrev, hlt]
          | false =>
            refine Ev.one (fun k => ?_)
            rw [spec_paGood.l0, if_pos (by omega), if_pos (by omega), if_pos (by omega), hx, em, e1, l1In_f, l1In_f, b1, b2]
            simp only [Option.bind_some, if_true]
            rw [if_pos (by omega), w64 (i := ((q.length + 1 : Nat) : Int) - 1) (by omega) (by omega), show ((q.length + 1 : Nat) : Int) - 1 = (q.length : Int) by omega, if_pos (by omega), if_pos (by omega), hp, paLess_f, hlt]
            simp [okFrom, okPrev, hlt]
      · refine Ev.one (fun k => ?_)
        have b2 : (decide (x.f0 + 1 ≤ x.f1) && decide (x.f1 ≤ (m : Int) - 1)) = false := by simp; omega
        rw [spec_paGood.l0, if_pos (by omega), if_pos (by omega), if_pos (by omega), hx, em, e1, l1In_f, l1In_f, b1, b2]
        have : (decide (x.f0 < x.f1) && decide (x.f1 < (m : Int))) = false := by simp; omega
        simp only [okFrom, ← Bool.and_assoc (decide (x.f0 < x.f1)), this]
        simp
    · refine Ev.one (fun k => ?_)
      have b1 : (decide (0 ≤ x.f0) && decide (x.f0 ≤ (m : Int) - 1)) = false := by simp; omega
      rw [spec_paGood.l0, if_pos (by omega), if_pos (by omega), if_pos (by omega), hx, em, l1In_f, b1]
      have : (decide (0 ≤ x.f0) && (decide (x.f0 < x.f1) && (decide (x.f1 < (m : Int)) && okPrev pre.getLast? x))) = false := by
        by_cases z0 : 0 ≤ x.f0
        · by_cases z1 : x.f0 < x.f1
          · have : ¬ x.f1 < (m : Int) := by omega
            simp [this]
          · simp [z1]
        · simp [z0]
      simp [okFrom, this]
theorem paPeople_f (a : Int) : spec_paPeople.f a = some (decide (0 ≤ a ∧ a ≤ 12)) := by
  unfold spec_paPeople.f
  rw [l1In_f]; simp [Bool.decide_and]
theorem paGood_ev (n : Int) (l : List S70) (hl : l.length < 4611686018427387904) : Ev (fun k => spec_paGood.f k n l) (good n l) := by
  unfold spec_paGood.f
  rw [paPeople_f]
  by_cases h : 0 ≤ n ∧ n ≤ 12
  · obtain ⟨m, rfl⟩ := Int.eq_ofNat_of_zero_le h.1
    have hm : m ≤ 12 := by omega
    have hc : crowd (m : Int) = true := by unfold crowd; simp; omega
    have hmul : (m : Int) * ((m : Int) - 1) ≤ 144 := by
      have : m = 0 ∨ m = 1 ∨ m = 2 ∨ m = 3 ∨ m = 4 ∨ m = 5 ∨ m = 6 ∨ m = 7 ∨ m = 8 ∨ m = 9 ∨ m = 10 ∨ m = 11 ∨ m = 12 := by omega
      rcases this with rfl | rfl | rfl | rfl | rfl | rfl | rfl | rfl | rfl | rfl | rfl | rfl | rfl <;> decide
    have hmul0 : 0 ≤ (m : Int) * ((m : Int) - 1) := by
      have : m = 0 ∨ m = 1 ∨ m = 2 ∨ m = 3 ∨ m = 4 ∨ m = 5 ∨ m = 6 ∨ m = 7 ∨ m = 8 ∨ m = 9 ∨ m = 10 ∨ m = 11 ∨ m = 12 := by omega
      rcases this with rfl | rfl | rfl | rfl | rfl | rfl | rfl | rfl | rfl | rfl | rfl | rfl | rfl <;> decide
    have hb : (below m m : Int) ≤ 144 := by
      have : m = 0 ∨ m = 1 ∨ m = 2 ∨ m = 3 ∨ m = 4 ∨ m = 5 ∨ m = 6 ∨ m = 7 ∨ m = 8 ∨ m = 9 ∨ m = 10 ∨ m = 11 ∨ m = 12 := by omega
      rcases this with rfl | rfl | rfl | rfl | rfl | rfl | rfl | rfl | rfl | rfl | rfl | rfl | rfl <;> decide
    have e : wrap64 (Int.tdiv (wrap64 ((m : Int) * (wrap64 ((m : Int) - 1)))) 2) = (below m m : Int) := by
      rw [w64 (i := (m : Int) - 1) (by omega) (by omega), w64 (i := (m : Int) * ((m : Int) - 1)) (by omega) (by omega), below_all m hm, w64 (by omega) (by omega)]
    simp only [h, decide_true, Option.bind_some, if_true, e, and_self]
    unfold good
    rw [hc, Bool.true_and]
    by_cases hlen : l.length ≤ below m m
    · refine Ev.step (fun k => ?_) (paGood_l0 m hm l hl l [] rfl)
      have : decide ((l.length : Int) > (below m m : Int)) = false := by simp; omega
      rw [this, spec_paGood.j0, if_neg (by decide)]
      rfl
    · refine Ev.one (fun k => ?_)
      have : decide ((l.length : Int) > (below m m : Int)) = true := by simp; omega
      rw [this, spec_paGood.j0, if_pos rfl]
      have hn : okFrom (m : Int) none l = false := by
        cases hok : okFrom (m : Int) none l with
        | false => rfl
        | true => exact absurd (good_len m l hok) hlen
      rw [hn]
  · have hc : crowd n = false := by unfold crowd; simp; omega
    simp only [h, decide_false, Option.bind_some]
    unfold good
    rw [hc]
    refine Ev.one (fun k => ?_)
    rw [if_neg (by decide), spec_paGood.j0]; simp

theorem paFew_ev (n : Int) (l : List S70) (hl : l.length < 4611686018427387904) : Ev (fun k => spec_paFew.f k n l) (good n l && decide (n ≤ 7)) := by
  unfold spec_paFew.f
  refine Ev.bind (paGood_ev n l hl) ?_
  cases good n l with
  | true => simp only [if_true, Bool.true_and]; exact Ev.now _
  | false => simp only [Bool.false_eq_true, if_false, Bool.false_and]; exact Ev.now _
def fact : Nat → Nat
  | 0 => 1
  | k + 1 => (k + 1) * fact k
theorem fact_le (d : Nat) (h : d ≤ 7) : fact d ≤ 5040 := by
  have : ∀ d, d < 8 → fact d ≤ 5040 := by decide
  exact this d (by omega)
theorem flat_le {α : Type} (f : Nat → List α) (i n : Nat) (h : i ≤ n) : ((List.range i).flatMap f).length ≤ ((List.range n).flatMap f).length := by
  obtain ⟨e, rfl⟩ : ∃ e, n = i + e := ⟨n - i, by omega⟩
  rw [List.range_add, List.flatMap_append, List.length_append]
  omega
theorem rd_mid (pre rest : List Int) (x : Int) : rd (pre ++ x :: rest) (pre.length : Int) = x := by
  unfold rd
  simp [List.getD_eq_getElem?_getD]
/-! whether a number is there -/
theorem l1Has_l0 (l : List Int) (a : Int) (hl : l.length < 4611686018427387904) : ∀ (rest pre : List Int), l = pre ++ rest → Ev (fun k => spec_l1Has.l0 k a l (l.length : Int) (pre.length : Int)) (rest.contains a)
  | [], pre, e => by
    have el : l.length = pre.length := by rw [e]; simp
    refine Ev.one (fun k => ?_)
    rw [spec_l1Has.l0, if_neg (by omega)]; rfl
  | x :: rest, pre, e => by
    have el : pre.length < l.length := by rw [e]; simp
    have hx : rd l (pre.length : Int) = x := by rw [e]; exact rd_mid pre _ x
    by_cases c : x = a
    · refine Ev.one (fun k => ?_)
      rw [spec_l1Has.l0, if_pos (by omega), if_pos (by omega), if_pos (by omega), hx, if_pos c]
      simp [c]
    · have ih := l1Has_l0 l a hl rest (pre ++ [x]) (by rw [e]; simp)
      rw [List.length_append, List.length_singleton] at ih
      refine Ev.cast (Ev.step (fun k => ?_) ih) ?_
      · rw [spec_l1Has.l0, if_pos (by omega), if_pos (by omega), if_pos (by omega), hx, if_neg c, w1 (by omega)]
      · have : ¬ a = x := fun h => c h.symm
        simp [this]
theorem l1Has_ev (l : List Int) (a : Int) (hl : l.length < 4611686018427387904) : Ev (fun k => spec_l1Has.f k l a) (l.contains a) := l1Has_l0 l a hl l [] rfl
theorem l1Own_f (l : List Int) (h : l.length < 17592186044416) : spec_l1Own.f l = some l := by
  unfold spec_l1Own.f
  simp only [Option.bind_some, List.length_nil, Nat.zero_add, if_pos h, List.nil_append]
theorem free_count (n : Nat) (q : List Int) (h : permL n q) : ((List.range n).filter fun (i : Nat) => !q.contains (i : Int)).length + q.length = n := by
  have hp : (((List.range n).filter fun (i : Nat) => q.contains (i : Int)).map Int.ofNat).Perm q := by
    refine (List.perm_ext_iff_of_nodup ?_ h.1).2 fun x => ?_
    · exact List.pairwise_map.2 ((List.nodup_range.sublist (List.filter_sublist ..)).imp fun h e => h (Int.ofNat.inj e))
    · rw [List.mem_map]
      constructor
      · rintro ⟨i, hi, rfl⟩
        have := (List.mem_filter.1 hi).2
        simpa using this
      · intro hx
        obtain ⟨h0, h1⟩ := h.2 x hx
        obtain ⟨i, rfl⟩ := Int.eq_ofNat_of_zero_le h0
        exact ⟨i, List.mem_filter.2 ⟨List.mem_range.2 (by omega), by simpa using hx⟩, rfl⟩
  have hl := hp.length_eq
  rw [List.length_map] at hl
  have hs : ∀ (l : List Nat) (f : Nat → Bool), (l.filter f).length + (l.filter fun i => !f i).length = l.length := by
    intro l f
    induction l with
    | nil => rfl
    | cons x l ih =>
      rw [List.filter_cons, List.filter_cons]
      cases f x <;> simp <;> omega
  have hs := hs (List.range n) (fun (i : Nat) => q.contains (i : Int))
  rw [List.length_range] at hs
  omega
theorem rns_len (n : Nat) : ∀ (d : Nat) (q : List Int), permL n q → q.length + d = n → (rns n d q).length = fact d
  | 0, q, _, _ => rfl
  | d + 1, q, h, hd => by
    have hf := free_count n q h
    have key : ∀ l : List Nat, (∀ i ∈ l, i < n) → (l.flatMap fun (i : Nat) => if q.contains (i : Int) then [] else rns n d (q ++ [(i : Int)])).length = (l.filter fun (i : Nat) => !q.contains (i : Int)).length * fact d := by
      intro l hl
      induction l with
      | nil => simp
      | cons i l ih =>
        have ih := ih (fun j hj => hl j (List.mem_cons_of_mem _ hj))
        have hi := hl i (List.mem_cons_self ..)
        rw [List.flatMap_cons, List.length_append, ih, List.filter_cons]
        cases hc : q.contains (i : Int) with
        | true => simp
        | false =>
          simp only [Bool.false_eq_true, if_false, Bool.not_false, if_true, List.length_cons]
          rw [rns_len n d _ (permL_snoc h hi hc) (by simp; omega), Nat.add_mul]
          omega
    rw [rns, key _ (fun i hi => List.mem_range.1 hi), fact]
    congr 1
    omega

theorem names_ev (n : Nat) (hn : n ≤ 7) : ∀ (d : Nat) (q : List Int), permL n q → q.length + d = n → Ev (fun k => spec_paNames.f k (n : Int) q) (rns n d q)
  | 0, q, h, hd => by
    refine Ev.one fun k => ?_
    rw [spec_paNames.f, if_pos (by omega), l1Own_f q (by omega), Option.bind_some, rns]
  | d + 1, q, h, hd => by
    have key : ∀ (e i : Nat), i + e = n → Ev (fun k => spec_paNames.l0 k (n : Int) q ((List.range i).flatMap fun (i : Nat) => if q.contains (i : Int) then [] else rns n d (q ++ [(i : Int)])) (i : Int)) (rns n (d + 1) q) := by
      intro e
      induction e with
      | zero =>
        intro i hi
        obtain rfl : i = n := by omega
        refine Ev.one fun k => ?_
        rw [spec_paNames.l0, if_neg (by omega), rns]
      | succ e ih =>
        intro i hi
        have hw : wrap64 ((i : Int) + 1) = ((i + 1 : Nat) : Int) := by unfold wrap64; omega
        refine Ev.step (f := fun k => (spec_l1Has.f k q (i : Int)).bind fun t188 => (if t188 = true then (spec_paNames.l0 k (n : Int) q ((List.range i).flatMap fun (i : Nat) => if q.contains (i : Int) then [] else rns n d (q ++ [(i : Int)])) (wrap64 ((i : Int) + 1))) else ((spec_l1Own.f q).bind fun t189 => (if t189.length < 17592186044416 then ((spec_paNames.f k (n : Int) (t189 ++ [(i : Int)])).bind fun t195 => (if ((List.range i).flatMap fun (i : Nat) => if q.contains (i : Int) then [] else rns n d (q ++ [(i : Int)])).length + t195.length < 5864062014805 then (spec_paNames.l0 k (n : Int) q (((List.range i).flatMap fun (i : Nat) => if q.contains (i : Int) then [] else rns n d (q ++ [(i : Int)])) ++ t195) (wrap64 ((i : Int) + 1))) else (none))) else (none))))) (fun k => ?_) ?_
        · rw [spec_paNames.l0, if_pos (by omega)]
        refine Ev.bind (l1Has_ev q (i : Int) (by omega)) ?_
        rw [hw]
        have ih := ih (i + 1) (by omega)
        rw [List.range_succ, List.flatMap_append, List.flatMap_cons, List.flatMap_nil, List.append_nil] at ih
        cases hc : q.contains (i : Int) with
        | true =>
          rw [hc] at ih
          simp only [if_true] at ih ⊢
          rw [List.append_nil] at ih
          exact ih
        | false =>
          rw [hc] at ih
          simp only [Bool.false_eq_true, if_false] at ih ⊢
          rw [l1Own_f q (by omega)]
          simp only [Option.bind_some, if_pos (show q.length < 17592186044416 by omega)]
          refine Ev.bind (names_ev n hn d (q ++ [(i : Int)]) (permL_snoc h (by omega) hc) (by simp; omega)) ?_
          have hlen : ((List.range i).flatMap fun (i : Nat) => if q.contains (i : Int) then [] else rns n d (q ++ [(i : Int)])).length ≤ 5040 := by
            refine Nat.le_trans (flat_le _ i n (by omega)) ?_
            have := rns_len n (d + 1) q h hd
            rw [rns] at this
            rw [this]
            exact fact_le _ (by omega)
          have hlen2 := rns_len n d (q ++ [(i : Int)]) (permL_snoc h (by omega) hc) (by simp; omega)
          have := fact_le d (by omega)
          obtain ⟨K, hK⟩ := ih
          refine ⟨K, fun k hk => ?_⟩
          have hk2 := hK k hk
          dsimp only at hk2 ⊢
          rw [if_pos (by omega)]
          exact hk2
    refine Ev.step (f := fun k => spec_paNames.l0 k (n : Int) q [] 0) (fun k => ?_) (key n 0 (by omega))
    rw [spec_paNames.f, if_neg (by omega)]
theorem before_l0 (a b : List S70) (ha : a.length < 4611686018427387904) (n n' : Int) : ∀ (ra pa rb pb : List S70), a = pa ++ ra → b = pb ++ rb → pa.length = pb.length → Ev (fun k => spec_paBefore.l0 k a (a.length : Int) (pa.length : Int) n a n' b) (ltL ra rb)
  | [], pa, rb, pb, e1, e2, e3 => by
    have el : a.length = pa.length := by rw [e1]; simp
    have eb : b.length = pb.length + rb.length := by rw [e2]; simp
    refine Ev.one fun k => ?_
    rw [spec_paBefore.l0, if_neg (by omega)]
    congr 1
    cases rb with
    | nil => rw [ltL, decide_eq_false (by simp at eb; omega)]
    | cons y rb => rw [ltL, decide_eq_true (by simp at eb; omega)]
  | x :: ra, pa, [], pb, e1, e2, e3 => by
    have el : a.length = pa.length + (ra.length + 1) := by rw [e1]; simp
    have eb : b.length = pb.length := by rw [e2]; simp
    refine Ev.one fun k => ?_
    rw [spec_paBefore.l0, if_pos (by omega), if_pos (by omega), if_pos (by omega), if_pos (by omega), ltL]
  | x :: ra, pa, y :: rb, pb, e1, e2, e3 => by
    have el : a.length = pa.length + (ra.length + 1) := by rw [e1]; simp
    have eb : b.length = pb.length + (rb.length + 1) := by rw [e2]; simp
    have hx : rd_T70 a (pa.length : Int) = x := by rw [e1]; exact rdT_mid pa ra x
    have hy : rd_T70 b (pa.length : Int) = y := by rw [e2, e3]; exact rdT_mid pb rb y
    by_cases e : x = y
    · subst e
      have hw : wrap64 ((pa.length : Int) + 1) = ((pa ++ [x]).length : Int) := by rw [List.length_append, List.length_singleton]; unfold wrap64; omega
      refine Ev.step (f := fun k => spec_paBefore.l0 k a (a.length : Int) ((pa ++ [x]).length : Int) n a n' b) (fun k => ?_) (Ev.cast (before_l0 a b ha n n' ra (pa ++ [x]) rb (pb ++ [x]) (by rw [e1]; simp) (by rw [e2]; simp) (by simp [e3])) (by rw [ltL, if_pos rfl]))
      rw [spec_paBefore.l0, if_pos (by omega), if_pos (by omega), if_pos (by omega), if_neg (by omega), if_pos (by omega), hx, hy, if_neg (by simp), hw]
    · refine Ev.one fun k => ?_
      have hc : (!(x.f0 == y.f0) || !(x.f1 == y.f1)) = true := by
        cases hb : (!(x.f0 == y.f0) || !(x.f1 == y.f1)) with
        | true => rfl
        | false =>
          simp only [Bool.or_eq_false_iff, Bool.not_eq_false', beq_iff_eq] at hb
          obtain ⟨a1, a2⟩ := x
          obtain ⟨b1, b2⟩ := y
          exact absurd (show (⟨a1, a2⟩ : S70) = ⟨b1, b2⟩ from by rw [show a1 = b1 from hb.1, show a2 = b2 from hb.2]) e
      rw [spec_paBefore.l0, if_pos (by omega), if_pos (by omega), if_pos (by omega), if_neg (by omega), if_pos (by omega), hx, hy, if_pos hc, paLess_f, Option.bind_some, ltL, if_neg e]
theorem before_ev (a b : List S70) (ha : a.length < 4611686018427387904) (n n' : Int) : Ev (fun k => spec_paBefore.f k n a n' b) (ltL a b) := before_l0 a b ha n n' a [] b [] rfl rfl rfl
/-! ### matrices -/
def mat (m : Nat) (r : Rel) : List (List Bool) := (List.range m).map fun a => (List.range m).map fun b => r a b
theorem mat_len (m : Nat) (r : Rel) : (mat m r).length = m := by simp [mat]
theorem mat_row (m : Nat) (r : Rel) (a : Nat) (h : a < m) : rd_L4 (mat m r) (a : Int) = (List.range m).map fun b => r a b := map_range_getD m _ _ a h
theorem mat_at (m : Nat) (r : Rel) (a b : Nat) (h : a < m) (h2 : b < m) : rdOf false (rd_L4 (mat m r) (a : Int)) (b : Int) = r a b := by
  rw [mat_row m r a h]; exact map_range_getD m _ _ b h2
theorem paOf_l1 (m : Nat) (hm : m ≤ 12) (r : Rel) (a : Nat) (ha : a < m) (n : Int) (R : Int × List S70) : ∀ (d b : Nat) (acc : List S70), b + d = m → acc.length ≤ 12 * a + b → Ev (fun k => spec_paOf.l0 k (mat m r) (m : Int) ((a + 1 : Nat) : Int) n (acc ++ rowFrom r a b d)) R → Ev (fun k => spec_paOf.l1 k (mat m r) (a : Int) (b : Int) (m : Int) (a : Int) n acc) R
  | 0, b, acc, hd, hacc, h => by
    refine Ev.step (fun k => ?_) h
    rw [spec_paOf.l1, mat_len, if_neg (by omega), w1 (by omega), rowFrom, List.append_nil]
  | d + 1, b, acc, hd, hacc, h => by
    have hb : b < m := by omega
    rw [rowFrom, ← List.append_assoc] at h
    have hrow : (rd_L4 (mat m r) (a : Int)).length = m := by rw [mat_row m r a ha]; simp
    cases hr : r a b with
    | true =>
      rw [hr, if_pos rfl] at h
      have ih := paOf_l1 m hm r a ha n R d (b + 1) (acc ++ [⟨(a : Int), (b : Int)⟩]) (by omega) (by simp; omega) h
      refine Ev.step (fun k => ?_) ih
      rw [spec_paOf.l1, mat_len, if_pos (by omega), if_pos (by omega), if_pos (by omega), if_pos (by omega), hrow, if_pos (by omega), mat_at m r a b ha hb, hr, if_pos rfl, if_pos (by omega), w1 (by omega)]
    | false =>
      rw [hr, if_neg (by decide), List.append_nil] at h
      have ih := paOf_l1 m hm r a ha n R d (b + 1) acc (by omega) (by omega) h
      refine Ev.step (fun k => ?_) ih
      rw [spec_paOf.l1, mat_len, if_pos (by omega), if_pos (by omega), if_pos (by omega), if_pos (by omega), hrow, if_pos (by omega), mat_at m r a b ha hb, hr, if_neg (by decide), w1 (by omega)]
theorem paOf_l0 (m : Nat) (hm : m ≤ 12) (r : Rel) (n : Int) : ∀ (d a : Nat) (acc : List S70), a + d = m → acc.length ≤ 12 * a → Ev (fun k => spec_paOf.l0 k (mat m r) (m : Int) (a : Int) n acc) (n, acc ++ pairsFrom r m a d)
  | 0, a, acc, hd, hacc => by
    refine Ev.one (fun k => ?_)
    rw [spec_paOf.l0, if_neg (by omega), pairsFrom, List.append_nil]
  | d + 1, a, acc, hd, hacc => by
    have hl := rowFrom_len r a (m - (a + 1)) (a + 1)
    have ih := paOf_l0 m hm r n d (a + 1) (acc ++ rowFrom r a (a + 1) (m - (a + 1))) (by omega) (by rw [List.length_append]; omega)
    rw [List.append_assoc, ← pairsFrom] at ih
    have h := paOf_l1 m hm r a (by omega) n _ (m - (a + 1)) (a + 1) acc (by omega) (by omega) ih
    refine Ev.step (fun k => ?_) h
    rw [spec_paOf.l0, if_pos (by omega), w1 (by omega)]
theorem paOf_ev (m : Nat) (hm : m ≤ 12) (r : Rel) : Ev (fun k => spec_paOf.f k (mat m r)) ((m : Int), pairsOf m r) := by
  unfold spec_paOf.f
  rw [mat_len]
  exact paOf_l0 m hm r m m 0 [] (by omega) (by simp)
theorem mat_false (m : Nat) : mat m (fun _ _ => false) = List.replicate m (List.replicate m false) := by
  unfold mat; rw [map_range_const, map_range_const]
theorem mat_set (m : Nat) (r : Rel) (a b : Nat) (v : Bool) (ha : a < m) : (mat m r).set a ((rd_L4 (mat m r) (a : Int)).set b v) = mat m (upd r a b v) := by
  rw [mat_row m r a ha, map_range_set]
  show ((List.range m).map fun a => (List.range m).map fun b => r a b).set a _ = _
  rw [map_range_set]
  refine map_range_congr m _ _ fun i hi => ?_
  by_cases e : i = a
  · subst e
    rw [if_pos rfl]
    refine map_range_congr m _ _ fun j hj => ?_
    simp [upd]
  · rw [if_neg e]
    refine map_range_congr m _ _ fun j hj => ?_
    simp [upd, e]
theorem paTable_l1 (m : Nat) (l : List S70) (hl : l.length < 4611686018427387904) (hn : natPairs m l) : ∀ (rest pre : List S70), l = pre ++ rest → Ev (fun k => spec_paTable.l1 k (mat m (hasP pre)) l (l.length : Int) (pre.length : Int)) (mat m (hasP l))
  | [], pre, h => by
    refine Ev.one (fun k => ?_)
    have e : l = pre := by rw [h]; simp
    rw [spec_paTable.l1, if_neg (by rw [e]; omega), e]
  | x :: rest, pre, h => by
    have hlen : pre.length < l.length := by rw [h]; simp
    obtain ⟨a, b, rfl, hab, hb⟩ := hn x (by rw [h]; simp)
    have hx : rd_T70 l (pre.length : Int) = ⟨(a : Int), (b : Int)⟩ := by rw [h]; exact rdT_mid pre rest _
    have ih := paTable_l1 m l hl hn rest (pre ++ [⟨(a : Int), (b : Int)⟩]) (by rw [h]; simp)
    rw [List.length_append, List.length_singleton, ← upd2_hasP] at ih
    refine Ev.step (fun k => ?_) ih
    have hrow : (rd_L4 (mat m (hasP pre)) (a : Int)).length = m := by rw [mat_row _ _ _ (by omega)]; simp
    have hrow2 : (rd_L4 (mat m (upd (hasP pre) a b true)) (b : Int)).length = m := by rw [mat_row _ _ _ (by omega)]; simp
    rw [spec_paTable.l1, if_pos (by omega), if_pos (by omega), if_pos (by omega), hx]
    dsimp only
    rw [mat_len, hrow, if_pos (by omega), if_pos (by omega), if_pos (by omega), if_pos (by omega), Int.toNat_natCast, Int.toNat_natCast, mat_set _ _ _ _ _ (by omega)]
    simp only [Option.bind_some]
    rw [if_pos (by omega), hrow2, if_pos (by omega), mat_set _ _ _ _ _ (by omega), w1 (by omega)]
theorem paTable_l0 (m : Nat) (hm : m ≤ 12) (l : List S70) (hl : l.length < 4611686018427387904) (hn : natPairs m l) : ∀ (d i : Nat), i + d = m → Ev (fun k => spec_paTable.l0 k (List.replicate i (List.replicate m false)) (i : Int) (m : Int) l) (mat m (hasP l))
  | 0, i, hd => by
    refine Ev.step (fun k => ?_) (paTable_l1 m l hl hn l [] rfl)
    obtain rfl : i = m := by omega
    rw [spec_paTable.l0, if_neg (by omega), hasP_nil, mat_false]
    rfl
  | d + 1, i, hd => by
    refine Ev.step (fun k => ?_) (paTable_l0 m hm l hl hn d (i + 1) (by omega))
    rw [spec_paTable.l0, if_pos (by omega), if_pos (by omega), if_pos (by omega), if_pos (by simp; omega), w1 (by omega), Int.toNat_natCast, List.replicate_succ']
theorem paTable_ev (m : Nat) (hm : m ≤ 12) (l : List S70) (hl : l.length < 4611686018427387904) (hn : natPairs m l) : Ev (fun k => spec_paTable.f k (m : Int) l) (mat m (hasP l)) := by
  unfold spec_paTable.f
  exact paTable_l0 m hm l hl hn m 0 (by omega)
theorem rowFrom_congr (r s : Rel) (a : Nat) : ∀ (d b : Nat), (∀ y, b ≤ y → y < b + d → r a y = s a y) → rowFrom r a b d = rowFrom s a b d
  | 0, _, _ => rfl
  | d + 1, b, h => by
    rw [rowFrom, rowFrom, h b (Nat.le_refl _) (by omega), rowFrom_congr r s a d (b + 1) (fun y h1 h2 => h y (by omega) (by omega))]
theorem pairsFrom_congr (r s : Rel) (m : Nat) (h : ∀ x y, x < y → y < m → r x y = s x y) : ∀ (d a : Nat), a + d ≤ m → pairsFrom r m a d = pairsFrom s m a d
  | 0, _, _ => rfl
  | d + 1, a, hd => by
    rw [pairsFrom, pairsFrom, rowFrom_congr r s a _ _ (fun y h1 h2 => h a y (by omega) (by omega)), pairsFrom_congr r s m h d (a + 1) (by omega)]
theorem pairsOf_congr (m : Nat) (r s : Rel) (h : ∀ x y, x < y → y < m → r x y = s x y) : pairsOf m r = pairsOf m s := pairsFrom_congr r s m h m 0 (by omega)
theorem mat_congr (m : Nat) (r s : Rel) (h : ∀ a b, a < m → b < m → r a b = s a b) : mat m r = mat m s := map_range_congr m _ _ fun a ha => map_range_congr m _ _ fun b hb => h a b ha hb
theorem renP_has (m : Nat) (q : List Int) (l : List S70) (hn : natPairs m l) (hj : ∀ i j, i < m → j < m → nm q i = nm q j → i = j) (i j : Nat) (hi : i < m) (hj2 : j < m) : hasP (renP q l) (nm q i) (nm q j) = hasP l i j := by
  unfold hasP renP
  rw [List.any_map, Bool.eq_iff_iff, List.any_eq_true, List.any_eq_true]
  have key : ∀ x ∈ l, ((((nm q x.f0.toNat : Int) == ((nm q i : Nat) : Int)) && ((nm q x.f1.toNat : Int) == ((nm q j : Nat) : Int)) || ((nm q x.f0.toNat : Int) == ((nm q j : Nat) : Int)) && ((nm q x.f1.toNat : Int) == ((nm q i : Nat) : Int))) = true ↔ ((x.f0 == (i : Int) && x.f1 == (j : Int)) || (x.f0 == (j : Int) && x.f1 == (i : Int))) = true) := fun x hx => by
    obtain ⟨a, b, rfl, hab, hb⟩ := hn x hx
    simp only [Int.toNat_natCast, Bool.or_eq_true, Bool.and_eq_true, beq_iff_eq]
    have f : ∀ u v, u < m → v < m → (((nm q u : Nat) : Int) = ((nm q v : Nat) : Int) ↔ (u : Int) = (v : Int)) := fun u v hu hv => by
      constructor
      · intro h; have := hj u v hu hv (by omega); omega
      · intro h; have e : u = v := by omega
        rw [e]
    rw [f a i (by omega) hi, f b j (by omega) hj2, f a j (by omega) hj2, f b i (by omega) hi]
  exact ⟨fun ⟨x, hx, h⟩ => ⟨x, hx, (key x hx).1 h⟩, fun ⟨x, hx, h⟩ => ⟨x, hx, (key x hx).2 h⟩⟩
open Classical in
noncomputable def rnS (m : Nat) (q : List Int) (l : List S70) (a b : Nat) : Rel := fun x y => if ∃ i j, (i < a ∨ (i = a ∧ j < b)) ∧ i < m ∧ j < m ∧ nm q i = x ∧ nm q j = y then hasP (renP q l) x y else false
theorem rnS_step (m : Nat) (q : List Int) (l : List S70) (hn : natPairs m l) (hj : ∀ i j, i < m → j < m → nm q i = nm q j → i = j) (a b : Nat) (ha : a < m) (hb : b < m) : mat m (upd (rnS m q l a b) (nm q a) (nm q b) (hasP l a b)) = mat m (rnS m q l a (b + 1)) := by
  refine mat_congr m _ _ fun x y hx hy => ?_
  unfold upd
  by_cases h : x = nm q a ∧ y = nm q b
  · obtain ⟨rfl, rfl⟩ := h
    rw [if_pos ⟨rfl, rfl⟩]
    unfold rnS
    rw [if_pos ⟨a, b, .inr ⟨rfl, by omega⟩, ha, hb, rfl, rfl⟩, renP_has m q l hn hj a b ha hb]
  · rw [if_neg h]
    unfold rnS
    have : (∃ i j, (i < a ∨ (i = a ∧ j < b)) ∧ i < m ∧ j < m ∧ nm q i = x ∧ nm q j = y) ↔ (∃ i j, (i < a ∨ (i = a ∧ j < b + 1)) ∧ i < m ∧ j < m ∧ nm q i = x ∧ nm q j = y) := by
      constructor
      · rintro ⟨i, j, h1, h2⟩
        exact ⟨i, j, by omega, h2⟩
      · rintro ⟨i, j, h1, h2, h3, h4, h5⟩
        refine ⟨i, j, ?_, h2, h3, h4, h5⟩
        by_cases e : i = a ∧ j = b
        · obtain ⟨rfl, rfl⟩ := e
          exact absurd ⟨h4.symm, h5.symm⟩ h
        · omega
    by_cases hc : ∃ i j, (i < a ∨ (i = a ∧ j < b)) ∧ i < m ∧ j < m ∧ nm q i = x ∧ nm q j = y
    · rw [if_pos hc, if_pos (this.1 hc)]
    · rw [if_neg hc, if_neg (fun h2 => hc (this.2 h2))]
theorem rn1_f (m : Nat) (q : List Int) (l : List S70) (hn : natPairs m l) (hq : q.length = m) (hb : ∀ i, i < m → rd q (i : Int) = (nm q i : Int) ∧ nm q i < m) (hj : ∀ i j, i < m → j < m → nm q i = nm q j → i = j) (a : Nat) (ha : a < m) : ∀ (d b : Nat), b + d = m → rn1 q (mat m (hasP l)) a d b (mat m (rnS m q l a b)) = some (mat m (rnS m q l a m))
  | 0, b, hd => by
    obtain rfl : b = m := by omega
    rw [rn1]
  | d + 1, b, hd => by
    have e1 := hb a ha
    have e2 := hb b (by omega)
    have r1 : (rd_L4 (mat m (rnS m q l a b)) (nm q a : Int)).length = m := by rw [mat_row _ _ _ e1.2]; simp
    have r2 : (rd_L4 (mat m (hasP l)) (a : Int)).length = m := by rw [mat_row _ _ _ ha]; simp
    rw [rn1, e1.1, e2.1, if_pos ⟨⟨⟨by omega, by rw [mat_len]; omega⟩, by omega, by rw [r1]; omega⟩, by omega, by omega, by rw [r2]; omega⟩, Int.toNat_natCast, Int.toNat_natCast, mat_at m _ a b ha (by omega), mat_set m _ _ _ _ e1.2, rnS_step m q l hn hj a b ha (by omega)]
    exact rn1_f m q l hn hq hb hj a ha d (b + 1) (by omega)
theorem rnS_row (m : Nat) (q : List Int) (l : List S70) (a : Nat) : mat m (rnS m q l a m) = mat m (rnS m q l (a + 1) 0) := by
  refine mat_congr m _ _ fun x y hx hy => ?_
  unfold rnS
  have : (∃ i j, (i < a ∨ (i = a ∧ j < m)) ∧ i < m ∧ j < m ∧ nm q i = x ∧ nm q j = y) ↔ (∃ i j, (i < a + 1 ∨ (i = a + 1 ∧ j < 0)) ∧ i < m ∧ j < m ∧ nm q i = x ∧ nm q j = y) :=
    ⟨fun ⟨i, j, h1, h2⟩ => ⟨i, j, by omega, h2⟩, fun ⟨i, j, h1, h2, h3, h4⟩ => ⟨i, j, by omega, h2, h3, h4⟩⟩
  by_cases hc : ∃ i j, (i < a ∨ (i = a ∧ j < m)) ∧ i < m ∧ j < m ∧ nm q i = x ∧ nm q j = y
  · rw [if_pos hc, if_pos (this.1 hc)]
  · rw [if_neg hc, if_neg (fun h2 => hc (this.2 h2))]
theorem rn0_f (m : Nat) (q : List Int) (l : List S70) (hn : natPairs m l) (hq : q.length = m) (hb : ∀ i, i < m → rd q (i : Int) = (nm q i : Int) ∧ nm q i < m) (hj : ∀ i j, i < m → j < m → nm q i = nm q j → i = j) : ∀ (d a : Nat), a + d = m → rn0 q (mat m (hasP l)) d a (mat m (rnS m q l a 0)) = some (mat m (rnS m q l m 0))
  | 0, a, hd => by
    obtain rfl : a = m := by omega
    rw [rn0]
  | d + 1, a, hd => by
    rw [rn0, mat_len, rn1_f m q l hn hq hb hj a (by omega) m 0 (by omega), Option.bind_some, rnS_row]
    exact rn0_f m q l hn hq hb hj d (a + 1) (by omega)
theorem rnS_all (m : Nat) (q : List Int) (l : List S70) (hs : ∀ x, x < m → ∃ i, i < m ∧ nm q i = x) (x y : Nat) (hx : x < m) (hy : y < m) : rnS m q l m 0 x y = hasP (renP q l) x y := by
  obtain ⟨i, hi, ei⟩ := hs x hx
  obtain ⟨j, hj, ej⟩ := hs y hy
  unfold rnS
  rw [if_pos ⟨i, j, .inl hi, hi, hj, ei, ej⟩]
theorem rnS_zero (m : Nat) (q : List Int) (l : List S70) : mat m (rnS m q l 0 0) = mat m (hasP []) := by
  refine mat_congr m _ _ fun x y hx hy => ?_
  unfold rnS
  rw [if_neg (fun ⟨i, j, h1, _⟩ => by omega)]; rfl
theorem paRename_ev (m : Nat) (hm : m ≤ 12) (q : List Int) (l : List S70) (hl : l.length ≤ 1048576) (hn : natPairs m l) (hp : isPerm m q = true) : Ev (fun k => spec_paRename.f k (m : Int) l q) ((m : Int), pairsOf m (hasP (renP q l))) := by
  obtain ⟨hq, hb, hj, hs⟩ := isPerm_facts m q hp
  unfold spec_paRename.f
  refine Ev.bind (paTable_ev m hm l (by omega) hn) ?_
  simp only [mat_len, if_pos (show m ≤ 1000 by omega)]
  refine Ev.bind (paTable_ev m hm [] (by simp) (fun x hx => by cases hx)) ?_
  have h0 := rn0_f m q l hn hq hb hj m 0 (by omega)
  rw [rnS_zero] at h0
  simp only [h0, Option.bind_some]
  refine Ev.cast (paOf_ev m hm _) ?_
  rw [pairsOf_congr m _ _ fun x y hxy hy => rnS_all m q l hs x y (by omega) hy]
theorem ltL_irrefl : ∀ a : List S70, ltL a a = false
  | [] => rfl
  | x :: a => by rw [ltL, if_pos rfl]; exact ltL_irrefl a
theorem lt2_tri {x y : S70} (h : x ≠ y) : lt2 x y = !lt2 y x := by
  obtain ⟨a, b⟩ := x
  obtain ⟨c, d⟩ := y
  have h2 : ¬ (a = c ∧ b = d) := fun h3 => h (by rw [h3.1, h3.2])
  unfold lt2
  rw [Bool.eq_iff_iff]
  simp only [Bool.or_eq_true, Bool.and_eq_true, decide_eq_true_eq, Bool.not_eq_true', Bool.or_eq_false_iff, Bool.and_eq_false_imp, decide_eq_false_iff_not]
  omega
theorem ltL_tri : ∀ {a b : List S70}, a ≠ b → ltL a b = !ltL b a
  | [], [], h => absurd rfl h
  | [], y :: b, _ => rfl
  | x :: a, [], _ => rfl
  | x :: a, y :: b, h => by
    rw [ltL, ltL]
    by_cases e : x = y
    · subst e
      rw [if_pos rfl, if_pos rfl]
      exact ltL_tri fun e => h (by rw [e])
    · rw [if_neg e, if_neg (fun e2 => e e2.symm)]
      exact lt2_tri e
theorem same_ev (a b : List S70) (ha : a.length < 4611686018427387904) (hb : b.length < 4611686018427387904) (n : Int) : Ev (fun k => spec_paSame.f k n a n b) (decide (a = b)) := by
  unfold spec_paSame.f
  simp only [if_true]
  refine Ev.bind (before_ev a b ha n n) ?_
  cases h : ltL a b with
  | true =>
    simp only [if_true]
    refine Ev.cast (Ev.now _) ?_
    symm
    refine decide_eq_false fun e => ?_
    rw [e, ltL_irrefl] at h
    cases h
  | false =>
    simp only [Bool.false_eq_true, if_false]
    refine Ev.bind (before_ev b a hb n n) ?_
    refine Ev.cast (Ev.now _) ?_
    by_cases e : a = b
    · rw [e, ltL_irrefl]; simp
    · have := ltL_tri e
      rw [h] at this
      rw [decide_eq_false e]
      cases h2 : ltL b a with
      | true => rfl
      | false => rw [h2] at this; cases this
theorem paLeast_l0 (m : Nat) (hm : m ≤ 7) (l : List S70) (hl : l.length ≤ 1048576) (hn : natPairs m l) (T : List (List Int)) (hT : ∀ q ∈ T, isPerm m q = true) (hTl : T.length ≤ 1000000) :
    ∀ (rest pre : List (List Int)) (b : List S70) (c : Nat), T = pre ++ rest → b.length ≤ 1048576 → c ≤ pre.length → Ev (fun k => spec_paLeast.l0 k (c : Int) T (T.length : Int) (pre.length : Int) (m : Int) l (m : Int) b) ((m : Int), (rest.foldl (cstep (actP m l)) (b, c)).1, ((rest.foldl (cstep (actP m l)) (b, c)).2 : Int))
  | [], pre, b, c, e, hb, hc => by
    have el : T.length = pre.length := by rw [e]; simp
    refine Ev.one fun k => ?_
    rw [spec_paLeast.l0, if_neg (by omega)]; rfl
  | q :: rest, pre, b, c, e, hb, hc => by
    have el : T.length = pre.length + (rest.length + 1) := by rw [e]; simp
    have hq : rd_L7 T (pre.length : Int) = q := by
      rw [e]
      show (pre ++ q :: rest).getD (pre.length : Int).toNat [] = q
      rw [Int.toNat_natCast]; simp [List.getD_eq_getElem?_getD]
    have hw : wrap64 ((pre.length : Int) + 1) = ((pre ++ [q]).length : Int) := by rw [List.length_append, List.length_singleton]; unfold wrap64; omega
    have hwc : wrap64 ((c : Int) + 1) = ((c + 1 : Nat) : Int) := by unfold wrap64; omega
    have hpq := hT q (by rw [e]; simp)
    have hal : (actP m l q).length ≤ 144 := pairsOf_len m (by omega) _
    refine Ev.step (f := fun k => (spec_paRename.f k (m : Int) l q).bind fun bt208 => ((spec_paBefore.f k bt208.1 bt208.2 (m : Int) b).bind fun t213 => (if t213 = true then (spec_paLeast.l0 k 1 T (T.length : Int) ((pre ++ [q]).length : Int) (m : Int) l bt208.1 bt208.2) else ((spec_paSame.f k bt208.1 bt208.2 (m : Int) b).bind fun t214 => (if t214 = true then (spec_paLeast.l0 k ((c + 1 : Nat) : Int) T (T.length : Int) ((pre ++ [q]).length : Int) (m : Int) l (m : Int) b) else (spec_paLeast.l0 k (c : Int) T (T.length : Int) ((pre ++ [q]).length : Int) (m : Int) l (m : Int) b)))))) (fun k => ?_) ?_
    · rw [spec_paLeast.l0, if_pos (by omega), if_pos (by omega), if_pos (by omega), hq, hw, hwc]
    refine Ev.bind (paRename_ev m (by omega) q l hl hn hpq) ?_
    refine Ev.bind (before_ev (actP m l q) b (by omega) (m : Int) (m : Int)) ?_
    rw [List.foldl_cons]
    have hst : cstep (actP m l) (b, c) q = if ltL (actP m l q) b = true then (actP m l q, 1) else if actP m l q = b then (b, c + 1) else (b, c) := rfl
    rw [hst]
    cases hlt : ltL (actP m l q) b with
    | true =>
      simp only [if_true]
      exact paLeast_l0 m hm l hl hn T hT hTl rest (pre ++ [q]) (actP m l q) 1 (by rw [e]; simp) (by omega) (by simp)
    | false =>
      simp only [Bool.false_eq_true, if_false]
      refine Ev.bind (same_ev (actP m l q) b (by omega) (by omega) (m : Int)) ?_
      by_cases he : actP m l q = b
      · simp only [decide_eq_true he, if_true, if_pos he]
        exact paLeast_l0 m hm l hl hn T hT hTl rest (pre ++ [q]) b (c + 1) (by rw [e]; simp) hb (by simp; omega)
      · simp only [decide_eq_false he, Bool.false_eq_true, if_false, if_neg he]
        exact paLeast_l0 m hm l hl hn T hT hTl rest (pre ++ [q]) b c (by rw [e]; simp) hb (by simp; omega)
theorem rns_short (m : Nat) (hm : m ≤ 7) : (rns m m []).length ≤ 5040 := by
  rw [rns_len m m [] (permL_nil m) (by simp)]
  exact fact_le m hm
theorem paLeast_ev (m : Nat) (hm : m ≤ 7) (l : List S70) (hl : l.length ≤ 1048576) (hn : natPairs m l) : Ev (fun k => spec_paLeast.f k (m : Int) l) ((m : Int), (leastC m l).1, ((leastC m l).2 : Int)) := by
  unfold spec_paLeast.f
  refine Ev.bind (names_ev m hm m [] (permL_nil m) (by simp)) ?_
  exact paLeast_l0 m hm l hl hn (rns m m []) (rns_perm m) (Nat.le_trans (rns_short m hm) (by decide)) (rns m m []) [] l 0 rfl hl (Nat.le_refl _)
theorem sSame_no (a0 : Int) (l0 : List S70) (a1 : Int) (l1 : List S70) : Ev (fun k => spec_AreSame.j0 k true a0 l0 a1 l1) (false, false) := Ev.one fun k => by rw [spec_AreSame.j0, if_pos rfl]
theorem AreSame_common (a0 : Int) (l0 : List S70) (a1 : Int) (l1 : List S70) (w0 : (Lit.int .i64 a0).wf = true) (hl0 : l0.length ≤ 1048576) (w1 : (Lit.int .i64 a1).wf = true) (hl1 : l1.length ≤ 1048576) : ∃ R : Bool × Bool, Ev (fun k => spec_AreSame.f k a0 l0 a1 l1) R ∧ Ev (fun k => impl_AreSame.f k a0 l0 a1 l1) R := by
  have s0 := paFew_ev a0 l0 (by omega)
  have s1 := paFew_ev a1 l1 (by omega)
  have i0 := areRenamed_ev a0 l0 (by omega)
  have i1 := areRenamed_ev a1 l1 (by omega)
  unfold spec_AreSame.f impl_AreSame.f
  cases h0 : (good a0 l0 && decide (a0 ≤ 7)) with
  | false =>
    rw [h0] at s0 i0
    refine ⟨(false, false), Ev.bind s0 ?_, Ev.bind i0 ?_⟩
    · simp only [Bool.false_eq_true, if_false]; exact sSame_no _ _ _ _
    · simp only [Bool.false_eq_true, if_false]; exact iSame_no _ _ _ _
  | true =>
    rw [h0] at s0 i0
    cases h1 : (good a1 l1 && decide (a1 ≤ 7)) with
    | false =>
      rw [h1] at s1 i1
      refine ⟨(false, false), Ev.bind s0 ?_, Ev.bind i0 ?_⟩
      · simp only [if_true]; refine Ev.bind s1 ?_; simp only [Bool.not_false]; exact sSame_no _ _ _ _
      · simp only [if_true]; refine Ev.bind i1 ?_; simp only [Bool.not_false]; exact iSame_no _ _ _ _
    | true =>
      rw [h1] at s1 i1
      by_cases hn : a0 = a1
      · by_cases hl : (l0.length : Int) = (l1.length : Int)
        · subst hn
          rw [Bool.and_eq_true, decide_eq_true_eq] at h0 h1
          obtain ⟨m, rfl, hm, hn0, ho0⟩ := good_nat h0.1
          obtain ⟨m', e, _, hn1, ho1⟩ := good_nat h1.1
          obtain rfl : m' = m := by omega
          have hm7 : m' ≤ 7 := by omega
          have ll0 := leastC_len m' hm l0 hn0 ho0
          have ll1 := leastC_len m' hm l1 hn1 ho1
          refine ⟨(decide ((leastC m' l0).1 = (leastC m' l1).1), true), Ev.bind s0 ?_, Ev.bind i0 ?_⟩
          · simp only [if_true]; refine Ev.bind s1 ?_; simp only [Bool.not_true]
            refine Ev.step (f := fun k => spec_AreSame.j1 k false (m' : Int) l0 (m' : Int) l1) (fun k => ?_) ?_
            · rw [spec_AreSame.j0, if_neg (by simp), if_pos rfl, hl, bne_self_eq_false]
            refine Ev.step (f := fun k => (spec_paLeast.f k (m' : Int) l0).bind fun bt1 => (spec_paLeast.f k (m' : Int) l1).bind fun bt2 => (spec_paSame.f k bt1.1 bt1.2.1 bt2.1 bt2.2.1).bind fun t => some (t, true)) (fun k => ?_) ?_
            · rw [spec_AreSame.j1, if_neg (by simp)]
            refine Ev.bind (paLeast_ev m' hm7 l0 hl0 hn0) ?_
            refine Ev.bind (paLeast_ev m' hm7 l1 hl1 hn1) ?_
            refine Ev.bind (same_ev (leastC m' l0).1 (leastC m' l1).1 (by omega) (by omega) (m' : Int)) ?_
            exact Ev.now _
          · simp only [if_true]; refine Ev.bind i1 ?_; simp only [Bool.not_true]
            refine Ev.step (f := fun k => (impl_least.f k (m' : Int) l0).bind fun bt1 => (impl_least.f k (m' : Int) l1).bind fun bt2 => (impl_compareParties.f k bt1.1 bt1.2 bt2.1 bt2.2).bind fun t => some ((t == 0), true)) (fun k => ?_) ?_
            · rw [impl_AreSame.j0, if_neg (by simp), if_pos rfl, if_pos hl]
            refine Ev.bind (least_ev m' hm7 l0 hl0 hn0) ?_
            refine Ev.bind (least_ev m' hm7 l1 hl1 hn1) ?_
            refine Ev.bind (compareParties_ev (m' : Int) (m' : Int) (leastC m' l0).1 (leastC m' l1).1 (by omega)) ?_
            refine Ev.cast (Ev.now _) ?_
            congr 1
            rw [Bool.eq_iff_iff, beq_iff_eq, decide_eq_true_eq]
            exact cmpT_zero _ _
        · refine ⟨(false, true), Ev.bind s0 ?_, Ev.bind i0 ?_⟩
          · simp only [if_true]; refine Ev.bind s1 ?_; simp only [Bool.not_true]
            refine Ev.step (f := fun k => spec_AreSame.j1 k true a0 l0 a1 l1) (fun k => ?_) (Ev.one fun k => by rw [spec_AreSame.j1, if_pos rfl])
            rw [spec_AreSame.j0, if_neg (by simp), if_pos hn, show ((l0.length : Int) != (l1.length : Int)) = true from bne_iff_ne.2 hl]
          · simp only [if_true]; refine Ev.bind i1 ?_; simp only [Bool.not_true]
            refine Ev.one fun k => ?_
            rw [impl_AreSame.j0, if_neg (by simp), if_pos hn, if_neg hl]
      · refine ⟨(false, true), Ev.bind s0 ?_, Ev.bind i0 ?_⟩
        · simp only [if_true]; refine Ev.bind s1 ?_; simp only [Bool.not_true]
          refine Ev.step (f := fun k => spec_AreSame.j1 k true a0 l0 a1 l1) (fun k => ?_) (Ev.one fun k => by rw [spec_AreSame.j1, if_pos rfl])
          rw [spec_AreSame.j0, if_neg (by simp), if_neg hn]
        · simp only [if_true]; refine Ev.bind i1 ?_; simp only [Bool.not_true]
          refine Ev.one fun k => ?_
          rw [impl_AreSame.j0, if_neg (by simp), if_neg hn]

def conv (l : List S86) : List S70 := l.map fun x => ⟨x.f0, x.f1⟩
theorem conv_len (l : List S86) : (conv l).length = l.length := by simp [conv]
theorem eqPairS_l0 (l : List S70) (hl : l.length < 4611686018427387904) : ∀ (d i : Nat), i + d = l.length → Ev (fun k => laws_eqPairS.l0 k l l i) true
  | 0, i, hd => by
    refine Ev.one (fun k => ?_)
    rw [laws_eqPairS.l0, if_neg (by omega)]
  | d + 1, i, hd => by
    refine Ev.step (fun k => ?_) (eqPairS_l0 l hl d (i + 1) (by omega))
    rw [laws_eqPairS.l0, if_pos (by omega), if_pos (by omega), if_pos (by omega), laws_eqPair.f, if_pos rfl, if_pos rfl, w1 (by omega)]
    rfl
theorem eqParty_self (a : Int) (l : List S70) (hl : l.length < 4611686018427387904) : Ev (fun k => laws_eqParty.f k a l a l) true := by
  unfold laws_eqParty.f laws_eqPairS.f
  simp only [if_true]
  have h : Ev (fun k => laws_eqPairS.l0 k l l 0) true := by simpa using eqPairS_l0 l hl l.length 0 (by omega)
  refine Ev.bind h ?_
  simp only [if_true]
  exact Ev.now _

theorem szParty_f (a0 : Int) (l : List S86) (a1 : Int) (h0 : 0 ≤ a1) (h1 : a1 ≤ 1048576) (hl : l.length ≤ maxLen) : laws_szParty.f a0 l a1 = some (if a1 - l.length < 0 then -1 else a1 - l.length) := by
  unfold maxLen at hl
  unfold laws_szParty.f laws_szPairS.f
  rw [w64 (by omega) (by omega)]
  by_cases h : a1 - l.length < 0
  · simp [h]
  · simp [h]
theorem getD_of_get {α : Type} (l : List α) (i : Nat) (d x : α) (h : l[i]? = some x) : l.getD i d = x := by rw [List.getD_eq_getElem?_getD, h]; rfl
theorem toPairS_l0 (l : List S86) (hl : l.length < 4611686018427387904) : ∀ (d i : Nat) (y : List S70), i + d = l.length → y.length = l.length → (∀ j, j < i → y[j]? = (conv l)[j]?) → Ev (fun k => laws_toPairS.l0 k l y i) (conv l)
  | 0, i, y, hd, hy, h => by
    refine Ev.one (fun k => ?_)
    have e : y = conv l := by
      apply List.ext_getElem?
      intro j
      by_cases hj : j < i
      · exact h j hj
      · rw [List.getElem?_eq_none (by omega), List.getElem?_eq_none (by rw [conv_len]; omega)]
    rw [laws_toPairS.l0, if_neg (by omega), e]
  | d + 1, i, y, hd, hy, h => by
    have hi : i < l.length := by omega
    have hx : rd_T86 l (i : Int) = l[i] := getD_of_get l i _ _ (List.getElem?_eq_getElem hi)
    refine Ev.step (fun k => ?_) (toPairS_l0 l hl d (i + 1) (y.set i ⟨l[i].f0, l[i].f1⟩) (by omega) (by simpa using hy) ?_)
    · rw [laws_toPairS.l0, if_pos (by omega), if_pos (by omega), hx, laws_toPair.f]
      simp only [Option.bind_some]
      rw [if_pos (by omega), w1 (by omega)]
      rfl
    · intro j hj
      rw [List.getElem?_set]
      by_cases e : i = j
      · subst e
        have hiy : i < y.length := by omega
        simp [conv, hi, hiy]
      · rw [if_neg e]; exact h j (by omega)
theorem toPairS_ev (l : List S86) (hl : l.length ≤ 17592186044416) : Ev (fun k => laws_toPairS.f k l) (conv l) := by
  unfold laws_toPairS.f
  simp only [if_pos (show (0 : Int) ≤ (l.length : Int) by omega), if_pos (show ((l.length : Int) : Int).toNat ≤ 17592186044416 by simpa using hl)]
  exact toPairS_l0 l (by omega) l.length 0 _ (by omega) (by simp) (fun j hj => absurd hj (Nat.not_lt_zero _))
theorem toParty_ev (a : Int) (l : List S86) (hl : l.length ≤ 17592186044416) : Ev (fun k => laws_toParty.f k a l) (a, conv l) := by
  unfold laws_toParty.f
  exact Ev.bind (toPairS_ev l hl) (Ev.now _)
theorem FnExactAreSame : ∀ (a0 : Int) (l0 : List S86) (a1 : Int) (l1 : List S86), (Lit.int .i64 a0).wf = true → l0.length ≤ maxLen → (∀ x ∈ l0, ∃ m n : Int, x = ⟨m, n⟩ ∧ (Lit.int .i64 m).wf = true ∧ (Lit.int .i64 n).wf = true) → (Lit.int .i64 a1).wf = true → l1.length ≤ maxLen → (∀ x ∈ l1, ∃ m n : Int, x = ⟨m, n⟩ ∧ (Lit.int .i64 m).wf = true ∧ (Lit.int .i64 n).wf = true) → ∃ k, laws_FnExactAreSame.f k a0 l0 a1 l1 = some true := by
  intro a0 l0 a1 l1 w0 hm0 hw0 w1 hm1 hw1
  refine Ev.rounds ?_
  unfold laws_FnExactAreSame.f
  simp only [szParty_f a0 l0 1048576 (by omega) (by omega) hm0, Option.bind_some]
  by_cases hg0 : 1048576 - (l0.length : Int) < 0
  · simp only [if_pos hg0, show ((-1 : Int) < 0) from by decide, if_true]; exact Ev.now _
  simp only [if_neg hg0]
  simp only [szParty_f a1 l1 (1048576 - (l0.length : Int)) (by omega) (by omega) hm1, Option.bind_some]
  by_cases hg1 : 1048576 - (l0.length : Int) - (l1.length : Int) < 0
  · simp only [if_pos hg1, show ((-1 : Int) < 0) from by decide, if_true]; exact Ev.now _
  simp only [if_neg hg1]
  have hlen0 : l0.length ≤ 1048576 := by omega
  have hcl0 := conv_len l0
  have hlen1 : l1.length ≤ 1048576 := by omega
  have hcl1 := conv_len l1
  obtain ⟨R, hs, hi⟩ := AreSame_common a0 (conv l0) a1 (conv l1) w0 (by rw [conv_len]; omega) w1 (by rw [conv_len]; omega)
  refine Ev.bind (toParty_ev a0 l0 (by omega)) ?_
  refine Ev.bind (toParty_ev a1 l1 (by omega)) ?_
  refine Ev.bind hs ?_
  try simp only [if_true, if_false, bne_self_eq_false, Bool.false_eq_true, ↓reduceIte, decide_true]
  refine Ev.bind (toParty_ev a0 l0 (by omega)) ?_
  refine Ev.bind (toParty_ev a1 l1 (by omega)) ?_
  refine Ev.bind hi ?_
  try simp only [if_true, if_false, bne_self_eq_false, Bool.false_eq_true, ↓reduceIte, decide_true]
  try simp only [if_true, if_false, bne_self_eq_false, Bool.false_eq_true, ↓reduceIte, decide_true]
  refine Ev.step (fun k => rfl) ?_
  simp only [laws_FnExactAreSame.j0]
  try simp only [if_true, if_false, bne_self_eq_false, Bool.false_eq_true, ↓reduceIte, decide_true]
  refine Ev.bind (toParty_ev a0 l0 (by omega)) ?_
  refine Ev.bind (eqParty_self a0 (conv l0) (by omega)) ?_
  try simp only [if_true, if_false, bne_self_eq_false, Bool.false_eq_true, ↓reduceIte, decide_true]
  refine Ev.bind (toParty_ev a1 l1 (by omega)) ?_
  refine Ev.bind (eqParty_self a1 (conv l1) (by omega)) ?_
  try simp only [if_true, if_false, bne_self_eq_false, Bool.false_eq_true, ↓reduceIte, decide_true]
  exact Ev.now _
end Go.Proofs.Ytoedkkoafidalaa.Pure
