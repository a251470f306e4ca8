/- The program's TuranParty returns what the reference's returns, for all arguments (the plain statement behind the printed walk); no condition. -/
import Derived.Test.YtiopgbpjkjnphaaPx0
import Derived.Test.YtiopgbpjkjnphaaPx11
import Derived.Test.YtiopgbpjkjnphaaPx12
import Derived.Test.YtiopgbpjkjnphaaPx14
import Derived.Test.YtiopgbpjkjnphaaPx2
import Derived.Test.YtiopgbpjkjnphaaPx29
import Derived.Test.YtiopgbpjkjnphaaPx6
namespace Go.Proofs.Ytiopgbpjkjnphaa.Pure
open Go.RowKit Go.Proofs.Ytiopgbpjkjnphaa.P Go.Proofs.YtiopgbpjkjnphaaW.PrintWords Go.Proofs.YtiopgbpjkjnphaaW.PrintLast
set_option linter.unusedSimpArgs false
set_option linter.unusedVariables false
theorem Ev.one {α : Type} {g : Nat → Option α} {r : α} (h : ∀ k, g (k + 1) = some r) : Ev g r := Ev.step h (Ev.now r)
def samePair (x y : S61) : Bool := x.f0 == y.f0 && x.f1 == y.f1
def samePairs : List S61 → List S61 → Bool
  | [], [] => true
  | x :: xs, y :: ys => samePair x y && samePairs xs ys
  | _, _ => false
/-- two answers are there, alike, and not long -/
def agree : Option (Int × List S61 × Bool) → Option (Int × List S61 × Bool) → Bool
  | some r, some q => r.1 == q.1 && (samePairs r.2.1 q.2.1 && (r.2.2 == q.2.2 && decide (r.2.1.length ≤ 1048576)))
  | _, _ => false
theorem samePair_eq {x y : S61} (h : samePair x y = true) : x = y := by
  obtain ⟨a, b⟩ := x
  obtain ⟨c, d⟩ := y
  simp only [samePair, Bool.and_eq_true, beq_iff_eq] at h
  obtain ⟨rfl, rfl⟩ := h
  rfl
theorem samePairs_eq : ∀ {xs ys : List S61}, samePairs xs ys = true → xs = ys
  | [], [], _ => rfl
  | [], _ :: _, h => by simp [samePairs] at h
  | _ :: _, [], h => by simp [samePairs] at h
  | x :: xs, y :: ys, h => by
    simp only [samePairs, Bool.and_eq_true] at h
    rw [samePair_eq h.1, samePairs_eq h.2]
theorem agree_some {a b : Option (Int × List S61 × Bool)} (h : agree a b = true) : ∃ R, a = some R ∧ b = some R ∧ R.2.1.length ≤ 1048576 := by
  cases a with
  | none => simp [agree] at h
  | some r =>
    cases b with
    | none => simp [agree] at h
    | some q =>
      simp only [agree, Bool.and_eq_true, beq_iff_eq, decide_eq_true_eq] at h
      obtain ⟨h1, h2, h3, h4⟩ := h
      obtain ⟨r1, r2, r3⟩ := r
      obtain ⟨q1, q2, q3⟩ := q
      simp only at h1 h2 h3 h4
      obtain rfl := samePairs_eq h2
      subst h1 h3
      exact ⟨_, rfl, rfl, h4⟩
theorem l1In_f (a lo hi : Int) : spec_l1In.f a lo hi = some (decide (lo ≤ a) && decide (a ≤ hi)) := by
  unfold spec_l1In.f
  by_cases h : lo ≤ a
  · rw [if_pos h]; simp [h]
  · rw [if_neg h]; simp [h]
theorem turan_in : ∀ i : Fin 12, ∀ j : Fin 12, j.val ≤ i.val → agree (spec_TuranParty.f 400 ((i.val : Int) + 1) ((j.val : Int) + 1)) (impl_TuranParty.f 400 ((i.val : Int) + 1) ((j.val : Int) + 1)) = true := by decide +kernel
theorem within_f (a lo hi : Int) : impl_within.f a lo hi = some (decide (lo ≤ a) && decide (a ≤ hi)) := by
  unfold impl_within.f
  by_cases h : lo ≤ a
  · rw [if_pos h]; simp [h]
  · rw [if_neg h]; simp [h]
theorem TuranParty_common (a b : Int) (wa : (Lit.int .i64 a).wf = true) (wb : (Lit.int .i64 b).wf = true) : ∃ R : Int × List S61 × Bool, Ev (fun k => spec_TuranParty.f k a b) R ∧ Ev (fun k => impl_TuranParty.f k a b) R ∧ R.2.1.length ≤ 1048576 := by
  by_cases h : (1 ≤ a ∧ a ≤ 12) ∧ (1 ≤ b ∧ b ≤ a)
  · obtain ⟨h1, h2⟩ := h
    have hm := turan_in ⟨(a - 1).toNat, by omega⟩ ⟨(b - 1).toNat, by omega⟩ (by show (b - 1).toNat ≤ (a - 1).toNat; omega)
    have e1 : (((a - 1).toNat : Nat) : Int) + 1 = a := by omega
    have e2 : (((b - 1).toNat : Nat) : Int) + 1 = b := by omega
    have hm2 : agree (spec_TuranParty.f 400 ((((a - 1).toNat : Nat) : Int) + 1) ((((b - 1).toNat : Nat) : Int) + 1)) (impl_TuranParty.f 400 ((((a - 1).toNat : Nat) : Int) + 1) ((((b - 1).toNat : Nat) : Int) + 1)) = true := hm
    rw [e1, e2] at hm2
    obtain ⟨R, hs, hi, hl⟩ := agree_some hm2
    exact ⟨R, Ev.of (fun k => spec_TuranParty.mono a b k) hs, Ev.of (fun k => impl_TuranParty.mono a b k) hi, hl⟩
  · refine ⟨(0, [], false), Ev.one (fun k => ?_), Ev.one (fun k => ?_), by simp⟩
    · unfold spec_TuranParty.f
      simp only [l1In_f, Option.bind_some]
      by_cases h1 : 1 ≤ a ∧ a ≤ 12
      · have e1 : (decide (1 ≤ a) && decide (a ≤ 12)) = true := by simp; omega
        have e2 : (decide (1 ≤ b) && decide (b ≤ a)) = false := by simp; omega
        simp only [e1, e2, if_true, Bool.not_false, spec_TuranParty.j0]
      · have e1 : (decide (1 ≤ a) && decide (a ≤ 12)) = false := by simp; omega
        simp only [e1, Bool.false_eq_true, if_false, if_true, spec_TuranParty.j0]
    · unfold impl_TuranParty.f
      simp only [within_f, Option.bind_some]
      by_cases h1 : 1 ≤ a ∧ a ≤ 12
      · have e1 : (decide (1 ≤ a) && decide (a ≤ 12)) = true := by simp; omega
        have e2 : (decide (1 ≤ b) && decide (b ≤ a)) = false := by simp; omega
        simp only [e1, e2, if_true, Bool.not_false, impl_TuranParty.j0]
      · have e1 : (decide (1 ≤ a) && decide (a ≤ 12)) = false := by simp; omega
        simp only [e1, Bool.false_eq_true, if_false, if_true, impl_TuranParty.j0]

theorem w1 {n : Nat} (h : n < 4611686018427387904) : wrap64 ((n : Int) + 1) = ((n + 1 : Nat) : Int) := by unfold wrap64; omega
theorem eqPairS_l0 (l : List S61) (hl : l.length < 4611686018427387904) : ∀ (d i : Nat), i + d = l.length → Ev (fun k => laws_eqPairS.l0 k l l i) true
  | 0, i, hd => by
    refine Ev.one (fun k => ?_)
    rw [laws_eqPairS.l0, if_neg (by omega)]
  | d + 1, i, hd => by
    refine Ev.step (fun k => ?_) (eqPairS_l0 l hl d (i + 1) (by omega))
    rw [laws_eqPairS.l0, if_pos (by omega), if_pos (by omega), if_pos (by omega), laws_eqPair.f, if_pos rfl, if_pos rfl, w1 (by omega)]
    rfl
theorem eqParty_self (a : Int) (l : List S61) (hl : l.length < 4611686018427387904) : Ev (fun k => laws_eqParty.f k a l a l) true := by
  unfold laws_eqParty.f laws_eqPairS.f
  simp only [if_true]
  have h : Ev (fun k => laws_eqPairS.l0 k l l 0) true := by simpa using eqPairS_l0 l hl l.length 0 (by omega)
  refine Ev.bind h ?_
  simp only [if_true]
  exact Ev.now _

/-- The pairs bear the marks m, m+1, .. -/
def MarkedP (m : Int) (z : List S61) : Prop := ∀ j, j < z.length → z[j]? = some ⟨m + 2 * j, m + 2 * j + 1⟩
theorem getD_of_get {α : Type} (l : List α) (i : Nat) (d x : α) (h : l[i]? = some x) : l.getD i d = x := by rw [List.getD_eq_getElem?_getD, h]; rfl
theorem w64 {i : Int} (h0 : -9223372036854775808 ≤ i) (h : i ≤ 9223372036854775807) : wrap64 i = i := by unfold wrap64; omega
theorem heldPairS_l0 (m : Int) (z : List S61) (h0 : 0 ≤ m) (hm : m + 2 * z.length < 4611686018427387904) (hz : MarkedP m z) : ∀ (d i : Nat), i + d = z.length → Ev (fun k => laws_heldPairS.l0 k z (m + 2 * i) i) (m + 2 * z.length)
  | 0, i, hd => by
    refine Ev.one (fun k => ?_)
    rw [laws_heldPairS.l0, if_neg (by omega), show i = z.length by omega]
  | d + 1, i, hd => by
    have hx : rd_T61 z (i : Int) = ⟨m + 2 * i, m + 2 * i + 1⟩ := getD_of_get z i _ _ (hz i (by omega))
    refine Ev.step (fun k => ?_) (heldPairS_l0 m z h0 hm hz d (i + 1) (by omega))
    rw [laws_heldPairS.l0, if_pos (by omega), if_pos (by omega), hx, if_pos rfl, w64 (i := m + 2 * (i : Int) + 1) (by omega) (by omega), if_pos rfl, w1 (by omega), w64 (by omega) (by omega), show m + 2 * (i : Int) + 1 + 1 = m + 2 * ((i + 1 : Nat) : Int) by omega]
theorem heldParty_ev (a : Int) (z : List S61) (m : Int) (h0 : 0 ≤ m) (hm : m + 2 * z.length < 4611686018427387904) (hz : MarkedP m z) : Ev (fun k => laws_heldParty.f k a z m) (m + 2 * z.length) := by
  unfold laws_heldParty.f laws_heldPairS.f
  have hE : Ev (fun k => laws_heldPairS.l0 k z m 0) (m + 2 * z.length) := by simpa using heldPairS_l0 m z h0 hm hz z.length 0 (by omega)
  refine Ev.bind hE ?_
  simp only [if_neg (show ¬ (m + 2 * (z.length : Int) < 0) by omega)]
  exact Ev.now _

theorem rdT_set (y : List S61) (i : Nat) (v : S61) (h : i < y.length) : rd_T61 (y.set i v) (i : Int) = v := getD_of_get _ i _ _ (by rw [List.getElem?_set]; simp [h])
theorem markPairS_l0 (m : Int) (n : Nat) (h0 : 0 ≤ m) (hm : m + 2 * n < 4611686018427387904) : ∀ (d i : Nat) (y : List S61), i + d = n → y.length = n → (∀ j, j < i → y[j]? = some ⟨m + 2 * j, m + 2 * j + 1⟩) → ∃ z : List S61, z.length = n ∧ MarkedP m z ∧ Ev (fun k => laws_markPairS.l0 k y (m + 2 * i) i) (m + 2 * n, z)
  | 0, i, y, hd, hy, h => by
    refine ⟨y, hy, fun j hj => h j (by omega), Ev.one (fun k => ?_)⟩
    rw [laws_markPairS.l0, if_neg (by omega), show i = n by omega]
  | d + 1, i, y, hd, hy, h => by
    have hi : i < y.length := by omega
    obtain ⟨z, hz, hj, hE⟩ := markPairS_l0 m n h0 hm d (i + 1) (y.set i ⟨m + 2 * i, m + 2 * i + 1⟩) (by omega) (by simpa using hy) (fun j hj => by
      rw [List.getElem?_set]
      by_cases e : i = j
      · subst e; simp [hi]
      · rw [if_neg e]; exact h j (by omega))
    refine ⟨z, hz, hj, Ev.step (fun k => ?_) hE⟩
    rw [laws_markPairS.l0, if_pos (by omega), if_pos (by omega)]
    simp only [Option.bind_some, Int.toNat_natCast]
    rw [rdT_set _ _ _ (by omega), List.set_set, w1 (by omega), w64 (i := m + 2 * (i : Int) + 1) (by omega) (by omega), w64 (by omega) (by omega), show m + 2 * (i : Int) + 1 + 1 = m + 2 * ((i + 1 : Nat) : Int) by omega]
theorem markParty_ev (a : Int) (y : List S61) (m : Int) (h0 : 0 ≤ m) (hm : m + 2 * y.length < 4611686018427387904) : ∃ z : List S61, z.length = y.length ∧ MarkedP m z ∧ Ev (fun k => laws_markParty.f k a y m) (m + 2 * y.length, z) := by
  obtain ⟨z, hz, hj, hE⟩ := markPairS_l0 m y.length h0 hm y.length 0 y (by omega) rfl (fun j hj => absurd hj (Nat.not_lt_zero _))
  refine ⟨z, hz, hj, ?_⟩
  unfold laws_markParty.f laws_markPairS.f
  have hE' : Ev (fun k => laws_markPairS.l0 k y m 0) (m + 2 * y.length, z) := by simpa using hE
  exact Ev.bind hE' (Ev.now _)
theorem FnExactTuranParty : laws_FnExactTuranParty.Pure := by
  intro a0 a1 w0 w1
  refine Ev.rounds ?_
  unfold laws_FnExactTuranParty.f
  obtain ⟨R, hs, hi, hr0⟩ := TuranParty_common a0 a1 w0 w1
  refine Ev.bind hs ?_
  try simp only [if_true, if_false, bne_self_eq_false, Bool.false_eq_true, ↓reduceIte, decide_true]
  refine Ev.bind hi ?_
  try simp only [if_true, if_false, bne_self_eq_false, Bool.false_eq_true, ↓reduceIte, decide_true]
  refine Ev.bind (eqParty_self R.1 R.2.1 (by omega)) ?_
  try simp only [if_true, if_false, bne_self_eq_false, Bool.false_eq_true, ↓reduceIte, decide_true]
  try simp only [if_true, if_false, bne_self_eq_false, Bool.false_eq_true, ↓reduceIte, decide_true]
  refine Ev.step (fun k => rfl) ?_
  simp only [laws_FnExactTuranParty.j0]
  try simp only [if_true, if_false, bne_self_eq_false, Bool.false_eq_true, ↓reduceIte, decide_true]
  obtain ⟨zm, hzm, hmm, hEm⟩ := markParty_ev R.1 R.2.1 1 (by omega) (by omega)
  refine Ev.bind hEm ?_
  try simp only [if_true, if_false, bne_self_eq_false, Bool.false_eq_true, ↓reduceIte, decide_true]
  refine Ev.bind (heldParty_ev R.1 zm 1 (by omega) (by omega) hmm) ?_
  simp only [hzm, if_neg (show ¬ ((1 + 2 * (R.2.1.length : Int)) < 0) by omega), if_true]
  refine Ev.bind hi ?_
  try simp only [if_true, if_false, bne_self_eq_false, Bool.false_eq_true, ↓reduceIte, decide_true]
  refine Ev.bind (eqParty_self R.1 R.2.1 (by omega)) ?_
  try simp only [if_true, if_false, bne_self_eq_false, Bool.false_eq_true, ↓reduceIte, decide_true]
  try simp only [if_true, if_false, bne_self_eq_false, Bool.false_eq_true, ↓reduceIte, decide_true]
  refine Ev.step (fun k => rfl) ?_
  simp only [laws_FnExactTuranParty.j1]
  try simp only [if_true, if_false, bne_self_eq_false, Bool.false_eq_true, ↓reduceIte, decide_true]
  refine Ev.bind (heldParty_ev R.1 zm 1 (by omega) (by omega) hmm) ?_
  simp only [hzm, if_neg (show ¬ ((1 + 2 * (R.2.1.length : Int)) < 0) by omega), if_true]
  exact Ev.now _
end Go.Proofs.Ytiopgbpjkjnphaa.Pure
