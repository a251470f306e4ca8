/- A party that comes in, opened: its number of people, and its pairs as a list that the slice reads as. No condition. -/
import Derived.Deep.Slices
import Derived.Lib.SmallJoins
import Derived.ChangeSame
import Derived.WideShapes
import Derived.Test.YtoedkkoafidalaaPx0
namespace Go.Proofs.Ytoedkkoafidalaa.Pure
open Go.RowKit Go.Proofs.Ytoedkkoafidalaa.P Go.Proofs.YtoedkkoafidalaaW.PrintWords Go.Proofs.YtoedkkoafidalaaW.PrintLast
set_option linter.unusedSimpArgs false
set_option linter.unusedVariables false
theorem w1 {n : Nat} (h : n < 4611686018427387904) : wrap64 ((n : Int) + 1) = ((n + 1 : Nat) : Int) := by unfold wrap64; omega
open Go.Deep Go.Joins Go.ChangeShapes Go.WideShapes in
theorem openParty {α : Type} {H : Type} {enc : TypeId × Value → H} {P : Program} {w : World} {base b0 : Nat} {spare : Nat → Bool} {held : Bool} {r : Reach} {t tE : TypeId} {f0 f1 g0 g1 : Field} {v : Value} {d : DataW H} {p : List MemPlace}
    (hs : P.underlying t = some (.struct #[f0, f1])) (hone : oneCellFields P #[f0, f1] = true) (hC : P.cellsOf t = 2) (hf0 : P.underlying f0.type = some (.int .i64)) (hf1 : P.underlying f1.type = some (.slice tE))
    (hE : P.underlying tE = some (.struct #[g0, g1])) (hg0 : P.underlying g0.type = some (.int .i64)) (hg1 : P.underlying g1.type = some (.int .i64)) (ho0 : g0.offset = 0) (ho1 : g1.offset = 1) (hc0 : P.cellsOf g0.type = 1) (hc1 : P.cellsOf g1.type = 1) (hCE : P.cellsOf tE = 2)
    (kd : Kd α) (mk : Int → Int → α) (hsz : kd.sz = 2) (hk : ∀ x y, kd.K w (mk x y) [.int .i64 x, .int .i64 y])
    (hv : Value.okWide P w r b0 t v) (h : DataW.Trod enc P w base spare held t v d p) :
    ∃ (a : Int) (A : Option Addr) (c : Nat) (l : List α), v = .agg #[.int .i64 a, .slice A l.length c] ∧ (Lit.int .i64 a).wf = true ∧ l.length ≤ c ∧ l.length ≤ maxLen ∧ (∀ x ∈ l, ∃ m n, x = mk m n ∧ (Lit.int .i64 m).wf = true ∧ (Lit.int .i64 n).wf = true) ∧ Kd.C kd w A l.length l := by
  obtain ⟨v0, v1, y0, y1, n, rfl, _, _, h0, h1⟩ := open_agg2 hs hone hC hv h
  obtain ⟨a, e0, _, wa⟩ := DataW.trod_int hf0 h0
  obtain rfl : v0 = .int .i64 a := by simpa using e0
  rcases open_slice hf1 h1 with ⟨e1, _⟩ | ⟨ad, len, cap, m, n1, D, Pl, e1, hb, hl, hm, hmm, _, hx⟩
  · obtain rfl : v1 = .slice none 0 0 := by simpa using e1
    exact ⟨a, none, 0, [], rfl, wa, Nat.le_refl _, Nat.zero_le _, fun x hx => by simp at hx, ⟨rfl, by simp, fun h => by simp at h⟩⟩
  · obtain rfl : v1 = .slice (some ad) len cap := by simpa using e1
    have hle : len ≤ m := by rw [hmm]; split <;> omega
    have one : ∀ i, i < len → ∃ z : Int × Int, (Lit.int .i64 z.1).wf = true ∧ (Lit.int .i64 z.2).wf = true ∧ ∀ j u, [Value.int .i64 z.1, Value.int .i64 z.2][j]? = some u → w.cell? (ad.add (i * 2 + j)) = some u := fun i hi => by
      obtain ⟨cs, hcs, htr⟩ := hx i (by omega)
      rw [hCE] at hcs
      obtain ⟨_, hlen, hget⟩ := World.cells?_some hcs
      obtain ⟨z0, z1, n2, _, _, k0, k1⟩ := trod_struct2 hE htr
      match cs, hlen with
      | [x0, x1], _ =>
        have k0' : DataW.trod enc P w base spare held n2 g0.type [x0] = some z0 := by simpa [ho0, hc0] using k0
        have k1' : DataW.trod enc P w base spare held n2 g1.type [x1] = some z1 := by simpa [ho1, hc1] using k1
        obtain ⟨u0, q0, _, w0⟩ := DataW.trod_int hg0 k0'
        obtain ⟨u1, q1, _, w1⟩ := DataW.trod_int hg1 k1'
        obtain rfl : x0 = .int .i64 u0 := by simpa using q0
        obtain rfl : x1 = .int .i64 u1 := by simpa using q1
        refine ⟨(u0, u1), w0, w1, fun j u hu => ?_⟩
        have hj : j < 2 := by
          have := (List.getElem?_eq_some_iff.1 hu).1
          simpa using this
        rw [← Go.Deep.add_add, hget j hj]
        exact hu
    obtain ⟨Z, hZ⟩ := choose_lt one
    have hlen : ((List.range len).map fun i => mk (Z i).1 (Z i).2).length = len := by simp
    refine ⟨a, some ad, cap, (List.range len).map fun i => mk (Z i).1 (Z i).2, by rw [hlen], wa, by rw [hlen]; exact hl, by rw [hlen]; omega, ?_, ?_⟩
    · intro x hx
      obtain ⟨i, hi, rfl⟩ := List.mem_map.1 hx
      have := hZ i (by simpa using hi)
      exact ⟨_, _, rfl, this.1, this.2.1⟩
    · refine ⟨rfl, by rw [hlen]; unfold maxLen at hm; omega, fun hn => ⟨ad, rfl, fun j p hj => ?_⟩⟩
      have hj' : j < len := by
        have := (List.getElem?_eq_some_iff.1 hj).1
        simpa using this
      have hp : p = mk (Z j).1 (Z j).2 := by
        rw [List.getElem?_map, List.getElem?_range hj'] at hj
        simpa using hj.symm
      subst hp
      exact ⟨[.int .i64 (Z j).1, .int .i64 (Z j).2], hsz.symm, hk _ _, fun i u hu => by rw [hsz]; exact (hZ j hj').2.2 i u hu⟩
end Go.Proofs.Ytoedkkoafidalaa.Pure
