-- PRINTED by print.py (a twelfth state) out of the translation. Not trusted: Lean checks it.
import Derived.Test.YtjipjcdeoajnjaaPx0
namespace Go.Proofs.Ytjipjcdeoajnjaa.P
open Go.RowKit Go.Proofs.YtjipjcdeoajnjaaW.PrintWords Go.Proofs.YtjipjcdeoajnjaaW.PrintLast Go.Proofs.YtjipjcdeoajnjaaW.PrintMore
attribute [local go_sem] max2_int min2_int max_two min_two max_three min_three max_four min_four   -- for this text's walks alone
set_option linter.unusedVariables false
set_option linter.unusedSimpArgs false

/-! ### spec_deSorted: function 70 -/
mutual
def spec_deSorted.l0:Nat→List Int→List Int→Int→Option (List Int)
 | 0,_,_,_=>none
 | k+1,x0,x3,x4=>if x4 ≥ 0 then (spec_deSorted.l1 k x0 x3 x4 x0 (x0.length:Int) 0) else (some x3)
def spec_deSorted.l1:Nat→List Int→List Int→Int→List Int→Int→Int→Option (List Int)
 | 0,_,_,_,_,_,_=>none
 | k+1,x0,x3,x4,x13,x14,x15=>if x15 < x14 then (if 0≤x15 then (if x15 < (x13.length:Int) then (if x4=(rd x13 x15) then (if x3.length < 17592186044416 then (spec_deSorted.l1 k x0 (x3 ++ [x4]) x4 x13 x14 (wrap64 (x15+1))) else (none)) else (spec_deSorted.l1 k x0 x3 x4 x13 x14 (wrap64 (x15+1)))) else (none)) else (none)) else (spec_deSorted.l0 k x0 x3 (wrap64 (x4 - 1)))
end
def spec_deSorted.f (k:Nat) (l0:List Int):Option (List Int):=spec_deSorted.l0 k l0 ([]:List Int) (l0.length:Int)
theorem spec_deSorted.mono_l:∀ k,(∀ y0 y1 y2,LeO (spec_deSorted.l0 k y0 y1 y2) (spec_deSorted.l0 (k+1) y0 y1 y2))∧(∀ y0 y1 y2 y3 y4 y5,LeO (spec_deSorted.l1 k y0 y1 y2 y3 y4 y5) (spec_deSorted.l1 (k+1) y0 y1 y2 y3 y4 y5))
 | 0=>⟨fun _ _ _ r h=>by simp [spec_deSorted.l0] at h,fun _ _ _ _ _ _ r h=>by simp [spec_deSorted.l1] at h⟩
 | k+1=>by
  obtain ⟨ih0,ih1⟩:=spec_deSorted.mono_l k
  refine ⟨?_,?_⟩
  ·intro y0 y1 y2
   unfold spec_deSorted.l0
   repeat' first
   | (with_reducible exact ih0 _ _ _)
   | (with_reducible exact ih1 _ _ _ _ _ _)
   | (with_reducible exact LeO.refl _)
   | (with_reducible exact LeO.none _)
   | (with_reducible refine LeO.ite ?_ ?_)
   | (with_reducible refine LeO.bind ?_ (fun _=>?_))
   | exact ih0 _ _ _
   | exact ih1 _ _ _ _ _ _
   | exact LeO.none _
   | refine LeO.ite ?_ ?_
   | refine LeO.bind ?_ (fun _=>?_)
  ·intro y0 y1 y2 y3 y4 y5
   unfold spec_deSorted.l1
   repeat' first
   | (with_reducible exact ih0 _ _ _)
   | (with_reducible exact ih1 _ _ _ _ _ _)
   | (with_reducible exact LeO.refl _)
   | (with_reducible exact LeO.none _)
   | (with_reducible refine LeO.ite ?_ ?_)
   | (with_reducible refine LeO.bind ?_ (fun _=>?_))
   | exact ih0 _ _ _
   | exact ih1 _ _ _ _ _ _
   | exact LeO.none _
   | refine LeO.ite ?_ ?_
   | refine LeO.bind ?_ (fun _=>?_)
theorem spec_deSorted.mono:∀ a0 k,LeO (spec_deSorted.f k a0) (spec_deSorted.f (k+1) a0):=by
 intro a0 k
 obtain ⟨ih0,ih1⟩:=spec_deSorted.mono_l k
 unfold spec_deSorted.f
 repeat' first
   | (with_reducible exact ih0 _ _ _)
   | (with_reducible exact ih1 _ _ _ _ _ _)
   | (with_reducible exact LeO.refl _)
   | (with_reducible exact LeO.none _)
   | (with_reducible refine LeO.ite ?_ ?_)
   | (with_reducible refine LeO.bind ?_ (fun _=>?_))
   | exact ih0 _ _ _
   | exact ih1 _ _ _ _ _ _
   | exact LeO.none _
   | refine LeO.ite ?_ ?_
   | refine LeO.bind ?_ (fun _=>?_)
set_option maxHeartbeats 8000000 in
set_option maxRecDepth 100000 in
theorem spec_deSorted.calls (k:Nat) (A0:Option Addr) (c0:Nat) (l0:List Int) (r:List Int) (w:World) (hr0:Kd.C (Kd.int .i64) w A0 l0.length l0) (hc0:l0.length≤c0) (h:spec_deSorted.f k l0=some r) :
  Calls Try.prog 70 #[.slice A0 l0.length c0] w fun e w'=>∃ v0_:Value,e=.returned (v0_)∧Kd.R (Kd.int .i64) 3 w' w.heap.size (fun _=>True) v0_ r∧Below w.heap.size w w':=by
 have HR0:=zz31 hr0
 have HC0:=zz31 hc0
 clear hr0 hc0
 have HB:=zz31 (Below.refl w.heap.size w)
 have H:(spec_deSorted.l0 k l0 ([]:List Int) (l0.length:Int))=some r:=h
 clear h
 have H':=zz31 H
 clear H
 go_enter Try.func70,Try.ntmps70
 go_wp2
 go_loopg [3,4] k (fun kq v3 v4 w'=>∃ (x3_1:List Int) (x4_1:Int),v4=.int .i64 x4_1∧Aside0 (spec_deSorted.l0 kq l0 x3_1 x4_1=some r)∧Aside0 (kq≤k)∧Aside0 (Kd.R (Kd.int .i64) 3 w' w.heap.size (fun _=>True) v3 x3_1)∧Aside0 (Below w.heap.size w w'))
 case atStart=>exact ⟨(([]:List Int)),((l0.length:Int)),(by first | rfl | (simp;done) | (simp [*];done)),H',⟨Nat.le_refl _⟩,⟨by first | exact Kd.R_nil _ _ _ _ _ | exact Kd.N_nil _ _ _ _ _ | exact Kd.V_nil _ _ _ _ _ | exact Kd.Q_nil _ _ _ _ _ | exact Kd.S_nil _ _ _ _ _⟩,⟨by repeat first | exact HB.out | apply zz2 | apply zz0 | apply zz1⟩⟩
 case round =>
  clear H'
  obtain ⟨x3_1,x4_1,rfl,HA,HK1,HO_3,HB⟩:=hrel
  cases gk with
  | zero=>exact absurd HA.out (by simp [spec_deSorted.l0])
  | succ k1 =>
   have H:=HA.out
   clear HA
   simp only [spec_deSorted.l0] at H
   by_cases c2:x4_1 ≥ 0
   ·rw [if_pos c2] at H
    have c2b0:decide (0≤x4_1)=true:=decide_eq_true c2
    clear c2
    have H':=zz31 H
    clear H
    go_wp2
    go_loopg [3,15] k1 (fun kq v3 v15 w'=>∃ (x3_2:List Int) (x15_2:Int),v15=.int .i64 x15_2∧Aside0 (spec_deSorted.l1 kq l0 x3_2 x4_1 l0 (l0.length:Int) x15_2=some r)∧Aside0 (kq≤k1)∧Aside0 (Kd.R (Kd.int .i64) 3 w' w.heap.size (fun _=>True) v3 x3_2)∧Aside0 (Below w.heap.size w w'))
    case atStart=>exact ⟨(x3_1),(0),(by first | rfl | (simp;done) | (simp [*];done)),H',⟨Nat.le_refl _⟩,⟨by (with_reducible repeat (first | apply zz12 | apply zz13 | apply zz14));exact HO_3.out⟩,⟨by repeat first | exact HB.out | apply zz2 | apply zz0 | apply zz1⟩⟩
    case round =>
     clear H'
     try clear c2
     try clear c2b0
     try clear p2
     obtain ⟨x3_2,x15_2,rfl,HA,HK2,HO_3,HB⟩:=hrel
     cases gk with
     | zero=>exact absurd HA.out (by simp [spec_deSorted.l1])
     | succ k2 =>
      have H:=HA.out
      clear HA
      simp only [spec_deSorted.l1] at H
      by_cases c3:x15_2 < (l0.length:Int)
      ·rw [if_pos c3] at H
       have c3b0:decide (x15_2 < (l0.length:Int))=true:=decide_eq_true c3
       clear c3
       by_cases c4:0≤x15_2
       ·rw [if_pos c4] at H
        have c4b0:decide (0≤x15_2)=true:=decide_eq_true c4
        clear c4
        by_cases c5:x15_2 < (l0.length:Int)
        ·rw [if_pos c5] at H
         have c5b0:decide (x15_2 < (l0.length:Int))=true:=decide_eq_true c5
         clear c5
         by_cases c6:x4_1=(rd l0 x15_2)
         ·rw [if_pos c6] at H
          have c6b0:(x4_1 == (rd l0 x15_2))=true:=beq_iff_eq.mpr c6
          have c6b1:(x4_1 != (rd l0 x15_2))=false:=bne_eq_false_iff_eq.mpr c6
          clear c6
          by_cases c7:x3_2.length < 17592186044416
          ·rw [if_pos c7] at H
           have LMc7:=zz31 c7
           clear c7
           obtain ⟨y254,hy254⟩:∃ y_:List Int,y_=(x3_2 ++ [x4_1]):=⟨_,rfl⟩
           replace H:(spec_deSorted.l1 k2 l0 y254 x4_1 l0 (l0.length:Int) (wrap64 (x15_2+1)))=some r:=by first | (rw [hy254];with_reducible exact H) | (have H2_:=(Option.bind_some _ _).symm.trans H;rw [hy254];with_reducible exact H2_) | (have H2_:=(Option.bind_some _ _).symm.trans H;with_reducible exact H2_) | with_reducible exact H | (rw [hy254];exact H) | exact H
           have Ny254:=zz31 hy254
           clear hy254
           have H':=zz31 H
           clear H
           have p253:0≤(x15_2:Int):=zz29 (by first | (with_reducible assumption) | assumption)
           have q253:x15_2 < (l0.length:Int):=zz29 (by first | (with_reducible assumption) | assumption)
           obtain ⟨ad253,e253,hx253_0⟩:=Kd.at_int HR0.out x15_2 p253 q253
           cases e253
           replace hx253_0:=(HB.out.cell (World.block_lt_of_cell? w _ hx253_0)).trans hx253_0
           replace p253:=eq_true p253
           replace q253:=eq_true q253
           go_wp2_with (first | ((with_reducible refine gate_builtin (b:=.append) (xs:=#[.tmp 22,.tmp 24]) rfl ?_);at_builtin;refine Kd.R_append (Kd.int .i64) (w0:=w) w.heap.size rfl (.tmp 22) (.tmp 24) 22 3 (.int .i64 0) 8 rfl Try.underlying22 info3 rfl (by decide) (by omega) u3 x3_2 x4_1 [.int .i64 x4_1] (fun _=>True) (fun _=>False) rfl rfl ?aP (fun _ hk=>hk.elim) ?aF ?aO ?aB ?aS ?aL ?_;(case aP=>exact rfl);(case aB=>exact (by repeat first | exact HB.out | apply zz2 | apply zz0 | apply zz1));(case aF=>exact (fun _ _=>trivial));(case aO=>exact (by (with_reducible repeat (first | apply zz12 | apply zz13 | apply zz14));exact HO_3.out));(case aS=>exact (zz5 (by repeat first | exact HB.out | apply zz2 | apply zz0 | apply zz1)));(case aL=>have:=LMc7.out;omega);intro v255 w8 ho hb hg hat;rw [← Ny254.out] at ho;have n0_:=zz31 (hb);have n1_:=zz31 (ho);clear HB;clear HO_3;have HB:=n0_;have HO256:=n1_;clear n0_ n1_;clear ho hb hg hat))
           go_roundg k2
           case measure=>have:=HK1.out;have:=HK2.out;omega
           case rel=>exact ⟨(y254),(wrap64 (x15_2+1)),(by first | rfl | (simp;done) | (simp [*];done)),H',⟨by have:=HK1.out;have:=HK2.out;omega⟩,⟨by (with_reducible repeat (first | apply zz12 | apply zz13 | apply zz14));exact HO256.out⟩,⟨by repeat first | exact HB.out | apply zz2 | apply zz0 | apply zz1⟩⟩
          ·rw [if_neg c7] at H
           exact absurd H (by simp)
         ·rw [if_neg c6] at H
          have c6b0:(x4_1 == (rd l0 x15_2))=false:=beq_eq_false_iff_ne.mpr c6
          have c6b1:(x4_1 != (rd l0 x15_2))=true:=bne_iff_ne.mpr c6
          have H':=zz31 H
          clear H
          have p253:0≤(x15_2:Int):=zz29 (by first | (with_reducible assumption) | assumption)
          have q253:x15_2 < (l0.length:Int):=zz29 (by first | (with_reducible assumption) | assumption)
          obtain ⟨ad253,e253,hx253_0⟩:=Kd.at_int HR0.out x15_2 p253 q253
          cases e253
          replace hx253_0:=(HB.out.cell (World.block_lt_of_cell? w _ hx253_0)).trans hx253_0
          replace p253:=eq_true p253
          replace q253:=eq_true q253
          go_wp2
          go_roundg k2
          case measure=>have:=HK1.out;have:=HK2.out;omega
          case rel=>exact ⟨(x3_2),(wrap64 (x15_2+1)),(by first | rfl | (simp;done) | (simp [*];done)),H',⟨by have:=HK1.out;have:=HK2.out;omega⟩,⟨by (with_reducible repeat (first | apply zz12 | apply zz13 | apply zz14));exact HO_3.out⟩,⟨by repeat first | exact HB.out | apply zz2 | apply zz0 | apply zz1⟩⟩
        ·rw [if_neg c5] at H
         exact absurd H (by simp)
       ·rw [if_neg c4] at H
        exact absurd H (by simp)
      ·rw [if_neg c3] at H
       have c3b0:decide (x15_2 < (l0.length:Int))=false:=decide_eq_false c3
       clear c3
       have H':=zz31 H
       clear H
       go_wp2
       go_roundg k2
       case measure=>have:=HK1.out;have:=HK2.out;omega
       case rel=>exact ⟨(x3_2),(wrap64 (x4_1 - 1)),(by first | rfl | (simp;done) | (simp [*];done)),H',⟨by have:=HK1.out;have:=HK2.out;omega⟩,⟨by (with_reducible repeat (first | apply zz12 | apply zz13 | apply zz14));exact HO_3.out⟩,⟨by repeat first | exact HB.out | apply zz2 | apply zz0 | apply zz1⟩⟩
   ·rw [if_neg c2] at H
    have c2b0:decide (0≤x4_1)=false:=decide_eq_false c2
    clear c2
    obtain rfl:=Option.some.inj H
    go_wp2
    go_ret
    exact ⟨_,by first | rfl | (simp [errW_none,errW_some] <;> rfl) | (simp [*,errW_none,errW_some] <;> rfl),by (with_reducible repeat (first | apply zz12 | apply zz13 | apply zz14));exact HO_3.out,by repeat first | exact HB.out | apply zz2 | apply zz0 | apply zz1⟩

end Go.Proofs.Ytjipjcdeoajnjaa.P
