-- PRINTED by print.py (a twelfth state) out of the translation. Not trusted: Lean checks it.
import Derived.Test.YtiopgbpjkjnphaaPx0
import Derived.Test.YtiopgbpjkjnphaaPx1
import Derived.Test.YtiopgbpjkjnphaaPx5
import Derived.Test.YtiopgbpjkjnphaaPx6
import Derived.Test.YtiopgbpjkjnphaaPx17
import Derived.Test.YtiopgbpjkjnphaaPx21
import Derived.Test.YtiopgbpjkjnphaaPx23
namespace Go.Proofs.Ytiopgbpjkjnphaa.P
open Go.RowKit Go.Proofs.YtiopgbpjkjnphaaW.PrintWords Go.Proofs.YtiopgbpjkjnphaaW.PrintLast Go.Proofs.YtiopgbpjkjnphaaW.PrintMore
open Bool renaming true → T, false → F
attribute [local go_sem] max2_int min2_int max_two min_two max_three min_three max_four min_four   -- for this text's walks alone
set_option linter.unusedVariables false
set_option linter.unusedSimpArgs false

/-! ### spec_grColours: function 70 -/
def spec_grColours.f (k:Nat) (a0_0:Int) (l0_1:List (S61)) (l1:List Int):Option (Bool):=if (l1.length:Int)=a0_0 then ((spec_l1All.f k l1 0 11).bind fun t463=>(some t463)) else (some false)
theorem spec_grColours.mono:∀ a0 a1 a2 k,LeO (spec_grColours.f k a0 a1 a2) (spec_grColours.f (k+1) a0 a1 a2):=by
 intro a0 a1 a2 k
 unfold spec_grColours.f
 repeat' first
   | (with_reducible exact spec_l1All.mono _ _ _ _)
   | (with_reducible exact LeO.refl _)
   | (with_reducible exact LeO.none _)
   | (with_reducible refine LeO.ite ?_ ?_)
   | (with_reducible refine LeO.bind ?_ (fun _=>?_))
   | exact spec_l1All.mono _ _ _ _
   | exact LeO.none _
   | refine LeO.ite ?_ ?_
   | refine LeO.bind ?_ (fun _=>?_)
set_option maxHeartbeats 8000000 in
set_option maxRecDepth 100000 in
theorem spec_grColours.calls (k:Nat) (a0_0:Int) (A0_1:Option Addr) (c0_1:Nat) (l0_1:List (S61)) (A1:Option Addr) (c1:Nat) (l1:List Int) (r:Bool) (w:World) (hr0_1:Kd.C k61 w A0_1 l0_1.length l0_1) (hc0_1:l0_1.length≤c0_1) (hr1:Kd.C (Kd.int .i64) w A1 l1.length l1) (hc1:l1.length≤c1) (h:spec_grColours.f k a0_0 l0_1 l1=some r) :
  Calls Try.prog 70 #[.agg #[.int .i64 a0_0,.slice A0_1 l0_1.length c0_1],.slice A1 l1.length c1] w fun e w'=>e=.returned (.bool r)∧Below w.heap.size w w':=by
 have hu29:=Try.underlying29
 have HR0_1:=Aside0.mk hr0_1
 have HC0_1:=Aside0.mk hc0_1
 clear hr0_1 hc0_1
 have HR1:=Aside0.mk hr1
 have HC1:=Aside0.mk hc1
 clear hr1 hc1
 have HB:=Aside0.mk (Below.refl w.heap.size w)
 have H:(if (l1.length:Int)=a0_0 then ((spec_l1All.f k l1 0 11).bind fun t463=>(some t463)) else (some false))=some r:=h
 clear h
 by_cases c3:(l1.length:Int)=a0_0
 ·rw [if_pos c3] at H
  have c3b0:((l1.length:Int) == a0_0)=true:=beq_iff_eq.mpr c3
  have c3b1:((l1.length:Int) != a0_0)=false:=bne_eq_false_iff_eq.mpr c3
  clear c3
  replace H:=zz30.mp H
  obtain ⟨t463,A40,H⟩:=H
  replace H:(some t463)=some r:=H
  have A4:=Aside0.mk A40
  clear A40
  obtain rfl:=Option.some.inj H
  go_enter Try.func70,Try.ntmps70
  go_wp2_with (first | ((with_reducible refine gate_dst (N:=2) rfl ?_);refine box_event ?hg (N:=2) ?hd (cs:=#[.int .i64 a0_0,.slice A0_1 l0_1.length c0_1]) (t:=29) ?hr ?_;(case hd=>rfl);(case hg=>rfl);(case hr=>first | (go_simp;done) | (go_simp;rfl));intro gb462 hg w5 hbox hb;have n0_:=Aside0.mk (zz4 (by repeat first | exact HB.out | apply zz2 | apply zz0 | apply zz1) hb);have n1_:=Aside0.mk (hbox);have n2_:=Aside0.mk ((by rw [hg];exact (zz5 (by repeat first | exact HB.out | apply zz2 | apply zz0 | apply zz1)):w.heap.size≤gb462));have n3_:=Aside0.mk ((by rw [hg];exact (zz5 (by repeat first | exact HB.out | apply zz2 | apply zz0 | apply zz1)):w.heap.size≤gb462));clear HB;have HB:=n0_;have BK462:=n1_;have GW462:=n2_;have GE462:=n3_;clear n0_ n1_ n2_ n3_;clear hb hbox hg;have hcz6_0:w5.cell? ⟨gb462,0,none⟩=some (.int .i64 a0_0):=(zz9 BK462.out 0).trans rfl;have hcz6_1:w5.cell? ⟨gb462,1,none⟩=some (.slice A0_1 l0_1.length c0_1):=(zz9 BK462.out 1).trans rfl;have hfz6_0:=zz10 BK462.out 0;have hfz6_1:=zz10 BK462.out 1) | (go_at_call 81;(with_reducible refine (spec_l1All.calls k _ _ l1 0 11 t463 _ ?side1 ?side2 A4.out).mono ?_);(case side1=>repeat (first | exact (Kd.C_below HR1.out HB.out) | (with_reducible refine zz18 ?_ _) | (with_reducible refine zz19 ?_ _) | (with_reducible refine zz20 ?_)));(case side2=>exact HC1.out);rintro e w' ⟨rfl,⟨nd,rfl⟩⟩))
  go_ret
  exact ⟨by first | rfl | (simp [errW_none,errW_some] <;> rfl) | (simp [*,errW_none,errW_some] <;> rfl),by repeat first | exact HB.out | apply zz2 | apply zz0 | apply zz1 | refine zz3 ?_ GE462.out⟩
 ·rw [if_neg c3] at H
  have c3b0:((l1.length:Int) == a0_0)=false:=beq_eq_false_iff_ne.mpr c3
  have c3b1:((l1.length:Int) != a0_0)=true:=bne_iff_ne.mpr c3
  obtain rfl:=Option.some.inj H
  go_enter Try.func70,Try.ntmps70
  go_wp2_with (first | ((with_reducible refine gate_dst (N:=2) rfl ?_);refine box_event ?hg (N:=2) ?hd (cs:=#[.int .i64 a0_0,.slice A0_1 l0_1.length c0_1]) (t:=29) ?hr ?_;(case hd=>rfl);(case hg=>rfl);(case hr=>first | (go_simp;done) | (go_simp;rfl));intro gb462 hg w7 hbox hb;have n0_:=Aside0.mk (zz4 (by repeat first | exact HB.out | apply zz2 | apply zz0 | apply zz1) hb);have n1_:=Aside0.mk (hbox);have n2_:=Aside0.mk ((by rw [hg];exact (zz5 (by repeat first | exact HB.out | apply zz2 | apply zz0 | apply zz1)):w.heap.size≤gb462));have n3_:=Aside0.mk ((by rw [hg];exact (zz5 (by repeat first | exact HB.out | apply zz2 | apply zz0 | apply zz1)):w.heap.size≤gb462));clear HB;have HB:=n0_;have BK462:=n1_;have GW462:=n2_;have GE462:=n3_;clear n0_ n1_ n2_ n3_;clear hb hbox hg;have hcz8_0:w7.cell? ⟨gb462,0,none⟩=some (.int .i64 a0_0):=(zz9 BK462.out 0).trans rfl;have hcz8_1:w7.cell? ⟨gb462,1,none⟩=some (.slice A0_1 l0_1.length c0_1):=(zz9 BK462.out 1).trans rfl;have hfz8_0:=zz10 BK462.out 0;have hfz8_1:=zz10 BK462.out 1))
  go_ret
  exact ⟨by first | rfl | (simp [errW_none,errW_some] <;> rfl) | (simp [*,errW_none,errW_some] <;> rfl),by repeat first | exact HB.out | apply zz2 | apply zz0 | apply zz1 | refine zz3 ?_ GE462.out⟩

/-! ### spec_grDiffer: function 71 -/
def spec_grDiffer.l0:Nat→List Int→List (S61)→Int→Int→Option (Bool)
 | 0,_,_,_,_=>none
 | k+1,x1,x8,x9,x10=>if x10 < x9 then (if 0≤x10 then (if x10 < (x8.length:Int) then (if 0≤((rd_T61 x8 x10).f0) then (if ((rd_T61 x8 x10).f0) < (x1.length:Int) then (if 0≤((rd_T61 x8 x10).f1) then (if ((rd_T61 x8 x10).f1) < (x1.length:Int) then (if (rd x1 ((rd_T61 x8 x10).f0))=(rd x1 ((rd_T61 x8 x10).f1)) then (some false) else (spec_grDiffer.l0 k x1 x8 x9 (wrap64 (x10+1)))) else (none)) else (none)) else (none)) else (none)) else (none)) else (none)) else (some true)
def spec_grDiffer.f (k:Nat) (a0_0:Int) (l0_1:List (S61)) (l1:List Int):Option (Bool):=spec_grDiffer.l0 k l1 l0_1 (l0_1.length:Int) 0
theorem spec_grDiffer.mono_l:∀ k,(∀ y0 y1 y2 y3,LeO (spec_grDiffer.l0 k y0 y1 y2 y3) (spec_grDiffer.l0 (k+1) y0 y1 y2 y3))
 | 0=>fun _ _ _ _ r h=>by simp [spec_grDiffer.l0] at h
 | k+1=>by
  have ih0:=spec_grDiffer.mono_l k
  ·intro y0 y1 y2 y3
   unfold spec_grDiffer.l0
   repeat' first
   | (with_reducible exact ih0 _ _ _ _)
   | (with_reducible exact LeO.refl _)
   | (with_reducible exact LeO.none _)
   | (with_reducible refine LeO.ite ?_ ?_)
   | (with_reducible refine LeO.bind ?_ (fun _=>?_))
   | exact ih0 _ _ _ _
   | exact LeO.none _
   | refine LeO.ite ?_ ?_
   | refine LeO.bind ?_ (fun _=>?_)
theorem spec_grDiffer.mono:∀ a0 a1 a2 k,LeO (spec_grDiffer.f k a0 a1 a2) (spec_grDiffer.f (k+1) a0 a1 a2):=by
 intro a0 a1 a2 k
 have ih0:=spec_grDiffer.mono_l k
 unfold spec_grDiffer.f
 repeat' first
   | (with_reducible exact ih0 _ _ _ _)
   | (with_reducible exact LeO.refl _)
   | (with_reducible exact LeO.none _)
   | (with_reducible refine LeO.ite ?_ ?_)
   | (with_reducible refine LeO.bind ?_ (fun _=>?_))
   | exact ih0 _ _ _ _
   | exact LeO.none _
   | refine LeO.ite ?_ ?_
   | refine LeO.bind ?_ (fun _=>?_)
set_option maxHeartbeats 8000000 in
set_option maxRecDepth 100000 in
theorem spec_grDiffer.calls (k:Nat) (a0_0:Int) (A0_1:Option Addr) (c0_1:Nat) (l0_1:List (S61)) (A1:Option Addr) (c1:Nat) (l1:List Int) (r:Bool) (w:World) (hr0_1:Kd.C k61 w A0_1 l0_1.length l0_1) (hc0_1:l0_1.length≤c0_1) (hr1:Kd.C (Kd.int .i64) w A1 l1.length l1) (hc1:l1.length≤c1) (h:spec_grDiffer.f k a0_0 l0_1 l1=some r) :
  Calls Try.prog 71 #[.agg #[.int .i64 a0_0,.slice A0_1 l0_1.length c0_1],.slice A1 l1.length c1] w fun e w'=>e=.returned (.bool r)∧Below w.heap.size w w':=by
 have hu29:=Try.underlying29
 have hu61:=Try.underlying61
 have HR0_1:=Aside0.mk hr0_1
 have HC0_1:=Aside0.mk hc0_1
 clear hr0_1 hc0_1
 have HR1:=Aside0.mk hr1
 have HC1:=Aside0.mk hc1
 clear hr1 hc1
 have HB:=Aside0.mk (Below.refl w.heap.size w)
 have H:(spec_grDiffer.l0 k l1 l0_1 (l0_1.length:Int) 0)=some r:=h
 clear h
 have H':=Aside0.mk H
 clear H
 go_enter Try.func71,Try.ntmps71
 go_wp2_with (first | ((with_reducible refine gate_dst (N:=2) rfl ?_);refine box_event ?hg (N:=2) ?hd (cs:=#[.int .i64 a0_0,.slice A0_1 l0_1.length c0_1]) (t:=29) ?hr ?_;(case hd=>rfl);(case hg=>rfl);(case hr=>first | (go_simp;done) | (go_simp;rfl));intro gb464 hg w3 hbox hb;have n0_:=Aside0.mk (zz4 (by repeat first | exact HB.out | apply zz2 | apply zz0 | apply zz1) hb);have n1_:=Aside0.mk (hbox);have n2_:=Aside0.mk ((by rw [hg];exact (zz5 (by repeat first | exact HB.out | apply zz2 | apply zz0 | apply zz1)):w.heap.size≤gb464));have n3_:=Aside0.mk ((by rw [hg];exact (zz5 (by repeat first | exact HB.out | apply zz2 | apply zz0 | apply zz1)):w.heap.size≤gb464));clear HB;have HB:=n0_;have BK464:=n1_;have GW464:=n2_;have GE464:=n3_;clear n0_ n1_ n2_ n3_;clear hb hbox hg;have hcz4_0:w3.cell? ⟨gb464,0,none⟩=some (.int .i64 a0_0):=(zz9 BK464.out 0).trans rfl;have hcz4_1:w3.cell? ⟨gb464,1,none⟩=some (.slice A0_1 l0_1.length c0_1):=(zz9 BK464.out 1).trans rfl;have hfz4_0:=zz10 BK464.out 0;have hfz4_1:=zz10 BK464.out 1))
 repeat (go_quiet (first | ((with_reducible refine gate_dst (N:=2) rfl ?_);refine box_event ?hg (N:=2) ?hd (cs:=#[.int .i64 a0_0,.slice A0_1 l0_1.length c0_1]) (t:=29) ?hr ?_;(case hd=>rfl);(case hg=>rfl);(case hr=>first | (go_simp;done) | (go_simp;rfl));intro gb464 hg w3 hbox hb;have n0_:=Aside0.mk (zz4 (by repeat first | exact HB.out | apply zz2 | apply zz0 | apply zz1) hb);have n1_:=Aside0.mk (hbox);have n2_:=Aside0.mk ((by rw [hg];exact (zz5 (by repeat first | exact HB.out | apply zz2 | apply zz0 | apply zz1)):w.heap.size≤gb464));have n3_:=Aside0.mk ((by rw [hg];exact (zz5 (by repeat first | exact HB.out | apply zz2 | apply zz0 | apply zz1)):w.heap.size≤gb464));clear HB;have HB:=n0_;have BK464:=n1_;have GW464:=n2_;have GE464:=n3_;clear n0_ n1_ n2_ n3_;clear hb hbox hg;have hcz4_0:w3.cell? ⟨gb464,0,none⟩=some (.int .i64 a0_0):=(zz9 BK464.out 0).trans rfl;have hcz4_1:w3.cell? ⟨gb464,1,none⟩=some (.slice A0_1 l0_1.length c0_1):=(zz9 BK464.out 1).trans rfl;have hfz4_0:=zz10 BK464.out 0;have hfz4_1:=zz10 BK464.out 1));try go_wp2_with (first | ((with_reducible refine gate_dst (N:=2) rfl ?_);refine box_event ?hg (N:=2) ?hd (cs:=#[.int .i64 a0_0,.slice A0_1 l0_1.length c0_1]) (t:=29) ?hr ?_;(case hd=>rfl);(case hg=>rfl);(case hr=>first | (go_simp;done) | (go_simp;rfl));intro gb464 hg w3 hbox hb;have n0_:=Aside0.mk (zz4 (by repeat first | exact HB.out | apply zz2 | apply zz0 | apply zz1) hb);have n1_:=Aside0.mk (hbox);have n2_:=Aside0.mk ((by rw [hg];exact (zz5 (by repeat first | exact HB.out | apply zz2 | apply zz0 | apply zz1)):w.heap.size≤gb464));have n3_:=Aside0.mk ((by rw [hg];exact (zz5 (by repeat first | exact HB.out | apply zz2 | apply zz0 | apply zz1)):w.heap.size≤gb464));clear HB;have HB:=n0_;have BK464:=n1_;have GW464:=n2_;have GE464:=n3_;clear n0_ n1_ n2_ n3_;clear hb hbox hg;have hcz4_0:w3.cell? ⟨gb464,0,none⟩=some (.int .i64 a0_0):=(zz9 BK464.out 0).trans rfl;have hcz4_1:w3.cell? ⟨gb464,1,none⟩=some (.slice A0_1 l0_1.length c0_1):=(zz9 BK464.out 1).trans rfl;have hfz4_0:=zz10 BK464.out 0;have hfz4_1:=zz10 BK464.out 1)))
 go_loopg [10] k (fun kq v10 w'=>∃ (x10_1:Int),v10=.int .i64 x10_1∧Aside0 (spec_grDiffer.l0 kq l1 l0_1 (l0_1.length:Int) x10_1=some r)∧Aside0 (kq≤k)∧Aside0 (w'.heap[gb464]?=some (.cells #[.int .i64 a0_0,(.slice A0_1 l0_1.length c0_1)] 29 (0,0)))∧Aside0 (Below w.heap.size w w'))
 case atStart=>exact ⟨(0),(by first | rfl | (simp;done) | (simp [*];done)),H',⟨Nat.le_refl _⟩,⟨by (with_reducible repeat (first | refine zz6 ?_ _ | refine zz7 ?_ | refine zz8 ?_ _));exact BK464.out⟩,⟨by repeat first | exact HB.out | apply zz2 | apply zz0 | apply zz1 | refine zz3 ?_ GE464.out⟩⟩
 case round =>
  clear H'
  try clear c1
  try clear p2
  try clear hcz4_0
  try clear hcz4_1
  try clear hfz4_0
  try clear hfz4_1
  obtain ⟨x10_1,rfl,HA,HK1,BK464,HB⟩:=hrel
  cases gk with
  | zero=>exact absurd HA.out (by simp [spec_grDiffer.l0])
  | succ k1 =>
   have H:=HA.out
   clear HA
   simp only [spec_grDiffer.l0] at H
   by_cases c5:x10_1 < (l0_1.length:Int)
   ·rw [if_pos c5] at H
    have c5b0:decide (x10_1 < (l0_1.length:Int))=true:=decide_eq_true c5
    clear c5
    by_cases c6:0≤x10_1
    ·rw [if_pos c6] at H
     have c6b0:decide (0≤x10_1)=true:=decide_eq_true c6
     clear c6
     by_cases c7:x10_1 < (l0_1.length:Int)
     ·rw [if_pos c7] at H
      have c7b0:decide (x10_1 < (l0_1.length:Int))=true:=decide_eq_true c7
      clear c7
      by_cases c8:0≤((rd_T61 l0_1 x10_1).f0)
      ·rw [if_pos c8] at H
       have c8b0:decide (0≤((rd_T61 l0_1 x10_1).f0))=true:=decide_eq_true c8
       clear c8
       by_cases c9:((rd_T61 l0_1 x10_1).f0) < (l1.length:Int)
       ·rw [if_pos c9] at H
        have c9b0:decide (((rd_T61 l0_1 x10_1).f0) < (l1.length:Int))=true:=decide_eq_true c9
        clear c9
        by_cases c10:0≤((rd_T61 l0_1 x10_1).f1)
        ·rw [if_pos c10] at H
         have c10b0:decide (0≤((rd_T61 l0_1 x10_1).f1))=true:=decide_eq_true c10
         clear c10
         by_cases c11:((rd_T61 l0_1 x10_1).f1) < (l1.length:Int)
         ·rw [if_pos c11] at H
          have c11b0:decide (((rd_T61 l0_1 x10_1).f1) < (l1.length:Int))=true:=decide_eq_true c11
          clear c11
          by_cases c12:(rd l1 ((rd_T61 l0_1 x10_1).f0))=(rd l1 ((rd_T61 l0_1 x10_1).f1))
          ·rw [if_pos c12] at H
           have c12b0:((rd l1 ((rd_T61 l0_1 x10_1).f0)) == (rd l1 ((rd_T61 l0_1 x10_1).f1)))=true:=beq_iff_eq.mpr c12
           have c12b1:((rd l1 ((rd_T61 l0_1 x10_1).f0)) != (rd l1 ((rd_T61 l0_1 x10_1).f1)))=false:=bne_eq_false_iff_eq.mpr c12
           clear c12
           obtain rfl:=Option.some.inj H
           have p465:0≤(x10_1:Int):=zz29 (by first | (with_reducible assumption) | assumption)
           have q465:x10_1 < (l0_1.length:Int):=zz29 (by first | (with_reducible assumption) | assumption)
           obtain ⟨ad465,e465,hx465_0,hx465_1⟩:=at_T61 HR0_1.out x10_1 p465 q465
           cases e465
           replace hx465_0:=(HB.out.cell (World.block_lt_of_cell? w _ hx465_0)).trans hx465_0
           replace hx465_1:=(HB.out.cell (World.block_lt_of_cell? w _ hx465_1)).trans hx465_1
           replace p465:=eq_true p465
           replace q465:=eq_true q465
           go_wp2_with (first | ((with_reducible refine gate_dst (N:=6) rfl ?_);refine box_event ?hg (N:=6) ?hd (cs:=#[.int .i64 0,.int .i64 0]) (t:=61) ?hr ?_;(case hd=>rfl);(case hg=>rfl);(case hr=>first | (go_simp;done) | (go_simp;rfl));intro gb466 hg w13 hbox hb;have n0_:=Aside0.mk (zz11 (g:=gb464) (o:=.cells #[.int .i64 a0_0,.slice (some ad465) l0_1.length c0_1] 29 (0,0)) (by (with_reducible repeat (first | refine zz6 ?_ _ | refine zz7 ?_ | refine zz8 ?_ _));exact BK464.out) hb);have n1_:=Aside0.mk (zz4 (by repeat first | exact HB.out | apply zz2 | apply zz0 | apply zz1 | refine zz3 ?_ GE464.out) hb);have n2_:=Aside0.mk (hbox);have n3_:=Aside0.mk ((by rw [hg];exact (zz5 (by repeat first | exact HB.out | apply zz2 | apply zz0 | apply zz1 | refine zz3 ?_ GE464.out)):w.heap.size≤gb466));have n4_:=Aside0.mk ((by rw [hg];exact (zz5 (by repeat first | exact HB.out | apply zz2 | apply zz0 | apply zz1 | refine zz3 ?_ GE464.out)):w.heap.size≤gb466));have n5_:=Aside0.mk ((by rw [hg];exact Nat.ne_of_lt (blk_lt (g:=gb464) (o:=.cells #[.int .i64 a0_0,.slice (some ad465) l0_1.length c0_1] 29 (0,0)) (by (with_reducible repeat (first | refine zz6 ?_ _ | refine zz7 ?_ | refine zz8 ?_ _));exact BK464.out)):gb464 ≠ gb466));have n6_:=Aside0.mk ((by rw [hg];exact Nat.ne_of_gt (blk_lt (g:=gb464) (o:=.cells #[.int .i64 a0_0,.slice (some ad465) l0_1.length c0_1] 29 (0,0)) (by (with_reducible repeat (first | refine zz6 ?_ _ | refine zz7 ?_ | refine zz8 ?_ _));exact BK464.out)):gb466 ≠ gb464));clear BK464;clear HB;have BK464:=n0_;have HB:=n1_;have BK466:=n2_;have GW466:=n3_;have GE466:=n4_;have NB464_466:=n5_;have NB466_464:=n6_;clear n0_ n1_ n2_ n3_ n4_ n5_ n6_;clear hb hbox hg;have hnb14:=NB466_464.out;have hnc14:=NB464_466.out;have hcz15_0:w13.cell? ⟨gb466,0,none⟩=some (.int .i64 0):=(zz9 BK466.out 0).trans rfl;have hcz15_1:w13.cell? ⟨gb466,1,none⟩=some (.int .i64 0):=(zz9 BK466.out 1).trans rfl;have hfz15_0:=zz10 BK466.out 0;have hfz15_1:=zz10 BK466.out 1;have p467:0≤(((rd_T61 l0_1 x10_1).f0):Int):=zz29 (by first | (with_reducible assumption) | assumption);have q467:((rd_T61 l0_1 x10_1).f0) < (l1.length:Int):=zz29 (by first | (with_reducible assumption) | assumption);obtain ⟨ad467,e467,hx467_0⟩:=Kd.at_int HR1.out ((rd_T61 l0_1 x10_1).f0) p467 q467;cases e467;have hn467_0:ad467.block ≠ gb466:=Nat.ne_of_lt (Nat.lt_of_lt_of_le (by have:=World.block_lt_of_cell? _ _ hx467_0;first | rwa [add_block] at this | exact this) GW466.out);have hn467_1:ad467.block ≠ gb466:=Nat.ne_of_lt (Nat.lt_of_lt_of_le (by have:=World.block_lt_of_cell? _ _ hx467_0;first | rwa [add_block] at this | exact this) GW466.out);replace hx467_0:=(HB.out.cell (World.block_lt_of_cell? w _ hx467_0)).trans hx467_0;replace hx467_0:=(cell_far (p:=⟨gb466,0,none⟩) (by first | (rw [add_block];exact hn467_0) | (show (Addr.add _ _).block ≠ _;rw [add_block];exact hn467_0) | exact hn467_0) (.int .i64 ((rd_T61 l0_1 x10_1).f0))).trans hx467_0;replace hx467_0:=(cell_far (p:=⟨gb466,1,none⟩) (by first | (rw [add_block];exact hn467_1) | (show (Addr.add _ _).block ≠ _;rw [add_block];exact hn467_1) | exact hn467_1) (.int .i64 ((rd_T61 l0_1 x10_1).f1))).trans hx467_0;(try have hy467_0:=fun (n_:Nat)=>(show ((((w13.drewN n_).setCell ⟨gb466,0,none⟩ (.int .i64 ((rd_T61 l0_1 x10_1).f0))).setCell ⟨gb466,1,none⟩ (.int .i64 ((rd_T61 l0_1 x10_1).f1)))).cell? _=some _ from hx467_0));clear hn467_0;clear hn467_1;replace p467:=eq_true p467;replace q467:=eq_true q467;have p468:0≤(((rd_T61 l0_1 x10_1).f1):Int):=zz29 (by first | (with_reducible assumption) | assumption);have q468:((rd_T61 l0_1 x10_1).f1) < (l1.length:Int):=zz29 (by first | (with_reducible assumption) | assumption);obtain ⟨ad468,e468,hx468_0⟩:=Kd.at_int HR1.out ((rd_T61 l0_1 x10_1).f1) p468 q468;obtain rfl:ad467=ad468:=(by injection e468);have hn468_0:ad467.block ≠ gb466:=Nat.ne_of_lt (Nat.lt_of_lt_of_le (by have:=World.block_lt_of_cell? _ _ hx468_0;first | rwa [add_block] at this | exact this) GW466.out);have hn468_1:ad467.block ≠ gb466:=Nat.ne_of_lt (Nat.lt_of_lt_of_le (by have:=World.block_lt_of_cell? _ _ hx468_0;first | rwa [add_block] at this | exact this) GW466.out);replace hx468_0:=(HB.out.cell (World.block_lt_of_cell? w _ hx468_0)).trans hx468_0;replace hx468_0:=(cell_far (p:=⟨gb466,0,none⟩) (by first | (rw [add_block];exact hn468_0) | (show (Addr.add _ _).block ≠ _;rw [add_block];exact hn468_0) | exact hn468_0) (.int .i64 ((rd_T61 l0_1 x10_1).f0))).trans hx468_0;replace hx468_0:=(cell_far (p:=⟨gb466,1,none⟩) (by first | (rw [add_block];exact hn468_1) | (show (Addr.add _ _).block ≠ _;rw [add_block];exact hn468_1) | exact hn468_1) (.int .i64 ((rd_T61 l0_1 x10_1).f1))).trans hx468_0;(try have hy468_0:=fun (n_:Nat)=>(show ((((w13.drewN n_).setCell ⟨gb466,0,none⟩ (.int .i64 ((rd_T61 l0_1 x10_1).f0))).setCell ⟨gb466,1,none⟩ (.int .i64 ((rd_T61 l0_1 x10_1).f1)))).cell? _=some _ from hx468_0));clear hn468_0;clear hn468_1;replace p468:=eq_true p468;replace q468:=eq_true q468))
           repeat (go_quiet (first | ((with_reducible refine gate_dst (N:=6) rfl ?_);refine box_event ?hg (N:=6) ?hd (cs:=#[.int .i64 0,.int .i64 0]) (t:=61) ?hr ?_;(case hd=>rfl);(case hg=>rfl);(case hr=>first | (go_simp;done) | (go_simp;rfl));intro gb466 hg w13 hbox hb;have n0_:=Aside0.mk (zz11 (g:=gb464) (o:=.cells #[.int .i64 a0_0,.slice (some ad465) l0_1.length c0_1] 29 (0,0)) (by (with_reducible repeat (first | refine zz6 ?_ _ | refine zz7 ?_ | refine zz8 ?_ _));exact BK464.out) hb);have n1_:=Aside0.mk (zz4 (by repeat first | exact HB.out | apply zz2 | apply zz0 | apply zz1 | refine zz3 ?_ GE464.out) hb);have n2_:=Aside0.mk (hbox);have n3_:=Aside0.mk ((by rw [hg];exact (zz5 (by repeat first | exact HB.out | apply zz2 | apply zz0 | apply zz1 | refine zz3 ?_ GE464.out)):w.heap.size≤gb466));have n4_:=Aside0.mk ((by rw [hg];exact (zz5 (by repeat first | exact HB.out | apply zz2 | apply zz0 | apply zz1 | refine zz3 ?_ GE464.out)):w.heap.size≤gb466));have n5_:=Aside0.mk ((by rw [hg];exact Nat.ne_of_lt (blk_lt (g:=gb464) (o:=.cells #[.int .i64 a0_0,.slice (some ad465) l0_1.length c0_1] 29 (0,0)) (by (with_reducible repeat (first | refine zz6 ?_ _ | refine zz7 ?_ | refine zz8 ?_ _));exact BK464.out)):gb464 ≠ gb466));have n6_:=Aside0.mk ((by rw [hg];exact Nat.ne_of_gt (blk_lt (g:=gb464) (o:=.cells #[.int .i64 a0_0,.slice (some ad465) l0_1.length c0_1] 29 (0,0)) (by (with_reducible repeat (first | refine zz6 ?_ _ | refine zz7 ?_ | refine zz8 ?_ _));exact BK464.out)):gb466 ≠ gb464));clear BK464;clear HB;have BK464:=n0_;have HB:=n1_;have BK466:=n2_;have GW466:=n3_;have GE466:=n4_;have NB464_466:=n5_;have NB466_464:=n6_;clear n0_ n1_ n2_ n3_ n4_ n5_ n6_;clear hb hbox hg;have hnb14:=NB466_464.out;have hnc14:=NB464_466.out;have hcz15_0:w13.cell? ⟨gb466,0,none⟩=some (.int .i64 0):=(zz9 BK466.out 0).trans rfl;have hcz15_1:w13.cell? ⟨gb466,1,none⟩=some (.int .i64 0):=(zz9 BK466.out 1).trans rfl;have hfz15_0:=zz10 BK466.out 0;have hfz15_1:=zz10 BK466.out 1;have p467:0≤(((rd_T61 l0_1 x10_1).f0):Int):=zz29 (by first | (with_reducible assumption) | assumption);have q467:((rd_T61 l0_1 x10_1).f0) < (l1.length:Int):=zz29 (by first | (with_reducible assumption) | assumption);obtain ⟨ad467,e467,hx467_0⟩:=Kd.at_int HR1.out ((rd_T61 l0_1 x10_1).f0) p467 q467;cases e467;have hn467_0:ad467.block ≠ gb466:=Nat.ne_of_lt (Nat.lt_of_lt_of_le (by have:=World.block_lt_of_cell? _ _ hx467_0;first | rwa [add_block] at this | exact this) GW466.out);have hn467_1:ad467.block ≠ gb466:=Nat.ne_of_lt (Nat.lt_of_lt_of_le (by have:=World.block_lt_of_cell? _ _ hx467_0;first | rwa [add_block] at this | exact this) GW466.out);replace hx467_0:=(HB.out.cell (World.block_lt_of_cell? w _ hx467_0)).trans hx467_0;replace hx467_0:=(cell_far (p:=⟨gb466,0,none⟩) (by first | (rw [add_block];exact hn467_0) | (show (Addr.add _ _).block ≠ _;rw [add_block];exact hn467_0) | exact hn467_0) (.int .i64 ((rd_T61 l0_1 x10_1).f0))).trans hx467_0;replace hx467_0:=(cell_far (p:=⟨gb466,1,none⟩) (by first | (rw [add_block];exact hn467_1) | (show (Addr.add _ _).block ≠ _;rw [add_block];exact hn467_1) | exact hn467_1) (.int .i64 ((rd_T61 l0_1 x10_1).f1))).trans hx467_0;(try have hy467_0:=fun (n_:Nat)=>(show ((((w13.drewN n_).setCell ⟨gb466,0,none⟩ (.int .i64 ((rd_T61 l0_1 x10_1).f0))).setCell ⟨gb466,1,none⟩ (.int .i64 ((rd_T61 l0_1 x10_1).f1)))).cell? _=some _ from hx467_0));clear hn467_0;clear hn467_1;replace p467:=eq_true p467;replace q467:=eq_true q467;have p468:0≤(((rd_T61 l0_1 x10_1).f1):Int):=zz29 (by first | (with_reducible assumption) | assumption);have q468:((rd_T61 l0_1 x10_1).f1) < (l1.length:Int):=zz29 (by first | (with_reducible assumption) | assumption);obtain ⟨ad468,e468,hx468_0⟩:=Kd.at_int HR1.out ((rd_T61 l0_1 x10_1).f1) p468 q468;obtain rfl:ad467=ad468:=(by injection e468);have hn468_0:ad467.block ≠ gb466:=Nat.ne_of_lt (Nat.lt_of_lt_of_le (by have:=World.block_lt_of_cell? _ _ hx468_0;first | rwa [add_block] at this | exact this) GW466.out);have hn468_1:ad467.block ≠ gb466:=Nat.ne_of_lt (Nat.lt_of_lt_of_le (by have:=World.block_lt_of_cell? _ _ hx468_0;first | rwa [add_block] at this | exact this) GW466.out);replace hx468_0:=(HB.out.cell (World.block_lt_of_cell? w _ hx468_0)).trans hx468_0;replace hx468_0:=(cell_far (p:=⟨gb466,0,none⟩) (by first | (rw [add_block];exact hn468_0) | (show (Addr.add _ _).block ≠ _;rw [add_block];exact hn468_0) | exact hn468_0) (.int .i64 ((rd_T61 l0_1 x10_1).f0))).trans hx468_0;replace hx468_0:=(cell_far (p:=⟨gb466,1,none⟩) (by first | (rw [add_block];exact hn468_1) | (show (Addr.add _ _).block ≠ _;rw [add_block];exact hn468_1) | exact hn468_1) (.int .i64 ((rd_T61 l0_1 x10_1).f1))).trans hx468_0;(try have hy468_0:=fun (n_:Nat)=>(show ((((w13.drewN n_).setCell ⟨gb466,0,none⟩ (.int .i64 ((rd_T61 l0_1 x10_1).f0))).setCell ⟨gb466,1,none⟩ (.int .i64 ((rd_T61 l0_1 x10_1).f1)))).cell? _=some _ from hx468_0));clear hn468_0;clear hn468_1;replace p468:=eq_true p468;replace q468:=eq_true q468));try go_wp2_with (first | ((with_reducible refine gate_dst (N:=6) rfl ?_);refine box_event ?hg (N:=6) ?hd (cs:=#[.int .i64 0,.int .i64 0]) (t:=61) ?hr ?_;(case hd=>rfl);(case hg=>rfl);(case hr=>first | (go_simp;done) | (go_simp;rfl));intro gb466 hg w13 hbox hb;have n0_:=Aside0.mk (zz11 (g:=gb464) (o:=.cells #[.int .i64 a0_0,.slice (some ad465) l0_1.length c0_1] 29 (0,0)) (by (with_reducible repeat (first | refine zz6 ?_ _ | refine zz7 ?_ | refine zz8 ?_ _));exact BK464.out) hb);have n1_:=Aside0.mk (zz4 (by repeat first | exact HB.out | apply zz2 | apply zz0 | apply zz1 | refine zz3 ?_ GE464.out) hb);have n2_:=Aside0.mk (hbox);have n3_:=Aside0.mk ((by rw [hg];exact (zz5 (by repeat first | exact HB.out | apply zz2 | apply zz0 | apply zz1 | refine zz3 ?_ GE464.out)):w.heap.size≤gb466));have n4_:=Aside0.mk ((by rw [hg];exact (zz5 (by repeat first | exact HB.out | apply zz2 | apply zz0 | apply zz1 | refine zz3 ?_ GE464.out)):w.heap.size≤gb466));have n5_:=Aside0.mk ((by rw [hg];exact Nat.ne_of_lt (blk_lt (g:=gb464) (o:=.cells #[.int .i64 a0_0,.slice (some ad465) l0_1.length c0_1] 29 (0,0)) (by (with_reducible repeat (first | refine zz6 ?_ _ | refine zz7 ?_ | refine zz8 ?_ _));exact BK464.out)):gb464 ≠ gb466));have n6_:=Aside0.mk ((by rw [hg];exact Nat.ne_of_gt (blk_lt (g:=gb464) (o:=.cells #[.int .i64 a0_0,.slice (some ad465) l0_1.length c0_1] 29 (0,0)) (by (with_reducible repeat (first | refine zz6 ?_ _ | refine zz7 ?_ | refine zz8 ?_ _));exact BK464.out)):gb466 ≠ gb464));clear BK464;clear HB;have BK464:=n0_;have HB:=n1_;have BK466:=n2_;have GW466:=n3_;have GE466:=n4_;have NB464_466:=n5_;have NB466_464:=n6_;clear n0_ n1_ n2_ n3_ n4_ n5_ n6_;clear hb hbox hg;have hnb14:=NB466_464.out;have hnc14:=NB464_466.out;have hcz15_0:w13.cell? ⟨gb466,0,none⟩=some (.int .i64 0):=(zz9 BK466.out 0).trans rfl;have hcz15_1:w13.cell? ⟨gb466,1,none⟩=some (.int .i64 0):=(zz9 BK466.out 1).trans rfl;have hfz15_0:=zz10 BK466.out 0;have hfz15_1:=zz10 BK466.out 1;have p467:0≤(((rd_T61 l0_1 x10_1).f0):Int):=zz29 (by first | (with_reducible assumption) | assumption);have q467:((rd_T61 l0_1 x10_1).f0) < (l1.length:Int):=zz29 (by first | (with_reducible assumption) | assumption);obtain ⟨ad467,e467,hx467_0⟩:=Kd.at_int HR1.out ((rd_T61 l0_1 x10_1).f0) p467 q467;cases e467;have hn467_0:ad467.block ≠ gb466:=Nat.ne_of_lt (Nat.lt_of_lt_of_le (by have:=World.block_lt_of_cell? _ _ hx467_0;first | rwa [add_block] at this | exact this) GW466.out);have hn467_1:ad467.block ≠ gb466:=Nat.ne_of_lt (Nat.lt_of_lt_of_le (by have:=World.block_lt_of_cell? _ _ hx467_0;first | rwa [add_block] at this | exact this) GW466.out);replace hx467_0:=(HB.out.cell (World.block_lt_of_cell? w _ hx467_0)).trans hx467_0;replace hx467_0:=(cell_far (p:=⟨gb466,0,none⟩) (by first | (rw [add_block];exact hn467_0) | (show (Addr.add _ _).block ≠ _;rw [add_block];exact hn467_0) | exact hn467_0) (.int .i64 ((rd_T61 l0_1 x10_1).f0))).trans hx467_0;replace hx467_0:=(cell_far (p:=⟨gb466,1,none⟩) (by first | (rw [add_block];exact hn467_1) | (show (Addr.add _ _).block ≠ _;rw [add_block];exact hn467_1) | exact hn467_1) (.int .i64 ((rd_T61 l0_1 x10_1).f1))).trans hx467_0;(try have hy467_0:=fun (n_:Nat)=>(show ((((w13.drewN n_).setCell ⟨gb466,0,none⟩ (.int .i64 ((rd_T61 l0_1 x10_1).f0))).setCell ⟨gb466,1,none⟩ (.int .i64 ((rd_T61 l0_1 x10_1).f1)))).cell? _=some _ from hx467_0));clear hn467_0;clear hn467_1;replace p467:=eq_true p467;replace q467:=eq_true q467;have p468:0≤(((rd_T61 l0_1 x10_1).f1):Int):=zz29 (by first | (with_reducible assumption) | assumption);have q468:((rd_T61 l0_1 x10_1).f1) < (l1.length:Int):=zz29 (by first | (with_reducible assumption) | assumption);obtain ⟨ad468,e468,hx468_0⟩:=Kd.at_int HR1.out ((rd_T61 l0_1 x10_1).f1) p468 q468;obtain rfl:ad467=ad468:=(by injection e468);have hn468_0:ad467.block ≠ gb466:=Nat.ne_of_lt (Nat.lt_of_lt_of_le (by have:=World.block_lt_of_cell? _ _ hx468_0;first | rwa [add_block] at this | exact this) GW466.out);have hn468_1:ad467.block ≠ gb466:=Nat.ne_of_lt (Nat.lt_of_lt_of_le (by have:=World.block_lt_of_cell? _ _ hx468_0;first | rwa [add_block] at this | exact this) GW466.out);replace hx468_0:=(HB.out.cell (World.block_lt_of_cell? w _ hx468_0)).trans hx468_0;replace hx468_0:=(cell_far (p:=⟨gb466,0,none⟩) (by first | (rw [add_block];exact hn468_0) | (show (Addr.add _ _).block ≠ _;rw [add_block];exact hn468_0) | exact hn468_0) (.int .i64 ((rd_T61 l0_1 x10_1).f0))).trans hx468_0;replace hx468_0:=(cell_far (p:=⟨gb466,1,none⟩) (by first | (rw [add_block];exact hn468_1) | (show (Addr.add _ _).block ≠ _;rw [add_block];exact hn468_1) | exact hn468_1) (.int .i64 ((rd_T61 l0_1 x10_1).f1))).trans hx468_0;(try have hy468_0:=fun (n_:Nat)=>(show ((((w13.drewN n_).setCell ⟨gb466,0,none⟩ (.int .i64 ((rd_T61 l0_1 x10_1).f0))).setCell ⟨gb466,1,none⟩ (.int .i64 ((rd_T61 l0_1 x10_1).f1)))).cell? _=some _ from hx468_0));clear hn468_0;clear hn468_1;replace p468:=eq_true p468;replace q468:=eq_true q468)))
           go_ret
           exact ⟨by first | rfl | (simp [errW_none,errW_some] <;> rfl) | (simp [*,errW_none,errW_some] <;> rfl),by repeat first | exact HB.out | apply zz2 | apply zz0 | apply zz1 | refine zz3 ?_ GE464.out | refine zz3 ?_ GE466.out⟩
          ·rw [if_neg c12] at H
           have c12b0:((rd l1 ((rd_T61 l0_1 x10_1).f0)) == (rd l1 ((rd_T61 l0_1 x10_1).f1)))=false:=beq_eq_false_iff_ne.mpr c12
           have c12b1:((rd l1 ((rd_T61 l0_1 x10_1).f0)) != (rd l1 ((rd_T61 l0_1 x10_1).f1)))=true:=bne_iff_ne.mpr c12
           have H':=Aside0.mk H
           clear H
           have p465:0≤(x10_1:Int):=zz29 (by first | (with_reducible assumption) | assumption)
           have q465:x10_1 < (l0_1.length:Int):=zz29 (by first | (with_reducible assumption) | assumption)
           obtain ⟨ad465,e465,hx465_0,hx465_1⟩:=at_T61 HR0_1.out x10_1 p465 q465
           cases e465
           replace hx465_0:=(HB.out.cell (World.block_lt_of_cell? w _ hx465_0)).trans hx465_0
           replace hx465_1:=(HB.out.cell (World.block_lt_of_cell? w _ hx465_1)).trans hx465_1
           replace p465:=eq_true p465
           replace q465:=eq_true q465
           go_wp2_with (first | ((with_reducible refine gate_dst (N:=6) rfl ?_);refine box_event ?hg (N:=6) ?hd (cs:=#[.int .i64 0,.int .i64 0]) (t:=61) ?hr ?_;(case hd=>rfl);(case hg=>rfl);(case hr=>first | (go_simp;done) | (go_simp;rfl));intro gb466 hg w16 hbox hb;have n0_:=Aside0.mk (zz11 (g:=gb464) (o:=.cells #[.int .i64 a0_0,.slice (some ad465) l0_1.length c0_1] 29 (0,0)) (by (with_reducible repeat (first | refine zz6 ?_ _ | refine zz7 ?_ | refine zz8 ?_ _));exact BK464.out) hb);have n1_:=Aside0.mk (zz4 (by repeat first | exact HB.out | apply zz2 | apply zz0 | apply zz1 | refine zz3 ?_ GE464.out) hb);have n2_:=Aside0.mk (hbox);have n3_:=Aside0.mk ((by rw [hg];exact (zz5 (by repeat first | exact HB.out | apply zz2 | apply zz0 | apply zz1 | refine zz3 ?_ GE464.out)):w.heap.size≤gb466));have n4_:=Aside0.mk ((by rw [hg];exact (zz5 (by repeat first | exact HB.out | apply zz2 | apply zz0 | apply zz1 | refine zz3 ?_ GE464.out)):w.heap.size≤gb466));have n5_:=Aside0.mk ((by rw [hg];exact Nat.ne_of_lt (blk_lt (g:=gb464) (o:=.cells #[.int .i64 a0_0,.slice (some ad465) l0_1.length c0_1] 29 (0,0)) (by (with_reducible repeat (first | refine zz6 ?_ _ | refine zz7 ?_ | refine zz8 ?_ _));exact BK464.out)):gb464 ≠ gb466));have n6_:=Aside0.mk ((by rw [hg];exact Nat.ne_of_gt (blk_lt (g:=gb464) (o:=.cells #[.int .i64 a0_0,.slice (some ad465) l0_1.length c0_1] 29 (0,0)) (by (with_reducible repeat (first | refine zz6 ?_ _ | refine zz7 ?_ | refine zz8 ?_ _));exact BK464.out)):gb466 ≠ gb464));clear BK464;clear HB;have BK464:=n0_;have HB:=n1_;have BK466:=n2_;have GW466:=n3_;have GE466:=n4_;have NB464_466:=n5_;have NB466_464:=n6_;clear n0_ n1_ n2_ n3_ n4_ n5_ n6_;clear hb hbox hg;have hnb17:=NB466_464.out;have hnc17:=NB464_466.out;have hcz18_0:w16.cell? ⟨gb466,0,none⟩=some (.int .i64 0):=(zz9 BK466.out 0).trans rfl;have hcz18_1:w16.cell? ⟨gb466,1,none⟩=some (.int .i64 0):=(zz9 BK466.out 1).trans rfl;have hfz18_0:=zz10 BK466.out 0;have hfz18_1:=zz10 BK466.out 1;have p467:0≤(((rd_T61 l0_1 x10_1).f0):Int):=zz29 (by first | (with_reducible assumption) | assumption);have q467:((rd_T61 l0_1 x10_1).f0) < (l1.length:Int):=zz29 (by first | (with_reducible assumption) | assumption);obtain ⟨ad467,e467,hx467_0⟩:=Kd.at_int HR1.out ((rd_T61 l0_1 x10_1).f0) p467 q467;cases e467;have hn467_0:ad467.block ≠ gb466:=Nat.ne_of_lt (Nat.lt_of_lt_of_le (by have:=World.block_lt_of_cell? _ _ hx467_0;first | rwa [add_block] at this | exact this) GW466.out);have hn467_1:ad467.block ≠ gb466:=Nat.ne_of_lt (Nat.lt_of_lt_of_le (by have:=World.block_lt_of_cell? _ _ hx467_0;first | rwa [add_block] at this | exact this) GW466.out);replace hx467_0:=(HB.out.cell (World.block_lt_of_cell? w _ hx467_0)).trans hx467_0;replace hx467_0:=(cell_far (p:=⟨gb466,0,none⟩) (by first | (rw [add_block];exact hn467_0) | (show (Addr.add _ _).block ≠ _;rw [add_block];exact hn467_0) | exact hn467_0) (.int .i64 ((rd_T61 l0_1 x10_1).f0))).trans hx467_0;replace hx467_0:=(cell_far (p:=⟨gb466,1,none⟩) (by first | (rw [add_block];exact hn467_1) | (show (Addr.add _ _).block ≠ _;rw [add_block];exact hn467_1) | exact hn467_1) (.int .i64 ((rd_T61 l0_1 x10_1).f1))).trans hx467_0;(try have hy467_0:=fun (n_:Nat)=>(show ((((w16.drewN n_).setCell ⟨gb466,0,none⟩ (.int .i64 ((rd_T61 l0_1 x10_1).f0))).setCell ⟨gb466,1,none⟩ (.int .i64 ((rd_T61 l0_1 x10_1).f1)))).cell? _=some _ from hx467_0));clear hn467_0;clear hn467_1;replace p467:=eq_true p467;replace q467:=eq_true q467;have p468:0≤(((rd_T61 l0_1 x10_1).f1):Int):=zz29 (by first | (with_reducible assumption) | assumption);have q468:((rd_T61 l0_1 x10_1).f1) < (l1.length:Int):=zz29 (by first | (with_reducible assumption) | assumption);obtain ⟨ad468,e468,hx468_0⟩:=Kd.at_int HR1.out ((rd_T61 l0_1 x10_1).f1) p468 q468;obtain rfl:ad467=ad468:=(by injection e468);have hn468_0:ad467.block ≠ gb466:=Nat.ne_of_lt (Nat.lt_of_lt_of_le (by have:=World.block_lt_of_cell? _ _ hx468_0;first | rwa [add_block] at this | exact this) GW466.out);have hn468_1:ad467.block ≠ gb466:=Nat.ne_of_lt (Nat.lt_of_lt_of_le (by have:=World.block_lt_of_cell? _ _ hx468_0;first | rwa [add_block] at this | exact this) GW466.out);replace hx468_0:=(HB.out.cell (World.block_lt_of_cell? w _ hx468_0)).trans hx468_0;replace hx468_0:=(cell_far (p:=⟨gb466,0,none⟩) (by first | (rw [add_block];exact hn468_0) | (show (Addr.add _ _).block ≠ _;rw [add_block];exact hn468_0) | exact hn468_0) (.int .i64 ((rd_T61 l0_1 x10_1).f0))).trans hx468_0;replace hx468_0:=(cell_far (p:=⟨gb466,1,none⟩) (by first | (rw [add_block];exact hn468_1) | (show (Addr.add _ _).block ≠ _;rw [add_block];exact hn468_1) | exact hn468_1) (.int .i64 ((rd_T61 l0_1 x10_1).f1))).trans hx468_0;(try have hy468_0:=fun (n_:Nat)=>(show ((((w16.drewN n_).setCell ⟨gb466,0,none⟩ (.int .i64 ((rd_T61 l0_1 x10_1).f0))).setCell ⟨gb466,1,none⟩ (.int .i64 ((rd_T61 l0_1 x10_1).f1)))).cell? _=some _ from hx468_0));clear hn468_0;clear hn468_1;replace p468:=eq_true p468;replace q468:=eq_true q468))
           repeat (go_quiet (first | ((with_reducible refine gate_dst (N:=6) rfl ?_);refine box_event ?hg (N:=6) ?hd (cs:=#[.int .i64 0,.int .i64 0]) (t:=61) ?hr ?_;(case hd=>rfl);(case hg=>rfl);(case hr=>first | (go_simp;done) | (go_simp;rfl));intro gb466 hg w16 hbox hb;have n0_:=Aside0.mk (zz11 (g:=gb464) (o:=.cells #[.int .i64 a0_0,.slice (some ad465) l0_1.length c0_1] 29 (0,0)) (by (with_reducible repeat (first | refine zz6 ?_ _ | refine zz7 ?_ | refine zz8 ?_ _));exact BK464.out) hb);have n1_:=Aside0.mk (zz4 (by repeat first | exact HB.out | apply zz2 | apply zz0 | apply zz1 | refine zz3 ?_ GE464.out) hb);have n2_:=Aside0.mk (hbox);have n3_:=Aside0.mk ((by rw [hg];exact (zz5 (by repeat first | exact HB.out | apply zz2 | apply zz0 | apply zz1 | refine zz3 ?_ GE464.out)):w.heap.size≤gb466));have n4_:=Aside0.mk ((by rw [hg];exact (zz5 (by repeat first | exact HB.out | apply zz2 | apply zz0 | apply zz1 | refine zz3 ?_ GE464.out)):w.heap.size≤gb466));have n5_:=Aside0.mk ((by rw [hg];exact Nat.ne_of_lt (blk_lt (g:=gb464) (o:=.cells #[.int .i64 a0_0,.slice (some ad465) l0_1.length c0_1] 29 (0,0)) (by (with_reducible repeat (first | refine zz6 ?_ _ | refine zz7 ?_ | refine zz8 ?_ _));exact BK464.out)):gb464 ≠ gb466));have n6_:=Aside0.mk ((by rw [hg];exact Nat.ne_of_gt (blk_lt (g:=gb464) (o:=.cells #[.int .i64 a0_0,.slice (some ad465) l0_1.length c0_1] 29 (0,0)) (by (with_reducible repeat (first | refine zz6 ?_ _ | refine zz7 ?_ | refine zz8 ?_ _));exact BK464.out)):gb466 ≠ gb464));clear BK464;clear HB;have BK464:=n0_;have HB:=n1_;have BK466:=n2_;have GW466:=n3_;have GE466:=n4_;have NB464_466:=n5_;have NB466_464:=n6_;clear n0_ n1_ n2_ n3_ n4_ n5_ n6_;clear hb hbox hg;have hnb17:=NB466_464.out;have hnc17:=NB464_466.out;have hcz18_0:w16.cell? ⟨gb466,0,none⟩=some (.int .i64 0):=(zz9 BK466.out 0).trans rfl;have hcz18_1:w16.cell? ⟨gb466,1,none⟩=some (.int .i64 0):=(zz9 BK466.out 1).trans rfl;have hfz18_0:=zz10 BK466.out 0;have hfz18_1:=zz10 BK466.out 1;have p467:0≤(((rd_T61 l0_1 x10_1).f0):Int):=zz29 (by first | (with_reducible assumption) | assumption);have q467:((rd_T61 l0_1 x10_1).f0) < (l1.length:Int):=zz29 (by first | (with_reducible assumption) | assumption);obtain ⟨ad467,e467,hx467_0⟩:=Kd.at_int HR1.out ((rd_T61 l0_1 x10_1).f0) p467 q467;cases e467;have hn467_0:ad467.block ≠ gb466:=Nat.ne_of_lt (Nat.lt_of_lt_of_le (by have:=World.block_lt_of_cell? _ _ hx467_0;first | rwa [add_block] at this | exact this) GW466.out);have hn467_1:ad467.block ≠ gb466:=Nat.ne_of_lt (Nat.lt_of_lt_of_le (by have:=World.block_lt_of_cell? _ _ hx467_0;first | rwa [add_block] at this | exact this) GW466.out);replace hx467_0:=(HB.out.cell (World.block_lt_of_cell? w _ hx467_0)).trans hx467_0;replace hx467_0:=(cell_far (p:=⟨gb466,0,none⟩) (by first | (rw [add_block];exact hn467_0) | (show (Addr.add _ _).block ≠ _;rw [add_block];exact hn467_0) | exact hn467_0) (.int .i64 ((rd_T61 l0_1 x10_1).f0))).trans hx467_0;replace hx467_0:=(cell_far (p:=⟨gb466,1,none⟩) (by first | (rw [add_block];exact hn467_1) | (show (Addr.add _ _).block ≠ _;rw [add_block];exact hn467_1) | exact hn467_1) (.int .i64 ((rd_T61 l0_1 x10_1).f1))).trans hx467_0;(try have hy467_0:=fun (n_:Nat)=>(show ((((w16.drewN n_).setCell ⟨gb466,0,none⟩ (.int .i64 ((rd_T61 l0_1 x10_1).f0))).setCell ⟨gb466,1,none⟩ (.int .i64 ((rd_T61 l0_1 x10_1).f1)))).cell? _=some _ from hx467_0));clear hn467_0;clear hn467_1;replace p467:=eq_true p467;replace q467:=eq_true q467;have p468:0≤(((rd_T61 l0_1 x10_1).f1):Int):=zz29 (by first | (with_reducible assumption) | assumption);have q468:((rd_T61 l0_1 x10_1).f1) < (l1.length:Int):=zz29 (by first | (with_reducible assumption) | assumption);obtain ⟨ad468,e468,hx468_0⟩:=Kd.at_int HR1.out ((rd_T61 l0_1 x10_1).f1) p468 q468;obtain rfl:ad467=ad468:=(by injection e468);have hn468_0:ad467.block ≠ gb466:=Nat.ne_of_lt (Nat.lt_of_lt_of_le (by have:=World.block_lt_of_cell? _ _ hx468_0;first | rwa [add_block] at this | exact this) GW466.out);have hn468_1:ad467.block ≠ gb466:=Nat.ne_of_lt (Nat.lt_of_lt_of_le (by have:=World.block_lt_of_cell? _ _ hx468_0;first | rwa [add_block] at this | exact this) GW466.out);replace hx468_0:=(HB.out.cell (World.block_lt_of_cell? w _ hx468_0)).trans hx468_0;replace hx468_0:=(cell_far (p:=⟨gb466,0,none⟩) (by first | (rw [add_block];exact hn468_0) | (show (Addr.add _ _).block ≠ _;rw [add_block];exact hn468_0) | exact hn468_0) (.int .i64 ((rd_T61 l0_1 x10_1).f0))).trans hx468_0;replace hx468_0:=(cell_far (p:=⟨gb466,1,none⟩) (by first | (rw [add_block];exact hn468_1) | (show (Addr.add _ _).block ≠ _;rw [add_block];exact hn468_1) | exact hn468_1) (.int .i64 ((rd_T61 l0_1 x10_1).f1))).trans hx468_0;(try have hy468_0:=fun (n_:Nat)=>(show ((((w16.drewN n_).setCell ⟨gb466,0,none⟩ (.int .i64 ((rd_T61 l0_1 x10_1).f0))).setCell ⟨gb466,1,none⟩ (.int .i64 ((rd_T61 l0_1 x10_1).f1)))).cell? _=some _ from hx468_0));clear hn468_0;clear hn468_1;replace p468:=eq_true p468;replace q468:=eq_true q468));try go_wp2_with (first | ((with_reducible refine gate_dst (N:=6) rfl ?_);refine box_event ?hg (N:=6) ?hd (cs:=#[.int .i64 0,.int .i64 0]) (t:=61) ?hr ?_;(case hd=>rfl);(case hg=>rfl);(case hr=>first | (go_simp;done) | (go_simp;rfl));intro gb466 hg w16 hbox hb;have n0_:=Aside0.mk (zz11 (g:=gb464) (o:=.cells #[.int .i64 a0_0,.slice (some ad465) l0_1.length c0_1] 29 (0,0)) (by (with_reducible repeat (first | refine zz6 ?_ _ | refine zz7 ?_ | refine zz8 ?_ _));exact BK464.out) hb);have n1_:=Aside0.mk (zz4 (by repeat first | exact HB.out | apply zz2 | apply zz0 | apply zz1 | refine zz3 ?_ GE464.out) hb);have n2_:=Aside0.mk (hbox);have n3_:=Aside0.mk ((by rw [hg];exact (zz5 (by repeat first | exact HB.out | apply zz2 | apply zz0 | apply zz1 | refine zz3 ?_ GE464.out)):w.heap.size≤gb466));have n4_:=Aside0.mk ((by rw [hg];exact (zz5 (by repeat first | exact HB.out | apply zz2 | apply zz0 | apply zz1 | refine zz3 ?_ GE464.out)):w.heap.size≤gb466));have n5_:=Aside0.mk ((by rw [hg];exact Nat.ne_of_lt (blk_lt (g:=gb464) (o:=.cells #[.int .i64 a0_0,.slice (some ad465) l0_1.length c0_1] 29 (0,0)) (by (with_reducible repeat (first | refine zz6 ?_ _ | refine zz7 ?_ | refine zz8 ?_ _));exact BK464.out)):gb464 ≠ gb466));have n6_:=Aside0.mk ((by rw [hg];exact Nat.ne_of_gt (blk_lt (g:=gb464) (o:=.cells #[.int .i64 a0_0,.slice (some ad465) l0_1.length c0_1] 29 (0,0)) (by (with_reducible repeat (first | refine zz6 ?_ _ | refine zz7 ?_ | refine zz8 ?_ _));exact BK464.out)):gb466 ≠ gb464));clear BK464;clear HB;have BK464:=n0_;have HB:=n1_;have BK466:=n2_;have GW466:=n3_;have GE466:=n4_;have NB464_466:=n5_;have NB466_464:=n6_;clear n0_ n1_ n2_ n3_ n4_ n5_ n6_;clear hb hbox hg;have hnb17:=NB466_464.out;have hnc17:=NB464_466.out;have hcz18_0:w16.cell? ⟨gb466,0,none⟩=some (.int .i64 0):=(zz9 BK466.out 0).trans rfl;have hcz18_1:w16.cell? ⟨gb466,1,none⟩=some (.int .i64 0):=(zz9 BK466.out 1).trans rfl;have hfz18_0:=zz10 BK466.out 0;have hfz18_1:=zz10 BK466.out 1;have p467:0≤(((rd_T61 l0_1 x10_1).f0):Int):=zz29 (by first | (with_reducible assumption) | assumption);have q467:((rd_T61 l0_1 x10_1).f0) < (l1.length:Int):=zz29 (by first | (with_reducible assumption) | assumption);obtain ⟨ad467,e467,hx467_0⟩:=Kd.at_int HR1.out ((rd_T61 l0_1 x10_1).f0) p467 q467;cases e467;have hn467_0:ad467.block ≠ gb466:=Nat.ne_of_lt (Nat.lt_of_lt_of_le (by have:=World.block_lt_of_cell? _ _ hx467_0;first | rwa [add_block] at this | exact this) GW466.out);have hn467_1:ad467.block ≠ gb466:=Nat.ne_of_lt (Nat.lt_of_lt_of_le (by have:=World.block_lt_of_cell? _ _ hx467_0;first | rwa [add_block] at this | exact this) GW466.out);replace hx467_0:=(HB.out.cell (World.block_lt_of_cell? w _ hx467_0)).trans hx467_0;replace hx467_0:=(cell_far (p:=⟨gb466,0,none⟩) (by first | (rw [add_block];exact hn467_0) | (show (Addr.add _ _).block ≠ _;rw [add_block];exact hn467_0) | exact hn467_0) (.int .i64 ((rd_T61 l0_1 x10_1).f0))).trans hx467_0;replace hx467_0:=(cell_far (p:=⟨gb466,1,none⟩) (by first | (rw [add_block];exact hn467_1) | (show (Addr.add _ _).block ≠ _;rw [add_block];exact hn467_1) | exact hn467_1) (.int .i64 ((rd_T61 l0_1 x10_1).f1))).trans hx467_0;(try have hy467_0:=fun (n_:Nat)=>(show ((((w16.drewN n_).setCell ⟨gb466,0,none⟩ (.int .i64 ((rd_T61 l0_1 x10_1).f0))).setCell ⟨gb466,1,none⟩ (.int .i64 ((rd_T61 l0_1 x10_1).f1)))).cell? _=some _ from hx467_0));clear hn467_0;clear hn467_1;replace p467:=eq_true p467;replace q467:=eq_true q467;have p468:0≤(((rd_T61 l0_1 x10_1).f1):Int):=zz29 (by first | (with_reducible assumption) | assumption);have q468:((rd_T61 l0_1 x10_1).f1) < (l1.length:Int):=zz29 (by first | (with_reducible assumption) | assumption);obtain ⟨ad468,e468,hx468_0⟩:=Kd.at_int HR1.out ((rd_T61 l0_1 x10_1).f1) p468 q468;obtain rfl:ad467=ad468:=(by injection e468);have hn468_0:ad467.block ≠ gb466:=Nat.ne_of_lt (Nat.lt_of_lt_of_le (by have:=World.block_lt_of_cell? _ _ hx468_0;first | rwa [add_block] at this | exact this) GW466.out);have hn468_1:ad467.block ≠ gb466:=Nat.ne_of_lt (Nat.lt_of_lt_of_le (by have:=World.block_lt_of_cell? _ _ hx468_0;first | rwa [add_block] at this | exact this) GW466.out);replace hx468_0:=(HB.out.cell (World.block_lt_of_cell? w _ hx468_0)).trans hx468_0;replace hx468_0:=(cell_far (p:=⟨gb466,0,none⟩) (by first | (rw [add_block];exact hn468_0) | (show (Addr.add _ _).block ≠ _;rw [add_block];exact hn468_0) | exact hn468_0) (.int .i64 ((rd_T61 l0_1 x10_1).f0))).trans hx468_0;replace hx468_0:=(cell_far (p:=⟨gb466,1,none⟩) (by first | (rw [add_block];exact hn468_1) | (show (Addr.add _ _).block ≠ _;rw [add_block];exact hn468_1) | exact hn468_1) (.int .i64 ((rd_T61 l0_1 x10_1).f1))).trans hx468_0;(try have hy468_0:=fun (n_:Nat)=>(show ((((w16.drewN n_).setCell ⟨gb466,0,none⟩ (.int .i64 ((rd_T61 l0_1 x10_1).f0))).setCell ⟨gb466,1,none⟩ (.int .i64 ((rd_T61 l0_1 x10_1).f1)))).cell? _=some _ from hx468_0));clear hn468_0;clear hn468_1;replace p468:=eq_true p468;replace q468:=eq_true q468)))
           go_roundg k1
           case measure=>have:=HK1.out;omega
           case rel=>exact ⟨(wrap64 (x10_1+1)),(by first | rfl | (simp;done) | (simp [*];done)),H',⟨by have:=HK1.out;omega⟩,⟨by (with_reducible repeat (first | refine zz6 ?_ _ | refine zz7 ?_ | refine zz8 ?_ _));refine blk_far ?_ NB464_466.out _;(with_reducible repeat (first | refine zz6 ?_ _ | refine zz7 ?_ | refine zz8 ?_ _));refine blk_far ?_ NB464_466.out _;(with_reducible repeat (first | refine zz6 ?_ _ | refine zz7 ?_ | refine zz8 ?_ _));exact BK464.out⟩,⟨by repeat first | exact HB.out | apply zz2 | apply zz0 | apply zz1 | refine zz3 ?_ GE464.out | refine zz3 ?_ GE466.out⟩⟩
         ·rw [if_neg c11] at H
          exact absurd H (by simp)
        ·rw [if_neg c10] at H
         exact absurd H (by simp)
       ·rw [if_neg c9] at H
        exact absurd H (by simp)
      ·rw [if_neg c8] at H
       exact absurd H (by simp)
     ·rw [if_neg c7] at H
      exact absurd H (by simp)
    ·rw [if_neg c6] at H
     exact absurd H (by simp)
   ·rw [if_neg c5] at H
    have c5b0:decide (x10_1 < (l0_1.length:Int))=false:=decide_eq_false c5
    clear c5
    obtain rfl:=Option.some.inj H
    go_wp2
    repeat (go_quiet (fail);try go_wp2)
    go_ret
    exact ⟨by first | rfl | (simp [errW_none,errW_some] <;> rfl) | (simp [*,errW_none,errW_some] <;> rfl),by repeat first | exact HB.out | apply zz2 | apply zz0 | apply zz1 | refine zz3 ?_ GE464.out⟩

/-! ### spec_IsColouring: function 30 -/
def spec_IsColouring.f (k:Nat) (a0_0:Int) (l0_1:List (S61)) (l1:List Int):Option (Bool × Bool):=(spec_paGood.f k a0_0 l0_1).bind fun t470=>(if t470=true then ((spec_grColours.f k a0_0 l0_1 l1).bind fun t471=>(if t471=true then ((spec_grDiffer.f k a0_0 l0_1 l1).bind fun t472=>(some (t472,true))) else (some (false,true)))) else (some (false,false)))
theorem spec_IsColouring.mono:∀ a0 a1 a2 k,LeO (spec_IsColouring.f k a0 a1 a2) (spec_IsColouring.f (k+1) a0 a1 a2):=by
 intro a0 a1 a2 k
 unfold spec_IsColouring.f
 repeat' first
   | (with_reducible exact spec_grColours.mono _ _ _ _)
   | (with_reducible exact spec_grDiffer.mono _ _ _ _)
   | (with_reducible exact spec_paGood.mono _ _ _)
   | (with_reducible exact LeO.refl _)
   | (with_reducible exact LeO.none _)
   | (with_reducible refine LeO.ite ?_ ?_)
   | (with_reducible refine LeO.bind ?_ (fun _=>?_))
   | exact spec_grColours.mono _ _ _ _
   | exact spec_grDiffer.mono _ _ _ _
   | exact spec_paGood.mono _ _ _
   | exact LeO.none _
   | refine LeO.ite ?_ ?_
   | refine LeO.bind ?_ (fun _=>?_)
set_option maxHeartbeats 8000000 in
set_option maxRecDepth 100000 in
theorem spec_IsColouring.calls (k:Nat) (a0_0:Int) (A0_1:Option Addr) (c0_1:Nat) (l0_1:List (S61)) (A1:Option Addr) (c1:Nat) (l1:List Int) (r1:Bool) (r2:Bool) (w:World) (hr0_1:Kd.C k61 w A0_1 l0_1.length l0_1) (hc0_1:l0_1.length≤c0_1) (hr1:Kd.C (Kd.int .i64) w A1 l1.length l1) (hc1:l1.length≤c1) (h:spec_IsColouring.f k a0_0 l0_1 l1=some (r1,r2)) :
  Calls Try.prog 30 #[.agg #[.int .i64 a0_0,.slice A0_1 l0_1.length c0_1],.slice A1 l1.length c1] w fun e w'=>e=.returned (.tuple #[.bool r1,.bool r2])∧Below w.heap.size w w':=by
 have hu29:=Try.underlying29
 have HR0_1:=Aside0.mk hr0_1
 have HC0_1:=Aside0.mk hc0_1
 clear hr0_1 hc0_1
 have HR1:=Aside0.mk hr1
 have HC1:=Aside0.mk hc1
 clear hr1 hc1
 have HB:=Aside0.mk (Below.refl w.heap.size w)
 have H:((spec_paGood.f k a0_0 l0_1).bind fun t470=>(if t470=true then ((spec_grColours.f k a0_0 l0_1 l1).bind fun t471=>(if t471=true then ((spec_grDiffer.f k a0_0 l0_1 l1).bind fun t472=>(some (t472,true))) else (some (false,true)))) else (some (false,false))))=some (r1,r2):=h
 clear h
 replace H:=zz30.mp H
 obtain ⟨t470,A30,H⟩:=H
 replace H:(if t470=true then ((spec_grColours.f k a0_0 l0_1 l1).bind fun t471=>(if t471=true then ((spec_grDiffer.f k a0_0 l0_1 l1).bind fun t472=>(some (t472,true))) else (some (false,true)))) else (some (false,false)))=some (r1,r2):=H
 have A3:=Aside0.mk A30
 clear A30
 by_cases c4:t470=true
 ·subst c4
  have H1:((spec_grColours.f k a0_0 l0_1 l1).bind fun t471=>(if t471=true then ((spec_grDiffer.f k a0_0 l0_1 l1).bind fun t472=>(some (t472,true))) else (some (false,true))))=some (r1,r2):=by rw [if_pos rfl] at H;exact H
  clear H
  have H:=H1
  clear H1
  replace H:=zz30.mp H
  obtain ⟨t471,A50,H⟩:=H
  replace H:(if t471=true then ((spec_grDiffer.f k a0_0 l0_1 l1).bind fun t472=>(some (t472,true))) else (some (false,true)))=some (r1,r2):=H
  have A5:=Aside0.mk A50
  clear A50
  by_cases c6:t471=true
  ·subst c6
   have H1:((spec_grDiffer.f k a0_0 l0_1 l1).bind fun t472=>(some (t472,true)))=some (r1,r2):=by rw [if_pos rfl] at H;exact H
   clear H
   have H:=H1
   clear H1
   replace H:=zz30.mp H
   obtain ⟨t472,A70,H⟩:=H
   replace H:(some (t472,true))=some (r1,r2):=H
   have A7:=Aside0.mk A70
   clear A70
   simp only [Option.some.injEq,Prod.mk.injEq] at H
   obtain ⟨rfl,rfl⟩:=H
   go_enter Try.func30,Try.ntmps30
   go_wp2_with (first | ((with_reducible refine gate_dst (N:=2) rfl ?_);refine box_event ?hg (N:=2) ?hd (cs:=#[.int .i64 a0_0,.slice A0_1 l0_1.length c0_1]) (t:=29) ?hr ?_;(case hd=>rfl);(case hg=>rfl);(case hr=>first | (go_simp;done) | (go_simp;rfl));intro gb469 hg w8 hbox hb;have n0_:=Aside0.mk (zz4 (by repeat first | exact HB.out | apply zz2 | apply zz0 | apply zz1) hb);have n1_:=Aside0.mk (hbox);have n2_:=Aside0.mk ((by rw [hg];exact (zz5 (by repeat first | exact HB.out | apply zz2 | apply zz0 | apply zz1)):w.heap.size≤gb469));have n3_:=Aside0.mk ((by rw [hg];exact (zz5 (by repeat first | exact HB.out | apply zz2 | apply zz0 | apply zz1)):w.heap.size≤gb469));clear HB;have HB:=n0_;have BK469:=n1_;have GW469:=n2_;have GE469:=n3_;clear n0_ n1_ n2_ n3_;clear hb hbox hg;have hcz9_0:w8.cell? ⟨gb469,0,none⟩=some (.int .i64 a0_0):=(zz9 BK469.out 0).trans rfl;have hcz9_1:w8.cell? ⟨gb469,1,none⟩=some (.slice A0_1 l0_1.length c0_1):=(zz9 BK469.out 1).trans rfl;have hfz9_0:=zz10 BK469.out 0;have hfz9_1:=zz10 BK469.out 1) | ((with_reducible refine gate_callee (f:=49) rfl ?_);refine goesL_ (some 7) rfl rfl Try.func49 (by kernel_rfl) rfl #[.agg #[.int .i64 a0_0,.slice A0_1 l0_1.length c0_1]] rfl (by (try simp only [zz26,zz27,zz28]);first | done | rfl | (simp only [zz24,zz25];rfl) | (simp only [zz25];congr;(try simp only [decide_eq_true_eq] at *);omega)) ?_;(with_reducible refine (spec_paGood.calls k a0_0 _ _ l0_1 true _ ?side1 ?side2 A3.out).mono ?_);(case side1=>repeat (first | exact (Kd.C_below HR0_1.out HB.out) | (with_reducible refine zz18 ?_ _) | (with_reducible refine zz19 ?_ _) | (with_reducible refine zz20 ?_)));(case side2=>exact HC0_1.out);rintro e w10 ⟨rfl,hb⟩;refine ⟨_,rfl,?_⟩;have n0_:=Aside0.mk (zz11 (g:=gb469) (o:=.cells #[.int .i64 a0_0,.slice A0_1 l0_1.length c0_1] 29 (0,0)) (by (with_reducible repeat (first | refine zz6 ?_ _ | refine zz7 ?_ | refine zz8 ?_ _));exact BK469.out) hb);have n1_:=Aside0.mk (zz4 (by repeat first | exact HB.out | apply zz2 | apply zz0 | apply zz1 | refine zz3 ?_ GE469.out) hb);clear BK469;clear HB;have BK469:=n0_;have HB:=n1_;clear n0_ n1_;(try clear hb);(try clear hb2);(try clear hk);(try clear hi);have hcz11_0:w10.cell? ⟨gb469,0,none⟩=some (.int .i64 a0_0):=(zz9 BK469.out 0).trans rfl;have hcz11_1:w10.cell? ⟨gb469,1,none⟩=some (.slice A0_1 l0_1.length c0_1):=(zz9 BK469.out 1).trans rfl;have hfz11_0:=zz10 BK469.out 0;have hfz11_1:=zz10 BK469.out 1) | ((with_reducible refine gate_callee (f:=70) rfl ?_);refine goesL_ (some 11) rfl rfl Try.func70 (by kernel_rfl) rfl #[.agg #[.int .i64 a0_0,.slice A0_1 l0_1.length c0_1],.slice A1 l1.length c1] rfl (by (try simp only [zz26,zz27,zz28]);first | done | rfl | (simp only [zz24,zz25];rfl) | (simp only [zz25];congr;(try simp only [decide_eq_true_eq] at *);omega)) ?_;(with_reducible refine (spec_grColours.calls k a0_0 _ _ l0_1 _ _ l1 true _ ?side1 ?side2 ?side3 ?side4 A5.out).mono ?_);(case side1=>repeat (first | exact (Kd.C_below HR0_1.out HB.out) | (with_reducible refine zz18 ?_ _) | (with_reducible refine zz19 ?_ _) | (with_reducible refine zz20 ?_)));(case side2=>exact HC0_1.out);(case side3=>repeat (first | exact (Kd.C_below HR1.out HB.out) | (with_reducible refine zz18 ?_ _) | (with_reducible refine zz19 ?_ _) | (with_reducible refine zz20 ?_)));(case side4=>exact HC1.out);rintro e w12 ⟨rfl,hb⟩;refine ⟨_,rfl,?_⟩;have n0_:=Aside0.mk (zz11 (g:=gb469) (o:=.cells #[.int .i64 a0_0,.slice A0_1 l0_1.length c0_1] 29 (0,0)) (by (with_reducible repeat (first | refine zz6 ?_ _ | refine zz7 ?_ | refine zz8 ?_ _));exact BK469.out) hb);have n1_:=Aside0.mk (zz4 (by repeat first | exact HB.out | apply zz2 | apply zz0 | apply zz1 | refine zz3 ?_ GE469.out) hb);clear BK469;clear HB;have BK469:=n0_;have HB:=n1_;clear n0_ n1_;(try clear hb);(try clear hb2);(try clear hk);(try clear hi);have hcz13_0:w12.cell? ⟨gb469,0,none⟩=some (.int .i64 a0_0):=(zz9 BK469.out 0).trans rfl;have hcz13_1:w12.cell? ⟨gb469,1,none⟩=some (.slice A0_1 l0_1.length c0_1):=(zz9 BK469.out 1).trans rfl;have hfz13_0:=zz10 BK469.out 0;have hfz13_1:=zz10 BK469.out 1) | (go_at_call 71;(with_reducible refine (spec_grDiffer.calls k a0_0 _ _ l0_1 _ _ l1 t472 _ ?side1 ?side2 ?side3 ?side4 A7.out).mono ?_);(case side1=>repeat (first | exact (Kd.C_below HR0_1.out HB.out) | (with_reducible refine zz18 ?_ _) | (with_reducible refine zz19 ?_ _) | (with_reducible refine zz20 ?_)));(case side2=>exact HC0_1.out);(case side3=>repeat (first | exact (Kd.C_below HR1.out HB.out) | (with_reducible refine zz18 ?_ _) | (with_reducible refine zz19 ?_ _) | (with_reducible refine zz20 ?_)));(case side4=>exact HC1.out);rintro e w14 ⟨rfl,hb⟩;have n0_:=Aside0.mk (zz11 (g:=gb469) (o:=.cells #[.int .i64 a0_0,.slice A0_1 l0_1.length c0_1] 29 (0,0)) (by (with_reducible repeat (first | refine zz6 ?_ _ | refine zz7 ?_ | refine zz8 ?_ _));exact BK469.out) hb);have n1_:=Aside0.mk (zz4 (by repeat first | exact HB.out | apply zz2 | apply zz0 | apply zz1 | refine zz3 ?_ GE469.out) hb);clear BK469;clear HB;have BK469:=n0_;have HB:=n1_;clear n0_ n1_;(try clear hb);(try clear hb2);(try clear hk);(try clear hi)))
   go_ret2
   exact ⟨by first | rfl | (simp [errW_none,errW_some] <;> rfl) | (simp [*,errW_none,errW_some] <;> rfl),by repeat first | exact HB.out | apply zz2 | apply zz0 | apply zz1 | refine zz3 ?_ GE469.out⟩
  ·replace c6:=Bool.eq_false_iff.mpr c6
   subst c6
   have H1:(some (false,true))=some (r1,r2):=by rw [if_neg (show ¬ (false=true) by decide)] at H;exact H
   clear H
   have H:=H1
   clear H1
   simp only [Option.some.injEq,Prod.mk.injEq] at H
   obtain ⟨rfl,rfl⟩:=H
   go_enter Try.func30,Try.ntmps30
   go_wp2_with (first | ((with_reducible refine gate_dst (N:=2) rfl ?_);refine box_event ?hg (N:=2) ?hd (cs:=#[.int .i64 a0_0,.slice A0_1 l0_1.length c0_1]) (t:=29) ?hr ?_;(case hd=>rfl);(case hg=>rfl);(case hr=>first | (go_simp;done) | (go_simp;rfl));intro gb469 hg w15 hbox hb;have n0_:=Aside0.mk (zz4 (by repeat first | exact HB.out | apply zz2 | apply zz0 | apply zz1) hb);have n1_:=Aside0.mk (hbox);have n2_:=Aside0.mk ((by rw [hg];exact (zz5 (by repeat first | exact HB.out | apply zz2 | apply zz0 | apply zz1)):w.heap.size≤gb469));have n3_:=Aside0.mk ((by rw [hg];exact (zz5 (by repeat first | exact HB.out | apply zz2 | apply zz0 | apply zz1)):w.heap.size≤gb469));clear HB;have HB:=n0_;have BK469:=n1_;have GW469:=n2_;have GE469:=n3_;clear n0_ n1_ n2_ n3_;clear hb hbox hg;have hcz16_0:w15.cell? ⟨gb469,0,none⟩=some (.int .i64 a0_0):=(zz9 BK469.out 0).trans rfl;have hcz16_1:w15.cell? ⟨gb469,1,none⟩=some (.slice A0_1 l0_1.length c0_1):=(zz9 BK469.out 1).trans rfl;have hfz16_0:=zz10 BK469.out 0;have hfz16_1:=zz10 BK469.out 1) | ((with_reducible refine gate_callee (f:=49) rfl ?_);refine goesL_ (some 7) rfl rfl Try.func49 (by kernel_rfl) rfl #[.agg #[.int .i64 a0_0,.slice A0_1 l0_1.length c0_1]] rfl (by (try simp only [zz26,zz27,zz28]);first | done | rfl | (simp only [zz24,zz25];rfl) | (simp only [zz25];congr;(try simp only [decide_eq_true_eq] at *);omega)) ?_;(with_reducible refine (spec_paGood.calls k a0_0 _ _ l0_1 true _ ?side1 ?side2 A3.out).mono ?_);(case side1=>repeat (first | exact (Kd.C_below HR0_1.out HB.out) | (with_reducible refine zz18 ?_ _) | (with_reducible refine zz19 ?_ _) | (with_reducible refine zz20 ?_)));(case side2=>exact HC0_1.out);rintro e w17 ⟨rfl,hb⟩;refine ⟨_,rfl,?_⟩;have n0_:=Aside0.mk (zz11 (g:=gb469) (o:=.cells #[.int .i64 a0_0,.slice A0_1 l0_1.length c0_1] 29 (0,0)) (by (with_reducible repeat (first | refine zz6 ?_ _ | refine zz7 ?_ | refine zz8 ?_ _));exact BK469.out) hb);have n1_:=Aside0.mk (zz4 (by repeat first | exact HB.out | apply zz2 | apply zz0 | apply zz1 | refine zz3 ?_ GE469.out) hb);clear BK469;clear HB;have BK469:=n0_;have HB:=n1_;clear n0_ n1_;(try clear hb);(try clear hb2);(try clear hk);(try clear hi);have hcz18_0:w17.cell? ⟨gb469,0,none⟩=some (.int .i64 a0_0):=(zz9 BK469.out 0).trans rfl;have hcz18_1:w17.cell? ⟨gb469,1,none⟩=some (.slice A0_1 l0_1.length c0_1):=(zz9 BK469.out 1).trans rfl;have hfz18_0:=zz10 BK469.out 0;have hfz18_1:=zz10 BK469.out 1) | ((with_reducible refine gate_callee (f:=70) rfl ?_);refine goesL_ (some 11) rfl rfl Try.func70 (by kernel_rfl) rfl #[.agg #[.int .i64 a0_0,.slice A0_1 l0_1.length c0_1],.slice A1 l1.length c1] rfl (by (try simp only [zz26,zz27,zz28]);first | done | rfl | (simp only [zz24,zz25];rfl) | (simp only [zz25];congr;(try simp only [decide_eq_true_eq] at *);omega)) ?_;(with_reducible refine (spec_grColours.calls k a0_0 _ _ l0_1 _ _ l1 false _ ?side1 ?side2 ?side3 ?side4 A5.out).mono ?_);(case side1=>repeat (first | exact (Kd.C_below HR0_1.out HB.out) | (with_reducible refine zz18 ?_ _) | (with_reducible refine zz19 ?_ _) | (with_reducible refine zz20 ?_)));(case side2=>exact HC0_1.out);(case side3=>repeat (first | exact (Kd.C_below HR1.out HB.out) | (with_reducible refine zz18 ?_ _) | (with_reducible refine zz19 ?_ _) | (with_reducible refine zz20 ?_)));(case side4=>exact HC1.out);rintro e w19 ⟨rfl,hb⟩;refine ⟨_,rfl,?_⟩;have n0_:=Aside0.mk (zz11 (g:=gb469) (o:=.cells #[.int .i64 a0_0,.slice A0_1 l0_1.length c0_1] 29 (0,0)) (by (with_reducible repeat (first | refine zz6 ?_ _ | refine zz7 ?_ | refine zz8 ?_ _));exact BK469.out) hb);have n1_:=Aside0.mk (zz4 (by repeat first | exact HB.out | apply zz2 | apply zz0 | apply zz1 | refine zz3 ?_ GE469.out) hb);clear BK469;clear HB;have BK469:=n0_;have HB:=n1_;clear n0_ n1_;(try clear hb);(try clear hb2);(try clear hk);(try clear hi)))
   go_ret2
   exact ⟨by first | rfl | (simp [errW_none,errW_some] <;> rfl) | (simp [*,errW_none,errW_some] <;> rfl),by repeat first | exact HB.out | apply zz2 | apply zz0 | apply zz1 | refine zz3 ?_ GE469.out⟩
 ·replace c4:=Bool.eq_false_iff.mpr c4
  subst c4
  have H1:(some (false,false))=some (r1,r2):=by rw [if_neg (show ¬ (false=true) by decide)] at H;exact H
  clear H
  have H:=H1
  clear H1
  simp only [Option.some.injEq,Prod.mk.injEq] at H
  obtain ⟨rfl,rfl⟩:=H
  go_enter Try.func30,Try.ntmps30
  go_wp2_with (first | ((with_reducible refine gate_dst (N:=2) rfl ?_);refine box_event ?hg (N:=2) ?hd (cs:=#[.int .i64 a0_0,.slice A0_1 l0_1.length c0_1]) (t:=29) ?hr ?_;(case hd=>rfl);(case hg=>rfl);(case hr=>first | (go_simp;done) | (go_simp;rfl));intro gb469 hg w20 hbox hb;have n0_:=Aside0.mk (zz4 (by repeat first | exact HB.out | apply zz2 | apply zz0 | apply zz1) hb);have n1_:=Aside0.mk (hbox);have n2_:=Aside0.mk ((by rw [hg];exact (zz5 (by repeat first | exact HB.out | apply zz2 | apply zz0 | apply zz1)):w.heap.size≤gb469));have n3_:=Aside0.mk ((by rw [hg];exact (zz5 (by repeat first | exact HB.out | apply zz2 | apply zz0 | apply zz1)):w.heap.size≤gb469));clear HB;have HB:=n0_;have BK469:=n1_;have GW469:=n2_;have GE469:=n3_;clear n0_ n1_ n2_ n3_;clear hb hbox hg;have hcz21_0:w20.cell? ⟨gb469,0,none⟩=some (.int .i64 a0_0):=(zz9 BK469.out 0).trans rfl;have hcz21_1:w20.cell? ⟨gb469,1,none⟩=some (.slice A0_1 l0_1.length c0_1):=(zz9 BK469.out 1).trans rfl;have hfz21_0:=zz10 BK469.out 0;have hfz21_1:=zz10 BK469.out 1) | ((with_reducible refine gate_callee (f:=49) rfl ?_);refine goesL_ (some 7) rfl rfl Try.func49 (by kernel_rfl) rfl #[.agg #[.int .i64 a0_0,.slice A0_1 l0_1.length c0_1]] rfl (by (try simp only [zz26,zz27,zz28]);first | done | rfl | (simp only [zz24,zz25];rfl) | (simp only [zz25];congr;(try simp only [decide_eq_true_eq] at *);omega)) ?_;(with_reducible refine (spec_paGood.calls k a0_0 _ _ l0_1 false _ ?side1 ?side2 A3.out).mono ?_);(case side1=>repeat (first | exact (Kd.C_below HR0_1.out HB.out) | (with_reducible refine zz18 ?_ _) | (with_reducible refine zz19 ?_ _) | (with_reducible refine zz20 ?_)));(case side2=>exact HC0_1.out);rintro e w22 ⟨rfl,hb⟩;refine ⟨_,rfl,?_⟩;have n0_:=Aside0.mk (zz11 (g:=gb469) (o:=.cells #[.int .i64 a0_0,.slice A0_1 l0_1.length c0_1] 29 (0,0)) (by (with_reducible repeat (first | refine zz6 ?_ _ | refine zz7 ?_ | refine zz8 ?_ _));exact BK469.out) hb);have n1_:=Aside0.mk (zz4 (by repeat first | exact HB.out | apply zz2 | apply zz0 | apply zz1 | refine zz3 ?_ GE469.out) hb);clear BK469;clear HB;have BK469:=n0_;have HB:=n1_;clear n0_ n1_;(try clear hb);(try clear hb2);(try clear hk);(try clear hi)))
  go_ret2
  exact ⟨by first | rfl | (simp [errW_none,errW_some] <;> rfl) | (simp [*,errW_none,errW_some] <;> rfl),by repeat first | exact HB.out | apply zz2 | apply zz0 | apply zz1 | refine zz3 ?_ GE469.out⟩

-- NOT PRINTED: function 93 (impl_Pair_93)

-- NOT PRINTED: function 73 (impl_Pair_73)

/-! ### impl_IsColouring: function 32 (a contract of our own) -/
/-- A function value g (bound to lb) answers p at every pair of a kind, in every later world; what it makes is its own. -/
def PredS (g:Nat) (lb:Array Value) (p:S61→Bool) (ok:S61→Prop) (w:World):Prop :=
 ∀ (W:World) (x:S61),Below w.heap.size w W→ok x→Calls Try.prog g (#[.agg #[.int .i64 x.f0,.int .i64 x.f1]] ++ lb) W fun e w'=>e=.returned (.bool (p x))∧Below W.heap.size W w'
/-- slices.IndexFunc, whatever the predicate: the place of the first element at which it holds, or -1. -/
def idxQ {α:Type} (p:α→Bool):List α→Int
 | []=>-1
 | x :: xs=>if p x then 0 else if idxQ p xs < 0 then -1 else idxQ p xs+1
theorem idxQ_hit {α:Type} (d:α) (p:α→Bool):∀ (xs:List α) (k:Nat),k < xs.length→(∀ j,j < k→p (xs.getD j d)=false)→p (xs.getD k d)=true→idxQ p xs=k
 | [],k,h,_,_=>by simp at h
 | x :: xs,0,_,_,hp=>by simp at hp;simp [idxQ,hp]
 | x :: xs,k+1,h,hn,hp=>by
  have h0:=hn 0 (by omega)
  have ih:=idxQ_hit d p xs k (by simpa using h) (fun j hj=>by have:=hn (j+1) (by omega);simpa using this) (by simpa using hp)
  simp at h0
  simp [idxQ,h0,ih];omega
theorem idxQ_miss {α:Type} (d:α) (p:α→Bool):∀ (xs:List α),(∀ j,j < xs.length→p (xs.getD j d)=false)→idxQ p xs=-1
 | [],_=>rfl
 | x :: xs,hn=>by
  have h0:=hn 0 (by simp)
  have ih:=idxQ_miss d p xs (fun j hj=>by have:=hn (j+1) (by simpa using hj);simpa using this)
  simp at h0
  simp [idxQ,h0,ih]
theorem idxQ_nonneg {α:Type} (p:α→Bool) (xs:List α):decide (0≤idxQ p xs)=xs.any p:=by
 induction xs with
 | nil=>rfl
 | cons x xs ih =>
  simp only [idxQ,List.any_cons,← ih]
  by_cases h:p x=true
  ·simp [h]
  ·by_cases h2:idxQ p xs < 0
   ·have:¬ 0≤idxQ p xs:=by omega
    simp [h,h2,this]
   ·have h3:0≤idxQ p xs:=by omega
    have h4:0≤idxQ p xs+1:=by omega
    simp [h,h2,h3,h4]
set_option maxHeartbeats 2000000 in
set_option maxRecDepth 100000 in
theorem idxPair_with (p:S61→Bool) (ok:S61→Prop) (g:Nat) (lb:Array Value) (eg:∀ args w,(callFunc g args).run Try.prog w=.ok (.enter g args) w) (A0:Option Addr) (c0:Nat) (l0:List S61) (w:World)
  (hp:PredS g lb p ok w) (hok:∀ x ∈ l0,ok x) (hr0:Kd.C k61 w A0 l0.length l0) (hbig:l0.length≤9223372036854775807) :
  Calls Try.prog 93 #[.slice A0 l0.length c0,.func (.func g) #[] lb] w fun e w'=>e=.returned (.int .i64 (idxQ p l0))∧Below w.heap.size w w':=by
 have hu:=Try.underlying61
 have HP:=Aside0.mk hp
 have HOK:=Aside0.mk hok
 have HR0:=Aside0.mk hr0
 clear hp hok hr0
 go_enter Try.func93,Try.ntmps93
 go_wp2
 go_loopg [5,8] l0.length (fun gg _ s8 wr=>∃ kk:Nat,kk≤l0.length∧l0.length - kk≤gg∧s8=.int .i64 kk∧Aside0 (Below w.heap.size w wr)∧Aside0 (∀ j,j < kk→p (l0.getD j z61)=false))
 case atStart=>exact ⟨0,Nat.zero_le _,by omega,rfl,⟨by repeat first | exact Below.refl _ _ | apply zz0⟩,⟨fun j hj=>absurd hj (Nat.not_lt_zero _)⟩⟩
 case round =>
  obtain ⟨kk,hkk,hg,rfl,HB,A⟩:=hrel
  by_cases hlt:kk < l0.length
  ·have hltz:(kk:Int) < (l0.length:Int):=by omega
   obtain ⟨ad,e0,hx0,hx1⟩:=at_T61 HR0.out (kk:Int) (by omega) (by omega)
   cases e0
   replace hx0:=(HB.out.cell (World.block_lt_of_cell? w _ hx0)).trans hx0
   replace hx1:=(HB.out.cell (World.block_lt_of_cell? w _ hx1)).trans hx1
   have HY:=Aside0.mk (HOK.out (rd_T61 l0 kk) (by unfold rd_T61;rw [Int.toNat_natCast,show l0.getD kk z61=l0[kk] from by simp [List.getD_eq_getElem?_getD,hlt]];exact List.getElem_mem hlt))
   have B:Aside0 (l0.getD kk z61=rd_T61 l0 kk):=⟨by unfold rd_T61;rw [Int.toNat_natCast]⟩
   obtain ⟨y,hy⟩:∃ y,y=rd_T61 l0 kk:=⟨_,rfl⟩
   rw [← hy] at hx0 hx1 HY B
   clear hy
   obtain ⟨ya,yb⟩:=y
   simp only [Int.toNat_natCast] at hx0 hx1
   cases hq:p ⟨ya,yb⟩ with
   | true =>
    have HQ:=Aside0.mk hq
    clear hq
    go_wp2_with (go_at_fn g;refine (HP.out _ ⟨ya,yb⟩ (by repeat first | exact HB.out | apply zz0) HY.out).mono ?_;rintro e w2 ⟨rfl,hb⟩;have HB2:=Aside0.mk (zz4 (w:=w) (by repeat first | exact HB.out | apply zz0) hb);clear hb;rw [HQ.out])
    go_ret
    refine ⟨?_,by repeat first | exact HB2.out | apply zz0⟩
    rw [idxQ_hit z61 p l0 kk hlt A.out (by rw [B.out];exact HQ.out)]
    rfl
   | false =>
    have HQ:=Aside0.mk hq
    clear hq
    go_wp2_with (go_at_fn g;refine (HP.out _ ⟨ya,yb⟩ (by repeat first | exact HB.out | apply zz0) HY.out).mono ?_;rintro e w2 ⟨rfl,hb⟩;have HB2:=Aside0.mk (zz4 (w:=w) (by repeat first | exact HB.out | apply zz0) hb);clear hb;rw [HQ.out])
    go_roundg (l0.length - (kk+1))
    case measure=>omega
    case rel =>
     refine ⟨kk+1,by omega,by omega,by go_num,⟨by repeat first | exact HB2.out | apply zz0⟩,⟨fun j hj=>?_⟩⟩
     by_cases e:j=kk
     ·subst e
      rw [B.out];exact HQ.out
     ·exact A.out j (by omega)
  ·have hltz:¬ (kk:Int) < (l0.length:Int):=by omega
   have hkl:kk=l0.length:=by omega
   have A2:Aside0 (idxQ p l0=-1):=⟨idxQ_miss z61 p l0 (by rw [← hkl];exact A.out)⟩
   clear hkl
   go_wp2
   go_ret
   refine ⟨?_,by repeat first | exact HB.out | apply zz0⟩
   rw [A2.out]
   rfl
set_option maxHeartbeats 1000000 in
theorem hasPair_with (p:S61→Bool) (ok:S61→Prop) (g:Nat) (lb:Array Value) (eg:∀ args w,(callFunc g args).run Try.prog w=.ok (.enter g args) w) (A0:Option Addr) (c0:Nat) (l0:List S61) (w:World)
  (hp:PredS g lb p ok w) (hok:∀ x ∈ l0,ok x) (hr0:Kd.C k61 w A0 l0.length l0) (hbig:l0.length≤9223372036854775807) :
  Calls Try.prog 73 #[.slice A0 l0.length c0,.func (.func g) #[] lb] w fun e w'=>e=.returned (.bool (l0.any p))∧Below w.heap.size w w':=by
 rw [← idxQ_nonneg]
 go_enter Try.func73,Try.ntmps73
 go_wp2_with (go_at_call 93;refine (idxPair_with p ok g lb eg A0 c0 l0 _ hp hok hr0 hbig).mono ?_;rintro e w' ⟨rfl,hb⟩)
 go_ret
 exact ⟨rfl,by repeat first | exact hb | apply zz0⟩
/-- the pairs whose two people stand in a list of n -/
def inRow (n:Nat) (x:S61):Bool:=decide (0≤x.f0) && decide (x.f0 < n) && decide (0≤x.f1) && decide (x.f1 < n)
set_option maxHeartbeats 2000000 in
set_option maxRecDepth 100000 in
theorem impl_IsColouring.pred (A1:Option Addr) (c1:Nat) (l1:List Int) (B1:Nat) (w:World) (h1:B1 < w.heap.size) (hc:w.cell? ⟨B1,0,none⟩=some (.slice A1 l1.length c1)) (hr1:Kd.C (Kd.int .i64) w A1 l1.length l1) :
  PredS 74 #[.pointer (some ⟨B1,0,none⟩)] (fun x=>rd l1 x.f0 == rd l1 x.f1) (fun x=>inRow l1.length x=true) w:=fun W x hb hok=>by
 obtain ⟨a,b⟩:=x
 simp only [inRow,Bool.and_eq_true,decide_eq_true_eq] at hok
 obtain ⟨⟨⟨p1,q1⟩,p2⟩,q2⟩:=hok
 have hcol:=(hb.cell (p:=⟨B1,0,none⟩) h1).trans hc
 obtain ⟨ad,e0,hx⟩:=Kd.at_int hr1 a p1 q1
 cases e0
 obtain ⟨ad2,e1,hy⟩:=Kd.at_int hr1 b p2 q2
 obtain rfl:ad=ad2:=(by injection e1)
 clear e1
 replace hx:=(hb.cell (World.block_lt_of_cell? w _ hx)).trans hx
 replace hy:=(hb.cell (World.block_lt_of_cell? w _ hy)).trans hy
 clear hc h1 hb hr1
 replace p1:=eq_true p1
 replace p2:=eq_true p2
 replace q1:=eq_true q1
 replace q2:=eq_true q2
 have HX:=Aside0.mk hx
 have HY:=Aside0.mk hy
 have HC:=Aside0.mk hcol
 clear hx hy hcol
 show Calls Try.prog 74 #[.agg #[.int .i64 a,.int .i64 b],.pointer (some ⟨B1,0,none⟩)] W _
 have hu:=Try.underlying61
 go_enter Try.func74,Try.ntmps74
 go_wp2_with (first | (with_reducible refine gate_dst (N:=2) rfl ?_;refine box_event ?hg (N:=2) ?hd (cs:=#[.int .i64 a,.int .i64 b]) (t:=61) ?hr ?_;(case hd=>rfl);(case hg=>rfl);(case hr=>first | (go_simp;done) | (go_simp;rfl));intro gb hg w3 hbox hb;have HB:=Aside0.mk hb;have hz0:w3.cell? ⟨gb,0,none⟩=some (.int .i64 a):=(zz9 hbox 0).trans rfl;have hz1:w3.cell? ⟨gb,1,none⟩=some (.int .i64 b):=(zz9 hbox 1).trans rfl;have hf0:=zz10 hbox 0;have hf1:=zz10 hbox 1;have hx:=(hb.cell (World.block_lt_of_cell? W _ HX.out)).trans HX.out;have hy:=(hb.cell (World.block_lt_of_cell? W _ HY.out)).trans HY.out;have hcol:=(hb.cell (World.block_lt_of_cell? W _ HC.out)).trans HC.out;clear hb hbox hg))
 repeat (go_quiet (first | (with_reducible refine gate_dst (N:=2) rfl ?_;refine box_event ?hg (N:=2) ?hd (cs:=#[.int .i64 a,.int .i64 b]) (t:=61) ?hr ?_;(case hd=>rfl);(case hg=>rfl);(case hr=>first | (go_simp;done) | (go_simp;rfl));intro gb hg w3 hbox hb;have HB:=Aside0.mk hb;have hz0:w3.cell? ⟨gb,0,none⟩=some (.int .i64 a):=(zz9 hbox 0).trans rfl;have hz1:w3.cell? ⟨gb,1,none⟩=some (.int .i64 b):=(zz9 hbox 1).trans rfl;have hf0:=zz10 hbox 0;have hf1:=zz10 hbox 1;have hx:=(hb.cell (World.block_lt_of_cell? W _ HX.out)).trans HX.out;have hy:=(hb.cell (World.block_lt_of_cell? W _ HY.out)).trans HY.out;have hcol:=(hb.cell (World.block_lt_of_cell? W _ HC.out)).trans HC.out;clear hb hbox hg));try go_wp2_with (first | (with_reducible refine gate_dst (N:=2) rfl ?_;refine box_event ?hg (N:=2) ?hd (cs:=#[.int .i64 a,.int .i64 b]) (t:=61) ?hr ?_;(case hd=>rfl);(case hg=>rfl);(case hr=>first | (go_simp;done) | (go_simp;rfl));intro gb hg w3 hbox hb;have HB:=Aside0.mk hb;have hz0:w3.cell? ⟨gb,0,none⟩=some (.int .i64 a):=(zz9 hbox 0).trans rfl;have hz1:w3.cell? ⟨gb,1,none⟩=some (.int .i64 b):=(zz9 hbox 1).trans rfl;have hf0:=zz10 hbox 0;have hf1:=zz10 hbox 1;have hx:=(hb.cell (World.block_lt_of_cell? W _ HX.out)).trans HX.out;have hy:=(hb.cell (World.block_lt_of_cell? W _ HY.out)).trans HY.out;have hcol:=(hb.cell (World.block_lt_of_cell? W _ HC.out)).trans HC.out;clear hb hbox hg)))
 go_ret
 exact ⟨by first | rfl | simp,by repeat first | exact HB.out | apply zz0⟩
def impl_IsColouring.f (k:Nat) (a0_0:Int) (l0_1:List S61) (l1:List Int):Option (Bool × Bool) :=
 (impl_IsParty.f k a0_0 l0_1).bind fun t=>if t=true then (if (l1.length:Int)=a0_0 then (impl_areWithin.f l1 0 11).bind fun u=>if u=true then (if l0_1.all (inRow l1.length)=true then some (!(l0_1.any fun x=>rd l1 x.f0 == rd l1 x.f1),true) else none) else some (false,true) else some (false,true)) else some (false,false)
theorem impl_IsColouring.mono:∀ a0 a1 a2 k,LeO (impl_IsColouring.f k a0 a1 a2) (impl_IsColouring.f (k+1) a0 a1 a2):=fun a0 a1 a2 k=>LeO.bind (impl_IsParty.mono a0 a1 k) (fun _=>LeO.refl _)
theorem kp_ {W w':World} {a:Addr} {v:Value} (hb:Below W.heap.size W w') (h:W.cell? a=some v):w'.cell? a=some v:=(hb.cell (World.block_lt_of_cell? W a h)).trans h
set_option maxHeartbeats 4000000 in
set_option maxRecDepth 100000 in
theorem impl_IsColouring.calls (k:Nat) (a0_0:Int) (A0_1:Option Addr) (c0_1:Nat) (l0_1:List S61) (A1:Option Addr) (c1:Nat) (l1:List Int) (r1:Bool) (r2:Bool) (w:World) (hr0_1:Kd.C k61 w A0_1 l0_1.length l0_1) (hc0_1:l0_1.length≤c0_1) (hr1:Kd.C (Kd.int .i64) w A1 l1.length l1) (hc1:l1.length≤c1) (h:impl_IsColouring.f k a0_0 l0_1 l1=some (r1,r2)) :
  Calls Try.prog 32 #[.agg #[.int .i64 a0_0,.slice A0_1 l0_1.length c0_1],.slice A1 l1.length c1] w fun e w'=>e=.returned (.tuple #[.bool r1,.bool r2])∧Below w.heap.size w w':=by
 have eg:∀ args w,(callFunc 74 args).run Try.prog w=.ok (.enter 74 args) w:=enters_of Try.func74 (by kernel_rfl) rfl
 have HE:=Aside0.mk eg
 clear eg
 have hbig:l0_1.length≤9223372036854775807:=hr0_1.2.1
 have HBIG:=Aside0.mk hbig
 have HR0:=Aside0.mk hr0_1
 have HC0:=Aside0.mk hc0_1
 have HR1:=Aside0.mk hr1
 have HC1:=Aside0.mk hc1
 clear hr0_1 hc0_1 hr1 hc1 hbig
 unfold impl_IsColouring.f at h
 obtain ⟨t,ht,h⟩:=zz30.mp h
 have HT:=Aside0.mk ht
 clear ht
 cases t with
 | false =>
  simp only [Bool.false_eq_true,if_false,Option.some.injEq,Prod.mk.injEq] at h
  obtain ⟨rfl,rfl⟩:=h
  go_enter Try.func32,Try.ntmps32
  go_wp2_with (first | ((with_reducible refine gate_dst (N:=2) rfl ?_);refine box_event ?hg (N:=2) ?hd (cs:=#[.int .i64 a0_0,.slice A0_1 l0_1.length c0_1]) (t:=29) ?hr ?_;(case hd=>rfl);(case hg=>rfl);(case hr=>first | (go_simp;done) | (go_simp;rfl));intro gp hg wp hbox hb;have P0:=Aside0.mk (show wp.cell? ⟨gp,0,none⟩=some (.int .i64 a0_0) from (zz9 hbox 0).trans rfl);have P1:=Aside0.mk (show wp.cell? ⟨gp,1,none⟩=some (.slice A0_1 l0_1.length c0_1) from (zz9 hbox 1).trans rfl);have HB:=Aside0.mk (zz4 (w:=w) (by repeat first | exact Below.refl _ _ | apply zz0) hb);have p0_:=P0.out;have p1_:=P1.out;have f0_:=zz10 hbox 0;have f1_:=zz10 hbox 1;clear hb hbox hg) | ((with_reducible refine gate_dst (N:=3) rfl ?_);refine box_event ?hg (N:=3) ?hd (cs:=#[.slice A1 l1.length c1]) (t:=45) ?hr ?_;(case hd=>rfl);(case hg=>rfl);(case hr=>first | (go_simp;done) | (go_simp;rfl));intro gb hg w3 hbox hb;have ZC:=Aside0.mk (show w3.cell? ⟨gb,0,none⟩=some (.slice A1 l1.length c1) from (zz9 hbox 0).trans rfl);have Q0:=Aside0.mk (kp_ hb P0.out);have Q1:=Aside0.mk (kp_ hb P1.out);have HB2:=Aside0.mk (zz4 (w:=w) (by repeat first | exact HB.out | exact Below.refl _ _ | apply zz0) hb);clear HB P0 P1 p0_ p1_ f0_ f1_;have HB:=HB2;have P0:=Q0;have P1:=Q1;clear HB2 Q0 Q1;have p0_:=P0.out;have p1_:=P1.out;have zc_:=ZC.out;have fz_:=zz10 hbox 0;clear hb hbox hg) | (go_at_call 18;refine (impl_IsParty.calls k a0_0 _ _ l0_1 _ _ (Kd.C_below HR0.out (by repeat first | exact HB.out | exact Below.refl _ _ | apply zz0)) HC0.out HT.out).mono ?_;rintro e w4 ⟨rfl,hb⟩;have HB2:=Aside0.mk (zz4 (w:=w) (by repeat first | exact HB.out | exact Below.refl _ _ | apply zz0) hb);have Q0:=Aside0.mk (kp_ hb P0.out);have Q1:=Aside0.mk (kp_ hb P1.out);have QC:=Aside0.mk (kp_ hb ZC.out);clear hb HB P0 P1 ZC;have HB:=HB2;have P0:=Q0;have P1:=Q1;have ZC:=QC;clear HB2 Q0 Q1 QC;have p0_:=P0.out;have p1_:=P1.out;have zc_:=ZC.out))
  go_ret2
  exact ⟨by first | rfl | simp,by repeat first | exact HB.out | apply zz0⟩
 | true =>
  simp only [if_true] at h
  by_cases hn:(l1.length:Int)=a0_0
  ·rw [if_pos hn] at h
   obtain ⟨u,hu,h⟩:=zz30.mp h
   have HU:=Aside0.mk hu
   clear hu
   have hn3:((l1.length:Int) != a0_0)=false:=bne_eq_false_iff_eq.mpr hn
   have hn4:((l1.length:Int) == a0_0)=true:=beq_iff_eq.mpr hn
   clear hn
   cases u with
   | false =>
    simp only [Bool.false_eq_true,if_false,Option.some.injEq,Prod.mk.injEq] at h
    obtain ⟨rfl,rfl⟩:=h
    go_enter Try.func32,Try.ntmps32
    go_wp2_with (first | ((with_reducible refine gate_dst (N:=2) rfl ?_);refine box_event ?hg (N:=2) ?hd (cs:=#[.int .i64 a0_0,.slice A0_1 l0_1.length c0_1]) (t:=29) ?hr ?_;(case hd=>rfl);(case hg=>rfl);(case hr=>first | (go_simp;done) | (go_simp;rfl));intro gp hg wp hbox hb;have P0:=Aside0.mk (show wp.cell? ⟨gp,0,none⟩=some (.int .i64 a0_0) from (zz9 hbox 0).trans rfl);have P1:=Aside0.mk (show wp.cell? ⟨gp,1,none⟩=some (.slice A0_1 l0_1.length c0_1) from (zz9 hbox 1).trans rfl);have HB:=Aside0.mk (zz4 (w:=w) (by repeat first | exact Below.refl _ _ | apply zz0) hb);have p0_:=P0.out;have p1_:=P1.out;have f0_:=zz10 hbox 0;have f1_:=zz10 hbox 1;clear hb hbox hg) | ((with_reducible refine gate_dst (N:=3) rfl ?_);refine box_event ?hg (N:=3) ?hd (cs:=#[.slice A1 l1.length c1]) (t:=45) ?hr ?_;(case hd=>rfl);(case hg=>rfl);(case hr=>first | (go_simp;done) | (go_simp;rfl));intro gb hg w3 hbox hb;have ZC:=Aside0.mk (show w3.cell? ⟨gb,0,none⟩=some (.slice A1 l1.length c1) from (zz9 hbox 0).trans rfl);have Q0:=Aside0.mk (kp_ hb P0.out);have Q1:=Aside0.mk (kp_ hb P1.out);have HB2:=Aside0.mk (zz4 (w:=w) (by repeat first | exact HB.out | exact Below.refl _ _ | apply zz0) hb);clear HB P0 P1 p0_ p1_ f0_ f1_;have HB:=HB2;have P0:=Q0;have P1:=Q1;clear HB2 Q0 Q1;have p0_:=P0.out;have p1_:=P1.out;have zc_:=ZC.out;have fz_:=zz10 hbox 0;clear hb hbox hg) | (go_at_call 18;refine (impl_IsParty.calls k a0_0 _ _ l0_1 _ _ (Kd.C_below HR0.out (by repeat first | exact HB.out | exact Below.refl _ _ | apply zz0)) HC0.out HT.out).mono ?_;rintro e w4 ⟨rfl,hb⟩;have HB2:=Aside0.mk (zz4 (w:=w) (by repeat first | exact HB.out | exact Below.refl _ _ | apply zz0) hb);have Q0:=Aside0.mk (kp_ hb P0.out);have Q1:=Aside0.mk (kp_ hb P1.out);have QC:=Aside0.mk (kp_ hb ZC.out);clear hb HB P0 P1 ZC;have HB:=HB2;have P0:=Q0;have P1:=Q1;have ZC:=QC;clear HB2 Q0 Q1 QC;have p0_:=P0.out;have p1_:=P1.out;have zc_:=ZC.out) | (go_at_call 72;refine (impl_areWithin.calls _ _ l1 0 11 _ _ (Kd.C_below HR1.out (by repeat first | exact HB.out | exact Below.refl _ _ | apply zz0)) HC1.out HU.out).mono ?_;rintro e w5 ⟨rfl,hb⟩;have HB2:=Aside0.mk (zz4 (w:=w) (by repeat first | exact HB.out | exact Below.refl _ _ | apply zz0) hb);have Q0:=Aside0.mk (kp_ hb P0.out);have Q1:=Aside0.mk (kp_ hb P1.out);have QC:=Aside0.mk (kp_ hb ZC.out);clear hb HB P0 P1 ZC;have HB:=HB2;have P0:=Q0;have P1:=Q1;have ZC:=QC;clear HB2 Q0 Q1 QC;have p0_:=P0.out;have p1_:=P1.out;have zc_:=ZC.out))
    go_ret2
    exact ⟨by first | rfl | simp,by repeat first | exact HB.out | apply zz0⟩
   | true =>
    simp only [if_true] at h
    by_cases hk:l0_1.all (inRow l1.length)=true
    ·simp only [hk,if_true,Option.some.injEq,Prod.mk.injEq] at h
     obtain ⟨rfl,rfl⟩:=h
     have HK:=Aside0.mk (List.all_eq_true.mp hk)
     clear hk
     go_enter Try.func32,Try.ntmps32
     go_wp2_with (first | ((with_reducible refine gate_dst (N:=2) rfl ?_);refine box_event ?hg (N:=2) ?hd (cs:=#[.int .i64 a0_0,.slice A0_1 l0_1.length c0_1]) (t:=29) ?hr ?_;(case hd=>rfl);(case hg=>rfl);(case hr=>first | (go_simp;done) | (go_simp;rfl));intro gp hg wp hbox hb;have P0:=Aside0.mk (show wp.cell? ⟨gp,0,none⟩=some (.int .i64 a0_0) from (zz9 hbox 0).trans rfl);have P1:=Aside0.mk (show wp.cell? ⟨gp,1,none⟩=some (.slice A0_1 l0_1.length c0_1) from (zz9 hbox 1).trans rfl);have HB:=Aside0.mk (zz4 (w:=w) (by repeat first | exact Below.refl _ _ | apply zz0) hb);have p0_:=P0.out;have p1_:=P1.out;have f0_:=zz10 hbox 0;have f1_:=zz10 hbox 1;clear hb hbox hg) | ((with_reducible refine gate_dst (N:=3) rfl ?_);refine box_event ?hg (N:=3) ?hd (cs:=#[.slice A1 l1.length c1]) (t:=45) ?hr ?_;(case hd=>rfl);(case hg=>rfl);(case hr=>first | (go_simp;done) | (go_simp;rfl));intro gb hg w3 hbox hb;have ZC:=Aside0.mk (show w3.cell? ⟨gb,0,none⟩=some (.slice A1 l1.length c1) from (zz9 hbox 0).trans rfl);have Q0:=Aside0.mk (kp_ hb P0.out);have Q1:=Aside0.mk (kp_ hb P1.out);have HB2:=Aside0.mk (zz4 (w:=w) (by repeat first | exact HB.out | exact Below.refl _ _ | apply zz0) hb);clear HB P0 P1 p0_ p1_ f0_ f1_;have HB:=HB2;have P0:=Q0;have P1:=Q1;clear HB2 Q0 Q1;have p0_:=P0.out;have p1_:=P1.out;have zc_:=ZC.out;have fz_:=zz10 hbox 0;clear hb hbox hg) | (go_at_call 18;refine (impl_IsParty.calls k a0_0 _ _ l0_1 _ _ (Kd.C_below HR0.out (by repeat first | exact HB.out | exact Below.refl _ _ | apply zz0)) HC0.out HT.out).mono ?_;rintro e w4 ⟨rfl,hb⟩;have HB2:=Aside0.mk (zz4 (w:=w) (by repeat first | exact HB.out | exact Below.refl _ _ | apply zz0) hb);have Q0:=Aside0.mk (kp_ hb P0.out);have Q1:=Aside0.mk (kp_ hb P1.out);have QC:=Aside0.mk (kp_ hb ZC.out);clear hb HB P0 P1 ZC;have HB:=HB2;have P0:=Q0;have P1:=Q1;have ZC:=QC;clear HB2 Q0 Q1 QC;have p0_:=P0.out;have p1_:=P1.out;have zc_:=ZC.out) | (go_at_call 72;refine (impl_areWithin.calls _ _ l1 0 11 _ _ (Kd.C_below HR1.out (by repeat first | exact HB.out | exact Below.refl _ _ | apply zz0)) HC1.out HU.out).mono ?_;rintro e w5 ⟨rfl,hb⟩;have HB2:=Aside0.mk (zz4 (w:=w) (by repeat first | exact HB.out | exact Below.refl _ _ | apply zz0) hb);have Q0:=Aside0.mk (kp_ hb P0.out);have Q1:=Aside0.mk (kp_ hb P1.out);have QC:=Aside0.mk (kp_ hb ZC.out);clear hb HB P0 P1 ZC;have HB:=HB2;have P0:=Q0;have P1:=Q1;have ZC:=QC;clear HB2 Q0 Q1 QC;have p0_:=P0.out;have p1_:=P1.out;have zc_:=ZC.out) | (go_at_call 73;refine (hasPair_with (fun x=>rd l1 x.f0 == rd l1 x.f1) (fun x=>inRow l1.length x=true) 74 #[.pointer (some ⟨gb,0,none⟩)] HE.out _ _ l0_1 _ (impl_IsColouring.pred A1 c1 l1 gb _ (World.block_lt_of_cell? _ _ ZC.out) ZC.out (Kd.C_below HR1.out (by repeat first | exact HB.out | exact Below.refl _ _ | apply zz0))) HK.out (Kd.C_below HR0.out (by repeat first | exact HB.out | exact Below.refl _ _ | apply zz0)) HBIG.out).mono ?_;rintro e w6 ⟨rfl,hb⟩;have HB2:=Aside0.mk (zz4 (w:=w) (by repeat first | exact HB.out | exact Below.refl _ _ | apply zz0) hb);have Q0:=Aside0.mk (kp_ hb P0.out);have Q1:=Aside0.mk (kp_ hb P1.out);have QC:=Aside0.mk (kp_ hb ZC.out);clear hb HB P0 P1 ZC;have HB:=HB2;have P0:=Q0;have P1:=Q1;have ZC:=QC;clear HB2 Q0 Q1 QC;have p0_:=P0.out;have p1_:=P1.out;have zc_:=ZC.out))
     go_ret2
     exact ⟨by first | rfl | simp,by repeat first | exact HB.out | apply zz0⟩
    ·simp [hk] at h
  ·rw [if_neg hn] at h
   simp only [Option.some.injEq,Prod.mk.injEq] at h
   obtain ⟨rfl,rfl⟩:=h
   have hn3:((l1.length:Int) != a0_0)=true:=bne_iff_ne.mpr hn
   have hn4:((l1.length:Int) == a0_0)=false:=beq_eq_false_iff_ne.mpr hn
   clear hn
   go_enter Try.func32,Try.ntmps32
   go_wp2_with (first | ((with_reducible refine gate_dst (N:=2) rfl ?_);refine box_event ?hg (N:=2) ?hd (cs:=#[.int .i64 a0_0,.slice A0_1 l0_1.length c0_1]) (t:=29) ?hr ?_;(case hd=>rfl);(case hg=>rfl);(case hr=>first | (go_simp;done) | (go_simp;rfl));intro gp hg wp hbox hb;have P0:=Aside0.mk (show wp.cell? ⟨gp,0,none⟩=some (.int .i64 a0_0) from (zz9 hbox 0).trans rfl);have P1:=Aside0.mk (show wp.cell? ⟨gp,1,none⟩=some (.slice A0_1 l0_1.length c0_1) from (zz9 hbox 1).trans rfl);have HB:=Aside0.mk (zz4 (w:=w) (by repeat first | exact Below.refl _ _ | apply zz0) hb);have p0_:=P0.out;have p1_:=P1.out;have f0_:=zz10 hbox 0;have f1_:=zz10 hbox 1;clear hb hbox hg) | ((with_reducible refine gate_dst (N:=3) rfl ?_);refine box_event ?hg (N:=3) ?hd (cs:=#[.slice A1 l1.length c1]) (t:=45) ?hr ?_;(case hd=>rfl);(case hg=>rfl);(case hr=>first | (go_simp;done) | (go_simp;rfl));intro gb hg w3 hbox hb;have ZC:=Aside0.mk (show w3.cell? ⟨gb,0,none⟩=some (.slice A1 l1.length c1) from (zz9 hbox 0).trans rfl);have Q0:=Aside0.mk (kp_ hb P0.out);have Q1:=Aside0.mk (kp_ hb P1.out);have HB2:=Aside0.mk (zz4 (w:=w) (by repeat first | exact HB.out | exact Below.refl _ _ | apply zz0) hb);clear HB P0 P1 p0_ p1_ f0_ f1_;have HB:=HB2;have P0:=Q0;have P1:=Q1;clear HB2 Q0 Q1;have p0_:=P0.out;have p1_:=P1.out;have zc_:=ZC.out;have fz_:=zz10 hbox 0;clear hb hbox hg) | (go_at_call 18;refine (impl_IsParty.calls k a0_0 _ _ l0_1 _ _ (Kd.C_below HR0.out (by repeat first | exact HB.out | exact Below.refl _ _ | apply zz0)) HC0.out HT.out).mono ?_;rintro e w4 ⟨rfl,hb⟩;have HB2:=Aside0.mk (zz4 (w:=w) (by repeat first | exact HB.out | exact Below.refl _ _ | apply zz0) hb);have Q0:=Aside0.mk (kp_ hb P0.out);have Q1:=Aside0.mk (kp_ hb P1.out);have QC:=Aside0.mk (kp_ hb ZC.out);clear hb HB P0 P1 ZC;have HB:=HB2;have P0:=Q0;have P1:=Q1;have ZC:=QC;clear HB2 Q0 Q1 QC;have p0_:=P0.out;have p1_:=P1.out;have zc_:=ZC.out))
   go_ret2
   exact ⟨by first | rfl | simp,by repeat first | exact HB.out | apply zz0⟩

/-! ### laws_FnExactIsColouring: function 8 -/
def laws_FnExactIsColouring.j0:Nat→List Int→List Int→Bool→Int→List (S88)→Int→List (S61)→Option (Bool)
 | 0,_,_,_,_,_,_,_=>none
 | k+1,x1,x9,x45,x481000,x481001,x496000,x496001=>if x45=true then (some false) else ((laws_toParty.f k x481000 x481001).bind fun bt501=>((laws_eqParty.f k x496000 x496001 bt501.1 bt501.2).bind fun t505=>(if t505=true then ((laws_toIntS.f k x1).bind fun t506=>((laws_eqIntS.f k x9 t506).bind fun t509=>(if t509=true then (some true) else (some false)))) else (some false))))
def laws_FnExactIsColouring.f (k:Nat) (a0_0:Int) (l0_1:List (S88)) (l1:List Int):Option (Bool):=if (l1.length:Int) > 1048576 then (some true) else ((laws_szParty.f a0_0 l0_1 1048576).bind fun t481=>(if t481 < 0 then (some true) else ((laws_toParty.f k a0_0 l0_1).bind fun bt482=>((laws_toIntS.f k l1).bind fun t486=>((spec_IsColouring.f k bt482.1 bt482.2 t486).bind fun bt489=>((laws_toParty.f k a0_0 l0_1).bind fun bt491=>((laws_toIntS.f k l1).bind fun t496=>((impl_IsColouring.f k bt491.1 bt491.2 t496).bind fun bt499=>(if (bt499.1 != bt489.1)=true then (laws_FnExactIsColouring.j0 k l1 t496 true a0_0 l0_1 bt491.1 bt491.2) else (laws_FnExactIsColouring.j0 k l1 t496 (bt499.2 != bt489.2) a0_0 l0_1 bt491.1 bt491.2))))))))))
theorem laws_FnExactIsColouring.mono_l:∀ k,(∀ y0 y1 y2 y3 y4 y5 y6,LeO (laws_FnExactIsColouring.j0 k y0 y1 y2 y3 y4 y5 y6) (laws_FnExactIsColouring.j0 (k+1) y0 y1 y2 y3 y4 y5 y6))
 | 0=>fun _ _ _ _ _ _ _ r h=>by simp [laws_FnExactIsColouring.j0] at h
 | k+1=>by
  have ih0:=laws_FnExactIsColouring.mono_l k
  ·intro y0 y1 y2 y3 y4 y5 y6
   unfold laws_FnExactIsColouring.j0
   repeat' first
   | (with_reducible exact ih0 _ _ _ _ _ _ _)
   | (with_reducible exact impl_IsColouring.mono _ _ _ _)
   | (with_reducible exact laws_eqIntS.mono _ _ _)
   | (with_reducible exact laws_eqParty.mono _ _ _ _ _)
   | (with_reducible exact laws_toIntS.mono _ _)
   | (with_reducible exact laws_toParty.mono _ _ _)
   | (with_reducible exact spec_IsColouring.mono _ _ _ _)
   | (with_reducible exact LeO.refl _)
   | (with_reducible exact LeO.none _)
   | (with_reducible refine LeO.ite ?_ ?_)
   | (with_reducible refine LeO.bind ?_ (fun _=>?_))
   | exact ih0 _ _ _ _ _ _ _
   | exact impl_IsColouring.mono _ _ _ _
   | exact laws_eqIntS.mono _ _ _
   | exact laws_eqParty.mono _ _ _ _ _
   | exact laws_toIntS.mono _ _
   | exact laws_toParty.mono _ _ _
   | exact spec_IsColouring.mono _ _ _ _
   | exact LeO.none _
   | refine LeO.ite ?_ ?_
   | refine LeO.bind ?_ (fun _=>?_)
theorem laws_FnExactIsColouring.mono:∀ a0 a1 a2 k,LeO (laws_FnExactIsColouring.f k a0 a1 a2) (laws_FnExactIsColouring.f (k+1) a0 a1 a2):=by
 intro a0 a1 a2 k
 have ih0:=laws_FnExactIsColouring.mono_l k
 unfold laws_FnExactIsColouring.f
 repeat' first
   | (with_reducible exact ih0 _ _ _ _ _ _ _)
   | (with_reducible exact impl_IsColouring.mono _ _ _ _)
   | (with_reducible exact laws_eqIntS.mono _ _ _)
   | (with_reducible exact laws_eqParty.mono _ _ _ _ _)
   | (with_reducible exact laws_toIntS.mono _ _)
   | (with_reducible exact laws_toParty.mono _ _ _)
   | (with_reducible exact spec_IsColouring.mono _ _ _ _)
   | (with_reducible exact LeO.refl _)
   | (with_reducible exact LeO.none _)
   | (with_reducible refine LeO.ite ?_ ?_)
   | (with_reducible refine LeO.bind ?_ (fun _=>?_))
   | exact ih0 _ _ _ _ _ _ _
   | exact impl_IsColouring.mono _ _ _ _
   | exact laws_eqIntS.mono _ _ _
   | exact laws_eqParty.mono _ _ _ _ _
   | exact laws_toIntS.mono _ _
   | exact laws_toParty.mono _ _ _
   | exact spec_IsColouring.mono _ _ _ _
   | exact LeO.none _
   | refine LeO.ite ?_ ?_
   | refine LeO.bind ?_ (fun _=>?_)
set_option maxHeartbeats 8000000 in
set_option maxRecDepth 100000 in
theorem laws_FnExactIsColouring.calls (k:Nat) (a0_0:Int) (A0_1:Option Addr) (c0_1:Nat) (l0_1:List (S88)) (A1:Option Addr) (c1:Nat) (l1:List Int) (r:Bool) (w:World) (hr0_1:Kd.C k88 w A0_1 l0_1.length l0_1) (hc0_1:l0_1.length≤c0_1) (hr1:Kd.C (Kd.int .i64) w A1 l1.length l1) (hc1:l1.length≤c1) (h:laws_FnExactIsColouring.f k a0_0 l0_1 l1=some r) :
  Calls Try.prog 8 #[.agg #[.int .i64 a0_0,.slice A0_1 l0_1.length c0_1],.slice A1 l1.length c1] w fun e w'=>e=.returned (.bool r)∧Below w.heap.size w w':=by
 have hu24:=Try.underlying24
 have hu29:=Try.underlying29
 have HR0_1:=Aside0.mk hr0_1
 have HC0_1:=Aside0.mk hc0_1
 clear hr0_1 hc0_1
 have HR1:=Aside0.mk hr1
 have HC1:=Aside0.mk hc1
 clear hr1 hc1
 have HB:=Aside0.mk (Below.refl w.heap.size w)
 have H:(if (l1.length:Int) > 1048576 then (some true) else ((laws_szParty.f a0_0 l0_1 1048576).bind fun t481=>(if t481 < 0 then (some true) else ((laws_toParty.f k a0_0 l0_1).bind fun bt482=>((laws_toIntS.f k l1).bind fun t486=>((spec_IsColouring.f k bt482.1 bt482.2 t486).bind fun bt489=>((laws_toParty.f k a0_0 l0_1).bind fun bt491=>((laws_toIntS.f k l1).bind fun t496=>((impl_IsColouring.f k bt491.1 bt491.2 t496).bind fun bt499=>(if (bt499.1 != bt489.1)=true then (laws_FnExactIsColouring.j0 k l1 t496 true a0_0 l0_1 bt491.1 bt491.2) else (laws_FnExactIsColouring.j0 k l1 t496 (bt499.2 != bt489.2) a0_0 l0_1 bt491.1 bt491.2)))))))))))=some r:=h
 clear h
 by_cases c3:(l1.length:Int) > 1048576
 ·rw [if_pos c3] at H
  have c3b0:decide (1048576 < (l1.length:Int))=true:=decide_eq_true c3
  have c3b1:decide (1048576 < l1.length)=true:=decide_eq_true (by omega)
  clear c3
  obtain rfl:=Option.some.inj H
  go_enter Try.func8,Try.ntmps8
  go_wp2_with (first | ((with_reducible refine gate_dst (N:=2) rfl ?_);refine box_event ?hg (N:=2) ?hd (cs:=#[.int .i64 a0_0,.slice A0_1 l0_1.length c0_1]) (t:=24) ?hr ?_;(case hd=>rfl);(case hg=>rfl);(case hr=>first | (go_simp;done) | (go_simp;rfl));intro gb480 hg w4 hbox hb;have n0_:=Aside0.mk (zz4 (by repeat first | exact HB.out | apply zz2 | apply zz0 | apply zz1) hb);have n1_:=Aside0.mk (hbox);have n2_:=Aside0.mk ((by rw [hg];exact (zz5 (by repeat first | exact HB.out | apply zz2 | apply zz0 | apply zz1)):w.heap.size≤gb480));have n3_:=Aside0.mk ((by rw [hg];exact (zz5 (by repeat first | exact HB.out | apply zz2 | apply zz0 | apply zz1)):w.heap.size≤gb480));clear HB;have HB:=n0_;have BK480:=n1_;have GW480:=n2_;have GE480:=n3_;clear n0_ n1_ n2_ n3_;clear hb hbox hg))
  go_ret
  exact ⟨by first | rfl | (simp [errW_none,errW_some] <;> rfl) | (simp [*,errW_none,errW_some] <;> rfl),by repeat first | exact HB.out | apply zz2 | apply zz0 | apply zz1 | refine zz3 ?_ GE480.out⟩
 ·rw [if_neg c3] at H
  have c3b0:decide (1048576 < (l1.length:Int))=false:=decide_eq_false c3
  have c3b1:decide (1048576 < l1.length)=false:=decide_eq_false (by omega)
  clear c3
  replace H:=zz30.mp H
  obtain ⟨t481,A50,H⟩:=H
  replace H:(if t481 < 0 then (some true) else ((laws_toParty.f k a0_0 l0_1).bind fun bt482=>((laws_toIntS.f k l1).bind fun t486=>((spec_IsColouring.f k bt482.1 bt482.2 t486).bind fun bt489=>((laws_toParty.f k a0_0 l0_1).bind fun bt491=>((laws_toIntS.f k l1).bind fun t496=>((impl_IsColouring.f k bt491.1 bt491.2 t496).bind fun bt499=>(if (bt499.1 != bt489.1)=true then (laws_FnExactIsColouring.j0 k l1 t496 true a0_0 l0_1 bt491.1 bt491.2) else (laws_FnExactIsColouring.j0 k l1 t496 (bt499.2 != bt489.2) a0_0 l0_1 bt491.1 bt491.2)))))))))=some r:=H
  have A5:=Aside0.mk A50
  clear A50
  by_cases c6:t481 < 0
  ·rw [if_pos c6] at H
   have c6b0:decide (t481 < 0)=true:=decide_eq_true c6
   clear c6
   obtain rfl:=Option.some.inj H
   go_enter Try.func8,Try.ntmps8
   go_wp2_with (first | ((with_reducible refine gate_dst (N:=2) rfl ?_);refine box_event ?hg (N:=2) ?hd (cs:=#[.int .i64 a0_0,.slice A0_1 l0_1.length c0_1]) (t:=24) ?hr ?_;(case hd=>rfl);(case hg=>rfl);(case hr=>first | (go_simp;done) | (go_simp;rfl));intro gb480 hg w7 hbox hb;have n0_:=Aside0.mk (zz4 (by repeat first | exact HB.out | apply zz2 | apply zz0 | apply zz1) hb);have n1_:=Aside0.mk (hbox);have n2_:=Aside0.mk ((by rw [hg];exact (zz5 (by repeat first | exact HB.out | apply zz2 | apply zz0 | apply zz1)):w.heap.size≤gb480));have n3_:=Aside0.mk ((by rw [hg];exact (zz5 (by repeat first | exact HB.out | apply zz2 | apply zz0 | apply zz1)):w.heap.size≤gb480));clear HB;have HB:=n0_;have BK480:=n1_;have GW480:=n2_;have GE480:=n3_;clear n0_ n1_ n2_ n3_;clear hb hbox hg;have hcz8_0:w7.cell? ⟨gb480,0,none⟩=some (.int .i64 a0_0):=(zz9 BK480.out 0).trans rfl;have hcz8_1:w7.cell? ⟨gb480,1,none⟩=some (.slice A0_1 l0_1.length c0_1):=(zz9 BK480.out 1).trans rfl;have hfz8_0:=zz10 BK480.out 0;have hfz8_1:=zz10 BK480.out 1) | ((with_reducible refine gate_callee (f:=15) rfl ?_);refine goesL_ (some 17) rfl rfl Try.func15 (by kernel_rfl) rfl #[.agg #[.int .i64 a0_0,.slice A0_1 l0_1.length c0_1],.int .i64 1048576] rfl (by (try simp only [zz26,zz27,zz28]);first | done | rfl | (simp only [zz24,zz25];rfl) | (simp only [zz25];congr;(try simp only [decide_eq_true_eq] at *);omega)) ?_;(with_reducible refine (laws_szParty.calls a0_0 _ _ l0_1 1048576 t481 _ ?side1 ?side2 A5.out).mono ?_);(case side1=>repeat (first | exact (Kd.C_below HR0_1.out HB.out) | (with_reducible refine zz18 ?_ _) | (with_reducible refine zz19 ?_ _) | (with_reducible refine zz20 ?_)));(case side2=>exact HC0_1.out);rintro e w9 ⟨rfl,hb⟩;refine ⟨_,rfl,?_⟩;have n0_:=Aside0.mk (zz11 (g:=gb480) (o:=.cells #[.int .i64 a0_0,.slice A0_1 l0_1.length c0_1] 24 (0,0)) (by (with_reducible repeat (first | refine zz6 ?_ _ | refine zz7 ?_ | refine zz8 ?_ _));exact BK480.out) hb);have n1_:=Aside0.mk (zz4 (by repeat first | exact HB.out | apply zz2 | apply zz0 | apply zz1 | refine zz3 ?_ GE480.out) hb);clear BK480;clear HB;have BK480:=n0_;have HB:=n1_;clear n0_ n1_;(try clear hb);(try clear hb2);(try clear hk);(try clear hi)))
   go_ret
   exact ⟨by first | rfl | (simp [errW_none,errW_some] <;> rfl) | (simp [*,errW_none,errW_some] <;> rfl),by repeat first | exact HB.out | apply zz2 | apply zz0 | apply zz1 | refine zz3 ?_ GE480.out⟩
  ·rw [if_neg c6] at H
   have c6b0:decide (t481 < 0)=false:=decide_eq_false c6
   clear c6
   replace H:=zz30.mp H
   obtain ⟨⟨t482,t483⟩,A100,H⟩:=H
   replace H:((laws_toIntS.f k l1).bind fun t486=>((spec_IsColouring.f k t482 t483 t486).bind fun bt489=>((laws_toParty.f k a0_0 l0_1).bind fun bt491=>((laws_toIntS.f k l1).bind fun t496=>((impl_IsColouring.f k bt491.1 bt491.2 t496).bind fun bt499=>(if (bt499.1 != bt489.1)=true then (laws_FnExactIsColouring.j0 k l1 t496 true a0_0 l0_1 bt491.1 bt491.2) else (laws_FnExactIsColouring.j0 k l1 t496 (bt499.2 != bt489.2) a0_0 l0_1 bt491.1 bt491.2)))))))=some r:=H
   have A10:=Aside0.mk A100
   clear A100
   replace H:=zz30.mp H
   obtain ⟨t486,A110,H⟩:=H
   replace H:((spec_IsColouring.f k t482 t483 t486).bind fun bt489=>((laws_toParty.f k a0_0 l0_1).bind fun bt491=>((laws_toIntS.f k l1).bind fun t496=>((impl_IsColouring.f k bt491.1 bt491.2 t496).bind fun bt499=>(if (bt499.1 != bt489.1)=true then (laws_FnExactIsColouring.j0 k l1 t496 true a0_0 l0_1 bt491.1 bt491.2) else (laws_FnExactIsColouring.j0 k l1 t496 (bt499.2 != bt489.2) a0_0 l0_1 bt491.1 bt491.2))))))=some r:=H
   have A11:=Aside0.mk A110
   clear A110
   replace H:=zz30.mp H
   obtain ⟨⟨t489,t490⟩,A120,H⟩:=H
   replace H:((laws_toParty.f k a0_0 l0_1).bind fun bt491=>((laws_toIntS.f k l1).bind fun t496=>((impl_IsColouring.f k bt491.1 bt491.2 t496).bind fun bt499=>(if (bt499.1 != t489)=true then (laws_FnExactIsColouring.j0 k l1 t496 true a0_0 l0_1 bt491.1 bt491.2) else (laws_FnExactIsColouring.j0 k l1 t496 (bt499.2 != t490) a0_0 l0_1 bt491.1 bt491.2)))))=some r:=H
   have A12:=Aside0.mk A120
   clear A120
   replace H:=zz30.mp H
   obtain ⟨⟨t491,t492⟩,A130,H⟩:=H
   replace H:((laws_toIntS.f k l1).bind fun t496=>((impl_IsColouring.f k t491 t492 t496).bind fun bt499=>(if (bt499.1 != t489)=true then (laws_FnExactIsColouring.j0 k l1 t496 true a0_0 l0_1 t491 t492) else (laws_FnExactIsColouring.j0 k l1 t496 (bt499.2 != t490) a0_0 l0_1 t491 t492))))=some r:=H
   have A13:=Aside0.mk A130
   clear A130
   replace H:=zz30.mp H
   obtain ⟨t496,A140,H⟩:=H
   replace H:((impl_IsColouring.f k t491 t492 t496).bind fun bt499=>(if (bt499.1 != t489)=true then (laws_FnExactIsColouring.j0 k l1 t496 true a0_0 l0_1 t491 t492) else (laws_FnExactIsColouring.j0 k l1 t496 (bt499.2 != t490) a0_0 l0_1 t491 t492)))=some r:=H
   have A14:=Aside0.mk A140
   clear A140
   replace H:=zz30.mp H
   obtain ⟨⟨t499,t500⟩,A150,H⟩:=H
   replace H:(if (t499 != t489)=true then (laws_FnExactIsColouring.j0 k l1 t496 true a0_0 l0_1 t491 t492) else (laws_FnExactIsColouring.j0 k l1 t496 (t500 != t490) a0_0 l0_1 t491 t492))=some r:=H
   have A15:=Aside0.mk A150
   clear A150
   have HC16:=Aside0.mk H
   clear H
   go_enter Try.func8,Try.ntmps8
   go_upto_region 11 with (first | ((with_reducible refine gate_dst (N:=2) rfl ?_);refine box_event ?hg (N:=2) ?hd (cs:=#[.int .i64 a0_0,.slice A0_1 l0_1.length c0_1]) (t:=24) ?hr ?_;(case hd=>rfl);(case hg=>rfl);(case hr=>first | (go_simp;done) | (go_simp;rfl));intro gb480 hg w17 hbox hb;have n0_:=Aside0.mk (zz4 (by repeat first | exact HB.out | apply zz2 | apply zz0 | apply zz1) hb);have n1_:=Aside0.mk (hbox);have n2_:=Aside0.mk ((by rw [hg];exact (zz5 (by repeat first | exact HB.out | apply zz2 | apply zz0 | apply zz1)):w.heap.size≤gb480));have n3_:=Aside0.mk ((by rw [hg];exact (zz5 (by repeat first | exact HB.out | apply zz2 | apply zz0 | apply zz1)):w.heap.size≤gb480));clear HB;have HB:=n0_;have BK480:=n1_;have GW480:=n2_;have GE480:=n3_;clear n0_ n1_ n2_ n3_;clear hb hbox hg;have hcz18_0:w17.cell? ⟨gb480,0,none⟩=some (.int .i64 a0_0):=(zz9 BK480.out 0).trans rfl;have hcz18_1:w17.cell? ⟨gb480,1,none⟩=some (.slice A0_1 l0_1.length c0_1):=(zz9 BK480.out 1).trans rfl;have hfz18_0:=zz10 BK480.out 0;have hfz18_1:=zz10 BK480.out 1) | ((with_reducible refine gate_callee (f:=15) rfl ?_);refine goesL_ (some 17) rfl rfl Try.func15 (by kernel_rfl) rfl #[.agg #[.int .i64 a0_0,.slice A0_1 l0_1.length c0_1],.int .i64 1048576] rfl (by (try simp only [zz26,zz27,zz28]);first | done | rfl | (simp only [zz24,zz25];rfl) | (simp only [zz25];congr;(try simp only [decide_eq_true_eq] at *);omega)) ?_;(with_reducible refine (laws_szParty.calls a0_0 _ _ l0_1 1048576 t481 _ ?side1 ?side2 A5.out).mono ?_);(case side1=>repeat (first | exact (Kd.C_below HR0_1.out HB.out) | (with_reducible refine zz18 ?_ _) | (with_reducible refine zz19 ?_ _) | (with_reducible refine zz20 ?_)));(case side2=>exact HC0_1.out);rintro e w19 ⟨rfl,hb⟩;refine ⟨_,rfl,?_⟩;have n0_:=Aside0.mk (zz11 (g:=gb480) (o:=.cells #[.int .i64 a0_0,.slice A0_1 l0_1.length c0_1] 24 (0,0)) (by (with_reducible repeat (first | refine zz6 ?_ _ | refine zz7 ?_ | refine zz8 ?_ _));exact BK480.out) hb);have n1_:=Aside0.mk (zz4 (by repeat first | exact HB.out | apply zz2 | apply zz0 | apply zz1 | refine zz3 ?_ GE480.out) hb);clear BK480;clear HB;have BK480:=n0_;have HB:=n1_;clear n0_ n1_;(try clear hb);(try clear hb2);(try clear hk);(try clear hi);have hcz20_0:w19.cell? ⟨gb480,0,none⟩=some (.int .i64 a0_0):=(zz9 BK480.out 0).trans rfl;have hcz20_1:w19.cell? ⟨gb480,1,none⟩=some (.slice A0_1 l0_1.length c0_1):=(zz9 BK480.out 1).trans rfl;have hfz20_0:=zz10 BK480.out 0;have hfz20_1:=zz10 BK480.out 1) | ((with_reducible refine gate_callee (f:=17) rfl ?_);refine goesL_ (some 22) rfl rfl Try.func17 (by kernel_rfl) rfl #[.agg #[.int .i64 a0_0,.slice A0_1 l0_1.length c0_1]] rfl (by (try simp only [zz26,zz27,zz28]);first | done | rfl | (simp only [zz24,zz25];rfl) | (simp only [zz25];congr;(try simp only [decide_eq_true_eq] at *);omega)) ?_;(with_reducible refine (laws_toParty.calls k a0_0 _ _ l0_1 t482 t483 _ ?side1 ?side2 A10.out).mono ?_);(case side1=>repeat (first | exact (Kd.C_below HR0_1.out HB.out) | (with_reducible refine zz18 ?_ _) | (with_reducible refine zz19 ?_ _) | (with_reducible refine zz20 ?_)));(case side2=>exact HC0_1.out);rintro e w21 ⟨v484,rfl,ho0,hb⟩;refine ⟨_,rfl,?_⟩;have n0_:=Aside0.mk (Kd.R_lower ho0 (zz5 (by repeat first | exact HB.out | apply zz2 | apply zz0 | apply zz1 | refine zz3 ?_ GE480.out)));have n1_:=Aside0.mk (zz11 (g:=gb480) (o:=.cells #[.int .i64 a0_0,.slice A0_1 l0_1.length c0_1] 24 (0,0)) (by (with_reducible repeat (first | refine zz6 ?_ _ | refine zz7 ?_ | refine zz8 ?_ _));exact BK480.out) hb);have n2_:=Aside0.mk (zz4 (by repeat first | exact HB.out | apply zz2 | apply zz0 | apply zz1 | refine zz3 ?_ GE480.out) hb);clear BK480;clear HB;have HO485:=n0_;have BK480:=n1_;have HB:=n2_;clear n0_ n1_ n2_;(try clear hb);(try clear hb2);(try clear hk);(try clear hi);(try clear ho0)) | ((with_reducible refine gate_callee (f:=31) rfl ?_);refine goesL_ (some 24) rfl rfl Try.func31 (by kernel_rfl) rfl #[.slice A1 l1.length c1] rfl (by (try simp only [zz26,zz27,zz28]);first | done | rfl | (simp only [zz24,zz25];rfl) | (simp only [zz25];congr;(try simp only [decide_eq_true_eq] at *);omega)) ?_;(with_reducible refine (laws_toIntS.calls k _ _ l1 t486 _ ?side1 ?side2 A11.out).mono ?_);(case side1=>repeat (first | exact (Kd.C_below HR1.out HB.out) | (with_reducible refine zz18 ?_ _) | (with_reducible refine zz19 ?_ _) | (with_reducible refine zz20 ?_)));(case side2=>exact HC1.out);rintro e w22 ⟨v487,rfl,ho0,hb⟩;refine ⟨_,rfl,?_⟩;have n0_:=Aside0.mk (Kd.R_below (by (with_reducible repeat (first | apply zz12 | apply zz13 | apply zz14));exact HO485.out) hb);have n1_:=Aside0.mk (Kd.R_lower ho0 (zz5 (by repeat first | exact HB.out | apply zz2 | apply zz0 | apply zz1 | refine zz3 ?_ GE480.out)));have n2_:=Aside0.mk (zz11 (g:=gb480) (o:=.cells #[.int .i64 a0_0,.slice A0_1 l0_1.length c0_1] 24 (0,0)) (by (with_reducible repeat (first | refine zz6 ?_ _ | refine zz7 ?_ | refine zz8 ?_ _));exact BK480.out) hb);have n3_:=Aside0.mk (zz4 (by repeat first | exact HB.out | apply zz2 | apply zz0 | apply zz1 | refine zz3 ?_ GE480.out) hb);clear HO485;clear BK480;clear HB;have HO485:=n0_;have HO488:=n1_;have BK480:=n2_;have HB:=n3_;clear n0_ n1_ n2_ n3_;(try clear hb);(try clear hb2);(try clear hk);(try clear hi);(try clear ho0);obtain ⟨Ao23,co23,eo23⟩:=Kd.R_slice HO485.out;subst eo23;obtain ⟨Ao24,co24,eo24⟩:=Kd.R_slice HO488.out;subst eo24) | ((with_reducible refine gate_callee (f:=30) rfl ?_);refine goesL_ (some 25) rfl rfl Try.func30 (by kernel_rfl) rfl #[.agg #[.int .i64 t482,.slice Ao23 t483.length co23],.slice Ao24 t486.length co24] rfl (by (try simp only [zz26,zz27,zz28]);first | done | rfl | (simp only [zz24,zz25];rfl) | (simp only [zz25];congr;(try simp only [decide_eq_true_eq] at *);omega)) ?_;(with_reducible refine (spec_IsColouring.calls k t482 _ _ t483 _ _ t486 t489 t490 _ ?side1 ?side2 ?side3 ?side4 A12.out).mono ?_);(case side1=>repeat (first | exact (Kd.R_reads' HO485.out).2.2 | (with_reducible refine zz18 ?_ _) | (with_reducible refine zz19 ?_ _) | (with_reducible refine zz20 ?_)));(case side2=>exact (Kd.R_reads' HO485.out).2.1);(case side3=>repeat (first | exact (Kd.R_reads' HO488.out).2.2 | (with_reducible refine zz18 ?_ _) | (with_reducible refine zz19 ?_ _) | (with_reducible refine zz20 ?_)));(case side4=>exact (Kd.R_reads' HO488.out).2.1);rintro e w25 ⟨rfl,hb⟩;refine ⟨_,rfl,?_⟩;have n0_:=Aside0.mk (Kd.R_below (by (with_reducible repeat (first | apply zz12 | apply zz13 | apply zz14));exact HO485.out) hb);have n1_:=Aside0.mk (Kd.R_below (by (with_reducible repeat (first | apply zz12 | apply zz13 | apply zz14));exact HO488.out) hb);have n2_:=Aside0.mk (zz11 (g:=gb480) (o:=.cells #[.int .i64 a0_0,.slice A0_1 l0_1.length c0_1] 24 (0,0)) (by (with_reducible repeat (first | refine zz6 ?_ _ | refine zz7 ?_ | refine zz8 ?_ _));exact BK480.out) hb);have n3_:=Aside0.mk (zz4 (by repeat first | exact HB.out | apply zz2 | apply zz0 | apply zz1 | refine zz3 ?_ GE480.out) hb);clear HO485;clear HO488;clear BK480;clear HB;have HO485:=n0_;have HO488:=n1_;have BK480:=n2_;have HB:=n3_;clear n0_ n1_ n2_ n3_;(try clear hb);(try clear hb2);(try clear hk);(try clear hi);have hcz26_0:w25.cell? ⟨gb480,0,none⟩=some (.int .i64 a0_0):=(zz9 BK480.out 0).trans rfl;have hcz26_1:w25.cell? ⟨gb480,1,none⟩=some (.slice A0_1 l0_1.length c0_1):=(zz9 BK480.out 1).trans rfl;have hfz26_0:=zz10 BK480.out 0;have hfz26_1:=zz10 BK480.out 1) | ((with_reducible refine gate_callee (f:=17) rfl ?_);refine goesL_ (some 29) rfl rfl Try.func17 (by kernel_rfl) rfl #[.agg #[.int .i64 a0_0,.slice A0_1 l0_1.length c0_1]] rfl (by (try simp only [zz26,zz27,zz28]);first | done | rfl | (simp only [zz24,zz25];rfl) | (simp only [zz25];congr;(try simp only [decide_eq_true_eq] at *);omega)) ?_;(with_reducible refine (laws_toParty.calls k a0_0 _ _ l0_1 t491 t492 _ ?side1 ?side2 A13.out).mono ?_);(case side1=>repeat (first | exact (Kd.C_below HR0_1.out HB.out) | (with_reducible refine zz18 ?_ _) | (with_reducible refine zz19 ?_ _) | (with_reducible refine zz20 ?_)));(case side2=>exact HC0_1.out);rintro e w27 ⟨v493,rfl,ho0,hb⟩;refine ⟨_,rfl,?_⟩;have n0_:=Aside0.mk (Kd.R_elder' (by (with_reducible repeat (first | apply zz12 | apply zz13 | apply zz14));exact HO485.out) (Kd.R_base ho0) hb);have n1_:=Aside0.mk (Kd.R_below (by (with_reducible repeat (first | apply zz12 | apply zz13 | apply zz14));exact HO488.out) hb);have n2_:=Aside0.mk (Kd.R_lower (Kd.R_new' ho0 (Kd.R_lt (by (with_reducible repeat (first | apply zz12 | apply zz13 | apply zz14));exact HO485.out))) (zz5 (by repeat first | exact HB.out | apply zz2 | apply zz0 | apply zz1 | refine zz3 ?_ GE480.out)));have n3_:=Aside0.mk (zz11 (g:=gb480) (o:=.cells #[.int .i64 a0_0,.slice A0_1 l0_1.length c0_1] 24 (0,0)) (by (with_reducible repeat (first | refine zz6 ?_ _ | refine zz7 ?_ | refine zz8 ?_ _));exact BK480.out) hb);have n4_:=Aside0.mk (zz4 (by repeat first | exact HB.out | apply zz2 | apply zz0 | apply zz1 | refine zz3 ?_ GE480.out) hb);clear HO485;clear HO488;clear BK480;clear HB;have HO485:=n0_;have HO488:=n1_;have HO494:=n2_;have BK480:=n3_;have HB:=n4_;clear n0_ n1_ n2_ n3_ n4_;(try clear hb);(try clear hb2);(try clear hk);(try clear hi);(try clear ho0)) | ((with_reducible refine gate_dst (N:=8) rfl ?_);refine box_event ?hg (N:=8) ?hd (cs:=#[.int .i64 0,.slice none 0 0]) (t:=29) ?hr ?_;(case hd=>rfl);(case hg=>rfl);(case hr=>first | (go_simp;done) | (go_simp;rfl));intro gb495 hg w28 hbox hb;have n0_:=Aside0.mk (Kd.R_below (by (with_reducible repeat (first | apply zz12 | apply zz13 | apply zz14));exact HO485.out) hb);have n1_:=Aside0.mk (Kd.R_below (by (with_reducible repeat (first | apply zz12 | apply zz13 | apply zz14));exact HO488.out) hb);have n2_:=Aside0.mk (Kd.R_below (by (with_reducible repeat (first | apply zz12 | apply zz13 | apply zz14));exact HO494.out) hb);have n3_:=Aside0.mk (zz11 (g:=gb480) (o:=.cells #[.int .i64 a0_0,.slice A0_1 l0_1.length c0_1] 24 (0,0)) (by (with_reducible repeat (first | refine zz6 ?_ _ | refine zz7 ?_ | refine zz8 ?_ _));exact BK480.out) hb);have n4_:=Aside0.mk (zz4 (by repeat first | exact HB.out | apply zz2 | apply zz0 | apply zz1 | refine zz3 ?_ GE480.out) hb);have n5_:=Aside0.mk (hbox);have n6_:=Aside0.mk ((by rw [hg];exact (zz5 (by repeat first | exact HB.out | apply zz2 | apply zz0 | apply zz1 | refine zz3 ?_ GE480.out)):w.heap.size≤gb495));have n7_:=Aside0.mk ((by rw [hg];exact (zz5 (by repeat first | exact HB.out | apply zz2 | apply zz0 | apply zz1 | refine zz3 ?_ GE480.out)):w.heap.size≤gb495));have n8_:=Aside0.mk ((by rw [hg];exact Nat.ne_of_lt (blk_lt (g:=gb480) (o:=.cells #[.int .i64 a0_0,.slice A0_1 l0_1.length c0_1] 24 (0,0)) (by (with_reducible repeat (first | refine zz6 ?_ _ | refine zz7 ?_ | refine zz8 ?_ _));exact BK480.out)):gb480 ≠ gb495));have n9_:=Aside0.mk ((by rw [hg];exact Nat.ne_of_gt (blk_lt (g:=gb480) (o:=.cells #[.int .i64 a0_0,.slice A0_1 l0_1.length c0_1] 24 (0,0)) (by (with_reducible repeat (first | refine zz6 ?_ _ | refine zz7 ?_ | refine zz8 ?_ _));exact BK480.out)):gb495 ≠ gb480));clear HO485;clear HO488;clear HO494;clear BK480;clear HB;have HO485:=n0_;have HO488:=n1_;have HO494:=n2_;have BK480:=n3_;have HB:=n4_;have BK495:=n5_;have GW495:=n6_;have GE495:=n7_;have NB480_495:=n8_;have NB495_480:=n9_;clear n0_ n1_ n2_ n3_ n4_ n5_ n6_ n7_ n8_ n9_;clear hb hbox hg;have hnb29:=NB495_480.out;have hnc29:=NB480_495.out;have hcz30_0:w28.cell? ⟨gb495,0,none⟩=some (.int .i64 0):=(zz9 BK495.out 0).trans rfl;have hcz30_1:w28.cell? ⟨gb495,1,none⟩=some (.slice none 0 0):=(zz9 BK495.out 1).trans rfl;have hfz30_0:=zz10 BK495.out 0;have hfz30_1:=zz10 BK495.out 1;obtain ⟨Ao31,co31,eo31⟩:=Kd.R_slice HO494.out;subst eo31) | ((with_reducible refine gate_callee (f:=31) rfl ?_);refine goesL_ (some 31) rfl rfl Try.func31 (by kernel_rfl) rfl #[.slice A1 l1.length c1] rfl (by (try simp only [zz26,zz27,zz28]);first | done | rfl | (simp only [zz24,zz25];rfl) | (simp only [zz25];congr;(try simp only [decide_eq_true_eq] at *);omega)) ?_;(with_reducible refine (laws_toIntS.calls k _ _ l1 t496 _ ?side1 ?side2 A14.out).mono ?_);(case side1=>exact Kd.C_below HR1.out (by repeat first | exact HB.out | apply zz2 | apply zz0 | apply zz1 | refine zz3 ?_ GE480.out | refine zz3 ?_ GE495.out));(case side2=>exact HC1.out);rintro e w32 ⟨v497,rfl,ho0,hb⟩;refine ⟨_,rfl,?_⟩;have n0_:=Aside0.mk (Kd.R_below (by (with_reducible repeat (first | apply zz12 | apply zz13 | apply zz14));exact (Kd.R_mono (Kd.R_far (p:=⟨gb495,1,none⟩) (Kd.R_far (p:=⟨gb495,0,none⟩) (Kd.R_types HO485.out BK495.out (by decide)) (fun _ hk=>hk.2) (.int .i64 t491)) (fun _ hk=>hk.2) (.slice Ao31 t492.length co31)) (fun _ h_=>h_.1))) hb);have n1_:=Aside0.mk (Kd.R_elder' (by (with_reducible repeat (first | apply zz12 | apply zz13 | apply zz14));exact (Kd.R_mono (Kd.R_far (p:=⟨gb495,1,none⟩) (Kd.R_far (p:=⟨gb495,0,none⟩) (Kd.R_types HO488.out BK495.out (by decide)) (fun _ hk=>hk.2) (.int .i64 t491)) (fun _ hk=>hk.2) (.slice Ao31 t492.length co31)) (fun _ h_=>h_.1))) (Kd.R_base ho0) hb);have n2_:=Aside0.mk (Kd.R_below (by (with_reducible repeat (first | apply zz12 | apply zz13 | apply zz14));exact (Kd.R_mono (Kd.R_far (p:=⟨gb495,1,none⟩) (Kd.R_far (p:=⟨gb495,0,none⟩) (Kd.R_types HO494.out BK495.out (by decide)) (fun _ hk=>hk.2) (.int .i64 t491)) (fun _ hk=>hk.2) (.slice Ao31 t492.length co31)) (fun _ h_=>h_.1))) hb);have n3_:=Aside0.mk (Kd.R_lower (Kd.R_new' ho0 (Kd.R_lt (by (with_reducible repeat (first | apply zz12 | apply zz13 | apply zz14));exact (Kd.R_mono (Kd.R_far (p:=⟨gb495,1,none⟩) (Kd.R_far (p:=⟨gb495,0,none⟩) (Kd.R_types HO488.out BK495.out (by decide)) (fun _ hk=>hk.2) (.int .i64 t491)) (fun _ hk=>hk.2) (.slice Ao31 t492.length co31)) (fun _ h_=>h_.1))))) (zz5 (by repeat first | exact HB.out | apply zz2 | apply zz0 | apply zz1 | refine zz3 ?_ GE480.out | refine zz3 ?_ GE495.out)));have n4_:=Aside0.mk (zz11 (g:=gb480) (o:=.cells #[.int .i64 a0_0,.slice A0_1 l0_1.length c0_1] 24 (0,0)) (by (with_reducible repeat (first | refine zz6 ?_ _ | refine zz7 ?_ | refine zz8 ?_ _));refine blk_far ?_ NB480_495.out _;(with_reducible repeat (first | refine zz6 ?_ _ | refine zz7 ?_ | refine zz8 ?_ _));refine blk_far ?_ NB480_495.out _;(with_reducible repeat (first | refine zz6 ?_ _ | refine zz7 ?_ | refine zz8 ?_ _));exact BK480.out) hb);have n5_:=Aside0.mk (zz11 (g:=gb495) (o:=.cells #[.int .i64 t491,.slice Ao31 t492.length co31] 29 (0,0)) (by (with_reducible repeat (first | refine zz6 ?_ _ | refine zz7 ?_ | refine zz8 ?_ _));refine blk_put (cs:=#[.int .i64 t491,.slice none 0 0]) ?_ 1 _ rfl;(with_reducible repeat (first | refine zz6 ?_ _ | refine zz7 ?_ | refine zz8 ?_ _));refine blk_put (cs:=#[.int .i64 0,.slice none 0 0]) ?_ 0 _ rfl;(with_reducible repeat (first | refine zz6 ?_ _ | refine zz7 ?_ | refine zz8 ?_ _));exact BK495.out) hb);have n6_:=Aside0.mk (zz4 (by repeat first | exact HB.out | apply zz2 | apply zz0 | apply zz1 | refine zz3 ?_ GE480.out | refine zz3 ?_ GE495.out) hb);clear HO485;clear HO488;clear HO494;clear BK480;clear BK495;clear HB;have HO485:=n0_;have HO488:=n1_;have HO494:=n2_;have HO498:=n3_;have BK480:=n4_;have BK495:=n5_;have HB:=n6_;clear n0_ n1_ n2_ n3_ n4_ n5_ n6_;(try clear hb);(try clear hb2);(try clear hk);(try clear hi);(try clear ho0);have hcz33_0:w32.cell? ⟨gb495,0,none⟩=some (.int .i64 t491):=(zz9 BK495.out 0).trans rfl;have hcz33_1:w32.cell? ⟨gb495,1,none⟩=some (.slice Ao31 t492.length co31):=(zz9 BK495.out 1).trans rfl;have hfz33_0:=zz10 BK495.out 0;have hfz33_1:=zz10 BK495.out 1;obtain ⟨Ao34,co34,eo34⟩:=Kd.R_slice HO498.out;subst eo34) | ((with_reducible refine gate_callee (f:=32) rfl ?_);refine goesL_ (some 35) rfl rfl Try.func32 (by kernel_rfl) rfl #[.agg #[.int .i64 t491,.slice Ao31 t492.length co31],.slice Ao34 t496.length co34] rfl (by (try simp only [zz26,zz27,zz28]);first | done | rfl | (simp only [zz24,zz25];rfl) | (simp only [zz25];congr;(try simp only [decide_eq_true_eq] at *);omega)) ?_;(with_reducible refine (impl_IsColouring.calls k t491 _ _ t492 _ _ t496 t499 t500 _ ?side1 ?side2 ?side3 ?side4 A15.out).mono ?_);(case side1=>repeat (first | exact (Kd.R_reads' HO494.out).2.2 | (with_reducible refine zz18 ?_ _) | (with_reducible refine zz19 ?_ _) | (with_reducible refine zz20 ?_)));(case side2=>exact (Kd.R_reads' HO494.out).2.1);(case side3=>repeat (first | exact (Kd.R_reads' HO498.out).2.2 | (with_reducible refine zz18 ?_ _) | (with_reducible refine zz19 ?_ _) | (with_reducible refine zz20 ?_)));(case side4=>exact (Kd.R_reads' HO498.out).2.1);rintro e w35 ⟨rfl,hb⟩;refine ⟨_,rfl,?_⟩;have n0_:=Aside0.mk (Kd.R_below (by (with_reducible repeat (first | apply zz12 | apply zz13 | apply zz14));exact HO485.out) hb);have n1_:=Aside0.mk (Kd.R_below (by (with_reducible repeat (first | apply zz12 | apply zz13 | apply zz14));exact HO488.out) hb);have n2_:=Aside0.mk (Kd.R_below (by (with_reducible repeat (first | apply zz12 | apply zz13 | apply zz14));exact HO494.out) hb);have n3_:=Aside0.mk (Kd.R_below (by (with_reducible repeat (first | apply zz12 | apply zz13 | apply zz14));exact HO498.out) hb);have n4_:=Aside0.mk (zz11 (g:=gb480) (o:=.cells #[.int .i64 a0_0,.slice A0_1 l0_1.length c0_1] 24 (0,0)) (by (with_reducible repeat (first | refine zz6 ?_ _ | refine zz7 ?_ | refine zz8 ?_ _));exact BK480.out) hb);have n5_:=Aside0.mk (zz11 (g:=gb495) (o:=.cells #[.int .i64 t491,.slice Ao31 t492.length co31] 29 (0,0)) (by (with_reducible repeat (first | refine zz6 ?_ _ | refine zz7 ?_ | refine zz8 ?_ _));exact BK495.out) hb);have n6_:=Aside0.mk (zz4 (by repeat first | exact HB.out | apply zz2 | apply zz0 | apply zz1 | refine zz3 ?_ GE480.out | refine zz3 ?_ GE495.out) hb);clear HO485;clear HO488;clear HO494;clear HO498;clear BK480;clear BK495;clear HB;have HO485:=n0_;have HO488:=n1_;have HO494:=n2_;have HO498:=n3_;have BK480:=n4_;have BK495:=n5_;have HB:=n6_;clear n0_ n1_ n2_ n3_ n4_ n5_ n6_;(try clear hb);(try clear hb2);(try clear hk);(try clear hi)))
   (try simp only [Act.put,zz21,zz22,zz23])
   go_cut [45] (fun v45 wc=>∃ (kq:Nat) (x45_15:Bool),v45=.bool x45_15∧Aside0 (laws_FnExactIsColouring.j0 kq l1 t496 x45_15 a0_0 l0_1 t491 t492=some r)∧Aside0 (kq≤k)∧Aside0 (Kd.R (Kd.int .i64) 3 wc w.heap.size (fun _=>True) (.slice Ao34 t496.length co34) t496)∧Aside0 (Kd.R k61 61 wc w.heap.size (fun _=>True) (.slice Ao31 t492.length co31) t492)∧Aside0 (wc.heap[gb480]?=some (.cells #[.int .i64 a0_0,(.slice A0_1 l0_1.length c0_1)] 24 (0,0)))∧Aside0 (wc.heap[gb495]?=some (.cells #[.int .i64 t491,(.slice Ao31 t492.length co31)] 29 (0,0)))∧Aside0 (Below w.heap.size w wc))
   case first =>
    have H:=HC16.out
    clear HC16
    by_cases c36:(t499 != t489)=true
    ·rw [if_pos c36] at H
     have c36b0:(t499 != t489)=true:=c36
     (try (have c36b1:decide (t499=t489)=false:=by simpa using c36))
     (try (have c36b2:(t499 == t489)=false:=by simpa using c36))
     (try (have c36b3:¬ (t499=t489):=by simpa using c36))
     clear c36
     (first | rw [c36b0] | (simp only [i64_w,i32_w];rw [c36b0]) | skip)
     have H':=Aside0.mk H
     clear H
     go_wp2
     go_meet
     case rel=>exact ⟨_,(true),(by first | rfl | (simp;done) | (simp [*];done)),H',⟨by first | omega | exact Nat.le_refl _⟩,⟨by (with_reducible repeat (first | apply zz12 | apply zz13 | apply zz14));exact Kd.R_mono HO498.out (fun _ hk=>trivial)⟩,⟨by (with_reducible repeat (first | apply zz12 | apply zz13 | apply zz14));exact Kd.R_mono HO494.out (fun _ hk=>trivial)⟩,⟨by (with_reducible repeat (first | refine zz6 ?_ _ | refine zz7 ?_ | refine zz8 ?_ _));exact BK480.out⟩,⟨by (with_reducible repeat (first | refine zz6 ?_ _ | refine zz7 ?_ | refine zz8 ?_ _));exact BK495.out⟩,⟨by repeat first | exact HB.out | apply zz2 | apply zz0 | apply zz1 | refine zz3 ?_ GE480.out | refine zz3 ?_ GE495.out⟩⟩
    ·rw [if_neg c36] at H
     have c36b0:(t499 != t489)=false:=by simpa using c36
     (try (have c36b1:decide (t499=t489)=true:=by simpa using c36))
     (try (have c36b2:(t499 == t489)=true:=by simpa using c36))
     clear c36
     (first | rw [c36b0] | (simp only [i64_w,i32_w];rw [c36b0]) | skip)
     have H':=Aside0.mk H
     clear H
     go_wp2
     go_meet
     case rel=>exact ⟨_,((t500 != t490)),(by first | rfl | (simp;done) | (simp [*];done)),H',⟨by first | omega | exact Nat.le_refl _⟩,⟨by (with_reducible repeat (first | apply zz12 | apply zz13 | apply zz14));exact Kd.R_mono HO498.out (fun _ hk=>trivial)⟩,⟨by (with_reducible repeat (first | apply zz12 | apply zz13 | apply zz14));exact Kd.R_mono HO494.out (fun _ hk=>trivial)⟩,⟨by (with_reducible repeat (first | refine zz6 ?_ _ | refine zz7 ?_ | refine zz8 ?_ _));exact BK480.out⟩,⟨by (with_reducible repeat (first | refine zz6 ?_ _ | refine zz7 ?_ | refine zz8 ?_ _));exact BK495.out⟩,⟨by repeat first | exact HB.out | apply zz2 | apply zz0 | apply zz1 | refine zz3 ?_ GE480.out | refine zz3 ?_ GE495.out⟩⟩
   case rest =>
    clear HC16
    try clear c1
    try clear c2
    try clear p2
    try clear c3
    try clear c3b0
    try clear c3b1
    try clear c6
    try clear c6b0
    try clear c8
    try clear c15
    try clear c17
    try clear c29
    try clear c30
    try clear c31
    try clear c32
    try clear c36
    try clear c36b0
    try clear c36b1
    try clear c36b2
    try clear hcz18_0
    try clear hcz18_1
    try clear hcz20_0
    try clear hcz20_1
    try clear hcz26_0
    try clear hcz26_1
    try clear hcz30_0
    try clear hcz30_1
    try clear hcz33_0
    try clear hcz33_1
    try clear hcz8_0
    try clear hcz8_1
    try clear hfz18_0
    try clear hfz18_1
    try clear hfz20_0
    try clear hfz20_1
    try clear hfz26_0
    try clear hfz26_1
    try clear hfz30_0
    try clear hfz30_1
    try clear hfz33_0
    try clear hfz33_1
    try clear hfz8_0
    try clear hfz8_1
    obtain ⟨kq,x45_15,rfl,HA,HJ15,HO_9,HO_496001,BK480,BK495,HB⟩:=hcut
    cases kq with
    | zero=>exact absurd HA.out (by simp [laws_FnExactIsColouring.j0])
    | succ kj15 =>
     have H:=HA.out
     clear HA
     simp only [laws_FnExactIsColouring.j0] at H
     by_cases c37:x45_15=true
     ·subst c37
      have H1:(some false)=some r:=by rw [if_pos rfl] at H;exact H
      clear H
      have H:=H1
      clear H1
      obtain rfl:=Option.some.inj H
      go_wp2
      go_ret
      exact ⟨by first | rfl | (simp [errW_none,errW_some] <;> rfl) | (simp [*,errW_none,errW_some] <;> rfl),by repeat first | exact HB.out | apply zz2 | apply zz0 | apply zz1 | refine zz3 ?_ GE480.out | refine zz3 ?_ GE495.out⟩
     ·replace c37:=Bool.eq_false_iff.mpr c37
      subst c37
      have H1:((laws_toParty.f kj15 a0_0 l0_1).bind fun bt501=>((laws_eqParty.f kj15 t491 t492 bt501.1 bt501.2).bind fun t505=>(if t505=true then ((laws_toIntS.f kj15 l1).bind fun t506=>((laws_eqIntS.f kj15 t496 t506).bind fun t509=>(if t509=true then (some true) else (some false)))) else (some false))))=some r:=by rw [if_neg (show ¬ (false=true) by decide)] at H;exact H
      clear H
      have H:=H1
      clear H1
      replace H:=zz30.mp H
      obtain ⟨⟨t501,t502⟩,A380,H⟩:=H
      replace H:((laws_eqParty.f kj15 t491 t492 t501 t502).bind fun t505=>(if t505=true then ((laws_toIntS.f kj15 l1).bind fun t506=>((laws_eqIntS.f kj15 t496 t506).bind fun t509=>(if t509=true then (some true) else (some false)))) else (some false)))=some r:=H
      have A38:=Aside0.mk A380
      clear A380
      replace H:=zz30.mp H
      obtain ⟨t505,A390,H⟩:=H
      replace H:(if t505=true then ((laws_toIntS.f kj15 l1).bind fun t506=>((laws_eqIntS.f kj15 t496 t506).bind fun t509=>(if t509=true then (some true) else (some false)))) else (some false))=some r:=H
      have A39:=Aside0.mk A390
      clear A390
      by_cases c40:t505=true
      ·subst c40
       have H1:((laws_toIntS.f kj15 l1).bind fun t506=>((laws_eqIntS.f kj15 t496 t506).bind fun t509=>(if t509=true then (some true) else (some false))))=some r:=by rw [if_pos rfl] at H;exact H
       clear H
       have H:=H1
       clear H1
       replace H:=zz30.mp H
       obtain ⟨t506,A410,H⟩:=H
       replace H:((laws_eqIntS.f kj15 t496 t506).bind fun t509=>(if t509=true then (some true) else (some false)))=some r:=H
       have A41:=Aside0.mk A410
       clear A410
       replace H:=zz30.mp H
       obtain ⟨t509,A420,H⟩:=H
       replace H:(if t509=true then (some true) else (some false))=some r:=H
       have A42:=Aside0.mk A420
       clear A420
       by_cases c43:t509=true
       ·subst c43
        have H1:(some true)=some r:=by rw [if_pos rfl] at H;exact H
        clear H
        have H:=H1
        clear H1
        obtain rfl:=Option.some.inj H
        try go_wp2
        have n0_:=Aside0.mk (zz14 HO_9.out)
        have n1_:=Aside0.mk (zz14 HO_496001.out)
        have n2_:=Aside0.mk (zz7 BK480.out)
        have n3_:=Aside0.mk (zz7 BK495.out)
        have n4_:=Aside0.mk (zz1 HB.out)
        clear HO_9
        clear HO_496001
        clear BK480
        clear BK495
        clear HB
        have HO_9:=n0_
        have HO_496001:=n1_
        have BK480:=n2_
        have BK495:=n3_
        have HB:=n4_
        clear n0_ n1_ n2_ n3_ n4_
        refine start_ (n:=5) (S:=fun w'=>w'.cell? ⟨gb495,0,none⟩=some (.int .i64 t491)∧w'.cell? ⟨gb495,1,none⟩=some (.slice Ao31 t492.length co31)∧w'.cell? ⟨gb480,0,none⟩=some (.int .i64 a0_0)∧w'.cell? ⟨gb480,1,none⟩=some (.slice A0_1 l0_1.length c0_1)) (ds:=[]) #[F,F,F,F,F] (by kernel_rfl) rfl rfl ⟨(zz9 BK495.out 0).trans rfl,(zz9 BK495.out 1).trans rfl,(zz9 BK480.out 0).trans rfl,(zz9 BK480.out 1).trans rfl⟩ (fun hHeld=>?_)
        generalize wc.drew=w44 at HO_9 HO_496001 BK480 BK495 HB hHeld ⊢
        refine take_ (i:=0) (N:=some 46) (v:=?_) (a':=?_) #[T,F,F,F,F] rfl rfl (by kernel_rfl) (fun _ _ _ h=>h) (Or.inl ⟨by rfl,?_⟩) hHeld ?_ ?_
        rotate_left
        ·rintro w' ⟨s0,s1,s2,s3⟩
         go_simp
         with_reducible rfl
        rotate_left
        ·simp only [Act.put,zz21,zz22,zz23,i64_w,i32_w]
         rfl
        refine take_ (i:=1) (N:=some 47) (v:=?_) (a':=?_) #[T,T,F,F,F] rfl rfl (by kernel_rfl) (fun _ _ _ h=>h) (Or.inl ⟨by rfl,?_⟩) hHeld ?_ ?_
        rotate_left
        ·rintro w' ⟨s0,s1,s2,s3⟩
         go_simp
         with_reducible rfl
        rotate_left
        ·simp only [Act.put,zz21,zz22,zz23,i64_w,i32_w]
         rfl
        refine one_ (i:=2) (N:=some 48) #[T,T,T,F,F] rfl rfl (by kernel_rfl) (by decide) (fun K hK=>?_)
        refine goes_ Try.func17 (by kernel_rfl) rfl #[.agg #[.int .i64 a0_0,.slice A0_1 l0_1.length c0_1]] (by rfl) rfl rfl (by (try simp only [zz26,zz27,zz28]);first | done | rfl | (simp only [zz24,zz25];rfl) | (simp only [zz25];congr;(try simp only [decide_eq_true_eq] at *);omega)) ?_
        with_reducible refine (laws_toParty.calls kj15 a0_0 _ _ l0_1 t501 t502 _ ?side1 ?side2 A38.out).mono ?_
        (case side1=>repeat (first | exact (Kd.C_below HR0_1.out HB.out) | (with_reducible refine zz18 ?_ _) | (with_reducible refine zz19 ?_ _) | (with_reducible refine zz20 ?_)))
        (case side2=>exact HC0_1.out)
        rintro e w45 ⟨v503,rfl,ho0,hb⟩
        refine ⟨_,rfl,?_⟩
        have n0_:=Aside0.mk (Kd.R_below (by (with_reducible repeat (first | apply zz12 | apply zz13 | apply zz14));exact HO_9.out) hb)
        have n1_:=Aside0.mk (Kd.R_elder' (by (with_reducible repeat (first | apply zz12 | apply zz13 | apply zz14));exact HO_496001.out) (Kd.R_base ho0) hb)
        have n2_:=Aside0.mk (Kd.R_lower (Kd.R_new' ho0 (Kd.R_lt (by (with_reducible repeat (first | apply zz12 | apply zz13 | apply zz14));exact HO_496001.out))) (zz5 (by repeat first | exact HB.out | apply zz2 | apply zz0 | apply zz1 | refine zz3 ?_ GE480.out | refine zz3 ?_ GE495.out)))
        have n3_:=Aside0.mk (zz11 (g:=gb480) (o:=.cells #[.int .i64 a0_0,.slice A0_1 l0_1.length c0_1] 24 (0,0)) (by (with_reducible repeat (first | refine zz6 ?_ _ | refine zz7 ?_ | refine zz8 ?_ _));exact BK480.out) hb)
        have n4_:=Aside0.mk (zz11 (g:=gb495) (o:=.cells #[.int .i64 t491,.slice Ao31 t492.length co31] 29 (0,0)) (by (with_reducible repeat (first | refine zz6 ?_ _ | refine zz7 ?_ | refine zz8 ?_ _));exact BK495.out) hb)
        have n5_:=Aside0.mk (zz4 (by repeat first | exact HB.out | apply zz2 | apply zz0 | apply zz1 | refine zz3 ?_ GE480.out | refine zz3 ?_ GE495.out) hb)
        clear HO_9
        clear HO_496001
        clear BK480
        clear BK495
        clear HB
        have HO_9:=n0_
        have HO_496001:=n1_
        have HO504:=n2_
        have BK480:=n3_
        have BK495:=n4_
        have HB:=n5_
        clear n0_ n1_ n2_ n3_ n4_ n5_
        (try clear hb)
        (try clear hb2)
        (try clear hk)
        (try clear hi)
        (try clear ho0)
        obtain ⟨Ao46,co46,eo46⟩:=Kd.R_slice HO504.out
        (first | subst eo46 | (injection eo46 with f1_ f2_ f3_;have f4_:=f1_.symm;have f5_:=f3_.symm;clear f1_ f2_ f3_;subst f4_;subst f5_))
        refine hK.out _ _ ⟨(zz9 BK495.out 0).trans rfl,(zz9 BK495.out 1).trans rfl,(zz9 BK480.out 0).trans rfl,(zz9 BK480.out 1).trans rfl⟩ (fun hHeld=>?_)
        clear hK K
        refine norm_ (a':=?_) ?_ ?_
        rotate_left
        ·show Act.put _ (some 48) _=_
         simp only [Act.put,zz21,zz22,zz23,i64_w,i32_w]
         rfl
        refine one_ (i:=3) (N:=some 49) #[T,T,T,T,F] rfl rfl (by kernel_rfl) (by decide) (fun K hK=>?_)
        refine goes_ Try.func19 (by kernel_rfl) rfl #[.agg #[.int .i64 t491,.slice Ao31 t492.length co31],.agg #[.int .i64 t501,.slice Ao46 t502.length co46]] (by rfl) rfl rfl (by (try simp only [zz26,zz27,zz28]);first | done | rfl | (simp only [zz24,zz25];rfl) | (simp only [zz25];congr;(try simp only [decide_eq_true_eq] at *);omega)) ?_
        with_reducible refine (laws_eqParty.calls kj15 t491 _ _ t492 t501 _ _ t502 true _ ?side1 ?side2 ?side3 ?side4 A39.out).mono ?_
        (case side1=>repeat (first | exact (Kd.R_reads' HO_496001.out).2.2 | (with_reducible refine zz18 ?_ _) | (with_reducible refine zz19 ?_ _) | (with_reducible refine zz20 ?_)))
        (case side2=>exact (Kd.R_reads' HO_496001.out).2.1)
        (case side3=>repeat (first | exact (Kd.R_reads' HO504.out).2.2 | (with_reducible refine zz18 ?_ _) | (with_reducible refine zz19 ?_ _) | (with_reducible refine zz20 ?_)))
        (case side4=>exact (Kd.R_reads' HO504.out).2.1)
        rintro e w47 ⟨rfl,hb⟩
        refine ⟨_,rfl,?_⟩
        have n0_:=Aside0.mk (Kd.R_below (by (with_reducible repeat (first | apply zz12 | apply zz13 | apply zz14));exact HO_9.out) hb)
        have n1_:=Aside0.mk (Kd.R_below (by (with_reducible repeat (first | apply zz12 | apply zz13 | apply zz14));exact HO_496001.out) hb)
        have n2_:=Aside0.mk (Kd.R_below (by (with_reducible repeat (first | apply zz12 | apply zz13 | apply zz14));exact HO504.out) hb)
        have n3_:=Aside0.mk (zz11 (g:=gb480) (o:=.cells #[.int .i64 a0_0,.slice A0_1 l0_1.length c0_1] 24 (0,0)) (by (with_reducible repeat (first | refine zz6 ?_ _ | refine zz7 ?_ | refine zz8 ?_ _));exact BK480.out) hb)
        have n4_:=Aside0.mk (zz11 (g:=gb495) (o:=.cells #[.int .i64 t491,.slice Ao31 t492.length co31] 29 (0,0)) (by (with_reducible repeat (first | refine zz6 ?_ _ | refine zz7 ?_ | refine zz8 ?_ _));exact BK495.out) hb)
        have n5_:=Aside0.mk (zz4 (by repeat first | exact HB.out | apply zz2 | apply zz0 | apply zz1 | refine zz3 ?_ GE480.out | refine zz3 ?_ GE495.out) hb)
        clear HO_9
        clear HO_496001
        clear HO504
        clear BK480
        clear BK495
        clear HB
        have HO_9:=n0_
        have HO_496001:=n1_
        have HO504:=n2_
        have BK480:=n3_
        have BK495:=n4_
        have HB:=n5_
        clear n0_ n1_ n2_ n3_ n4_ n5_
        (try clear hb)
        (try clear hb2)
        (try clear hk)
        (try clear hi)
        refine hK.out _ _ ⟨(zz9 BK495.out 0).trans rfl,(zz9 BK495.out 1).trans rfl,(zz9 BK480.out 0).trans rfl,(zz9 BK480.out 1).trans rfl⟩ (fun hHeld=>?_)
        clear hK K
        refine norm_ (a':=?_) ?_ ?_
        rotate_left
        ·show Act.put _ (some 49) _=_
         simp only [Act.put,zz21,zz22,zz23,i64_w,i32_w]
         rfl
        refine pure_ (i:=4) (N:=some 50) (v:=?_) (a':=?_) #[T,T,T,T,T] rfl rfl (by kernel_rfl) (fun _ _ _ h=>h) (Or.inl ⟨by rfl,?_⟩) ?_ ?_
        rotate_left
        ·intro w'
         go_simp
         with_reducible rfl
        rotate_left
        ·simp only [Act.put,zz21,zz22,zz23,i64_w,i32_w]
         rfl
        refine done_ (by kernel_rfl) ?_
        try go_wp2_with (first | ((with_reducible refine gate_callee (f:=31) rfl ?_);refine goesL_ (some 53) rfl rfl Try.func31 (by kernel_rfl) rfl #[.slice A1 l1.length c1] rfl (by (try simp only [zz26,zz27,zz28]);first | done | rfl | (simp only [zz24,zz25];rfl) | (simp only [zz25];congr;(try simp only [decide_eq_true_eq] at *);omega)) ?_;(with_reducible refine (laws_toIntS.calls kj15 _ _ l1 t506 _ ?side1 ?side2 A41.out).mono ?_);(case side1=>repeat (first | exact (Kd.C_below HR1.out HB.out) | (with_reducible refine zz18 ?_ _) | (with_reducible refine zz19 ?_ _) | (with_reducible refine zz20 ?_)));(case side2=>exact HC1.out);rintro e w48 ⟨v507,rfl,ho0,hb⟩;refine ⟨_,rfl,?_⟩;have n0_:=Aside0.mk (Kd.R_elder' (by (with_reducible repeat (first | apply zz12 | apply zz13 | apply zz14));exact HO_9.out) (Kd.R_base ho0) hb);have n1_:=Aside0.mk (Kd.R_below (by (with_reducible repeat (first | apply zz12 | apply zz13 | apply zz14));exact HO_496001.out) hb);have n2_:=Aside0.mk (Kd.R_below (by (with_reducible repeat (first | apply zz12 | apply zz13 | apply zz14));exact HO504.out) hb);have n3_:=Aside0.mk (Kd.R_lower (Kd.R_new' ho0 (Kd.R_lt (by (with_reducible repeat (first | apply zz12 | apply zz13 | apply zz14));exact HO_9.out))) (zz5 (by repeat first | exact HB.out | apply zz2 | apply zz0 | apply zz1 | refine zz3 ?_ GE480.out | refine zz3 ?_ GE495.out)));have n4_:=Aside0.mk (zz11 (g:=gb480) (o:=.cells #[.int .i64 a0_0,.slice A0_1 l0_1.length c0_1] 24 (0,0)) (by (with_reducible repeat (first | refine zz6 ?_ _ | refine zz7 ?_ | refine zz8 ?_ _));exact BK480.out) hb);have n5_:=Aside0.mk (zz11 (g:=gb495) (o:=.cells #[.int .i64 t491,.slice Ao31 t492.length co31] 29 (0,0)) (by (with_reducible repeat (first | refine zz6 ?_ _ | refine zz7 ?_ | refine zz8 ?_ _));exact BK495.out) hb);have n6_:=Aside0.mk (zz4 (by repeat first | exact HB.out | apply zz2 | apply zz0 | apply zz1 | refine zz3 ?_ GE480.out | refine zz3 ?_ GE495.out) hb);clear HO_9;clear HO_496001;clear HO504;clear BK480;clear BK495;clear HB;have HO_9:=n0_;have HO_496001:=n1_;have HO504:=n2_;have HO508:=n3_;have BK480:=n4_;have BK495:=n5_;have HB:=n6_;clear n0_ n1_ n2_ n3_ n4_ n5_ n6_;(try clear hb);(try clear hb2);(try clear hk);(try clear hi);(try clear ho0);obtain ⟨Ao49,co49,eo49⟩:=Kd.R_slice HO508.out;subst eo49) | ((with_reducible refine gate_callee (f:=33) rfl ?_);refine goesL_ (some 54) rfl rfl Try.func33 (by kernel_rfl) rfl #[.slice Ao34 t496.length co34,.slice Ao49 t506.length co49] rfl (by (try simp only [zz26,zz27,zz28]);first | done | rfl | (simp only [zz24,zz25];rfl) | (simp only [zz25];congr;(try simp only [decide_eq_true_eq] at *);omega)) ?_;(with_reducible refine (laws_eqIntS.calls kj15 _ _ t496 _ _ t506 true _ ?side1 ?side2 ?side3 ?side4 A42.out).mono ?_);(case side1=>repeat (first | exact (Kd.R_reads' HO_9.out).2.2 | (with_reducible refine zz18 ?_ _) | (with_reducible refine zz19 ?_ _) | (with_reducible refine zz20 ?_)));(case side2=>exact (Kd.R_reads' HO_9.out).2.1);(case side3=>repeat (first | exact (Kd.R_reads' HO508.out).2.2 | (with_reducible refine zz18 ?_ _) | (with_reducible refine zz19 ?_ _) | (with_reducible refine zz20 ?_)));(case side4=>exact (Kd.R_reads' HO508.out).2.1);rintro e w' ⟨rfl,⟨nd,rfl⟩⟩;refine ⟨_,rfl,?_⟩))
        go_ret
        exact ⟨by first | rfl | (simp [errW_none,errW_some] <;> rfl) | (simp [*,errW_none,errW_some] <;> rfl),by repeat first | exact HB.out | apply zz2 | apply zz0 | apply zz1 | refine zz3 ?_ GE480.out | refine zz3 ?_ GE495.out⟩
       ·replace c43:=Bool.eq_false_iff.mpr c43
        subst c43
        have H1:(some false)=some r:=by rw [if_neg (show ¬ (false=true) by decide)] at H;exact H
        clear H
        have H:=H1
        clear H1
        obtain rfl:=Option.some.inj H
        try go_wp2
        have n0_:=Aside0.mk (zz14 HO_9.out)
        have n1_:=Aside0.mk (zz14 HO_496001.out)
        have n2_:=Aside0.mk (zz7 BK480.out)
        have n3_:=Aside0.mk (zz7 BK495.out)
        have n4_:=Aside0.mk (zz1 HB.out)
        clear HO_9
        clear HO_496001
        clear BK480
        clear BK495
        clear HB
        have HO_9:=n0_
        have HO_496001:=n1_
        have BK480:=n2_
        have BK495:=n3_
        have HB:=n4_
        clear n0_ n1_ n2_ n3_ n4_
        refine start_ (n:=5) (S:=fun w'=>w'.cell? ⟨gb495,0,none⟩=some (.int .i64 t491)∧w'.cell? ⟨gb495,1,none⟩=some (.slice Ao31 t492.length co31)∧w'.cell? ⟨gb480,0,none⟩=some (.int .i64 a0_0)∧w'.cell? ⟨gb480,1,none⟩=some (.slice A0_1 l0_1.length c0_1)) (ds:=[]) #[F,F,F,F,F] (by kernel_rfl) rfl rfl ⟨(zz9 BK495.out 0).trans rfl,(zz9 BK495.out 1).trans rfl,(zz9 BK480.out 0).trans rfl,(zz9 BK480.out 1).trans rfl⟩ (fun hHeld=>?_)
        generalize wc.drew=w50 at HO_9 HO_496001 BK480 BK495 HB hHeld ⊢
        refine take_ (i:=0) (N:=some 46) (v:=?_) (a':=?_) #[T,F,F,F,F] rfl rfl (by kernel_rfl) (fun _ _ _ h=>h) (Or.inl ⟨by rfl,?_⟩) hHeld ?_ ?_
        rotate_left
        ·rintro w' ⟨s0,s1,s2,s3⟩
         go_simp
         with_reducible rfl
        rotate_left
        ·simp only [Act.put,zz21,zz22,zz23,i64_w,i32_w]
         rfl
        refine take_ (i:=1) (N:=some 47) (v:=?_) (a':=?_) #[T,T,F,F,F] rfl rfl (by kernel_rfl) (fun _ _ _ h=>h) (Or.inl ⟨by rfl,?_⟩) hHeld ?_ ?_
        rotate_left
        ·rintro w' ⟨s0,s1,s2,s3⟩
         go_simp
         with_reducible rfl
        rotate_left
        ·simp only [Act.put,zz21,zz22,zz23,i64_w,i32_w]
         rfl
        refine one_ (i:=2) (N:=some 48) #[T,T,T,F,F] rfl rfl (by kernel_rfl) (by decide) (fun K hK=>?_)
        refine goes_ Try.func17 (by kernel_rfl) rfl #[.agg #[.int .i64 a0_0,.slice A0_1 l0_1.length c0_1]] (by rfl) rfl rfl (by (try simp only [zz26,zz27,zz28]);first | done | rfl | (simp only [zz24,zz25];rfl) | (simp only [zz25];congr;(try simp only [decide_eq_true_eq] at *);omega)) ?_
        with_reducible refine (laws_toParty.calls kj15 a0_0 _ _ l0_1 t501 t502 _ ?side1 ?side2 A38.out).mono ?_
        (case side1=>repeat (first | exact (Kd.C_below HR0_1.out HB.out) | (with_reducible refine zz18 ?_ _) | (with_reducible refine zz19 ?_ _) | (with_reducible refine zz20 ?_)))
        (case side2=>exact HC0_1.out)
        rintro e w51 ⟨v503,rfl,ho0,hb⟩
        refine ⟨_,rfl,?_⟩
        have n0_:=Aside0.mk (Kd.R_below (by (with_reducible repeat (first | apply zz12 | apply zz13 | apply zz14));exact HO_9.out) hb)
        have n1_:=Aside0.mk (Kd.R_elder' (by (with_reducible repeat (first | apply zz12 | apply zz13 | apply zz14));exact HO_496001.out) (Kd.R_base ho0) hb)
        have n2_:=Aside0.mk (Kd.R_lower (Kd.R_new' ho0 (Kd.R_lt (by (with_reducible repeat (first | apply zz12 | apply zz13 | apply zz14));exact HO_496001.out))) (zz5 (by repeat first | exact HB.out | apply zz2 | apply zz0 | apply zz1 | refine zz3 ?_ GE480.out | refine zz3 ?_ GE495.out)))
        have n3_:=Aside0.mk (zz11 (g:=gb480) (o:=.cells #[.int .i64 a0_0,.slice A0_1 l0_1.length c0_1] 24 (0,0)) (by (with_reducible repeat (first | refine zz6 ?_ _ | refine zz7 ?_ | refine zz8 ?_ _));exact BK480.out) hb)
        have n4_:=Aside0.mk (zz11 (g:=gb495) (o:=.cells #[.int .i64 t491,.slice Ao31 t492.length co31] 29 (0,0)) (by (with_reducible repeat (first | refine zz6 ?_ _ | refine zz7 ?_ | refine zz8 ?_ _));exact BK495.out) hb)
        have n5_:=Aside0.mk (zz4 (by repeat first | exact HB.out | apply zz2 | apply zz0 | apply zz1 | refine zz3 ?_ GE480.out | refine zz3 ?_ GE495.out) hb)
        clear HO_9
        clear HO_496001
        clear BK480
        clear BK495
        clear HB
        have HO_9:=n0_
        have HO_496001:=n1_
        have HO504:=n2_
        have BK480:=n3_
        have BK495:=n4_
        have HB:=n5_
        clear n0_ n1_ n2_ n3_ n4_ n5_
        (try clear hb)
        (try clear hb2)
        (try clear hk)
        (try clear hi)
        (try clear ho0)
        obtain ⟨Ao52,co52,eo52⟩:=Kd.R_slice HO504.out
        (first | subst eo52 | (injection eo52 with f1_ f2_ f3_;have f4_:=f1_.symm;have f5_:=f3_.symm;clear f1_ f2_ f3_;subst f4_;subst f5_))
        refine hK.out _ _ ⟨(zz9 BK495.out 0).trans rfl,(zz9 BK495.out 1).trans rfl,(zz9 BK480.out 0).trans rfl,(zz9 BK480.out 1).trans rfl⟩ (fun hHeld=>?_)
        clear hK K
        refine norm_ (a':=?_) ?_ ?_
        rotate_left
        ·show Act.put _ (some 48) _=_
         simp only [Act.put,zz21,zz22,zz23,i64_w,i32_w]
         rfl
        refine one_ (i:=3) (N:=some 49) #[T,T,T,T,F] rfl rfl (by kernel_rfl) (by decide) (fun K hK=>?_)
        refine goes_ Try.func19 (by kernel_rfl) rfl #[.agg #[.int .i64 t491,.slice Ao31 t492.length co31],.agg #[.int .i64 t501,.slice Ao52 t502.length co52]] (by rfl) rfl rfl (by (try simp only [zz26,zz27,zz28]);first | done | rfl | (simp only [zz24,zz25];rfl) | (simp only [zz25];congr;(try simp only [decide_eq_true_eq] at *);omega)) ?_
        with_reducible refine (laws_eqParty.calls kj15 t491 _ _ t492 t501 _ _ t502 true _ ?side1 ?side2 ?side3 ?side4 A39.out).mono ?_
        (case side1=>repeat (first | exact (Kd.R_reads' HO_496001.out).2.2 | (with_reducible refine zz18 ?_ _) | (with_reducible refine zz19 ?_ _) | (with_reducible refine zz20 ?_)))
        (case side2=>exact (Kd.R_reads' HO_496001.out).2.1)
        (case side3=>repeat (first | exact (Kd.R_reads' HO504.out).2.2 | (with_reducible refine zz18 ?_ _) | (with_reducible refine zz19 ?_ _) | (with_reducible refine zz20 ?_)))
        (case side4=>exact (Kd.R_reads' HO504.out).2.1)
        rintro e w53 ⟨rfl,hb⟩
        refine ⟨_,rfl,?_⟩
        have n0_:=Aside0.mk (Kd.R_below (by (with_reducible repeat (first | apply zz12 | apply zz13 | apply zz14));exact HO_9.out) hb)
        have n1_:=Aside0.mk (Kd.R_below (by (with_reducible repeat (first | apply zz12 | apply zz13 | apply zz14));exact HO_496001.out) hb)
        have n2_:=Aside0.mk (Kd.R_below (by (with_reducible repeat (first | apply zz12 | apply zz13 | apply zz14));exact HO504.out) hb)
        have n3_:=Aside0.mk (zz11 (g:=gb480) (o:=.cells #[.int .i64 a0_0,.slice A0_1 l0_1.length c0_1] 24 (0,0)) (by (with_reducible repeat (first | refine zz6 ?_ _ | refine zz7 ?_ | refine zz8 ?_ _));exact BK480.out) hb)
        have n4_:=Aside0.mk (zz11 (g:=gb495) (o:=.cells #[.int .i64 t491,.slice Ao31 t492.length co31] 29 (0,0)) (by (with_reducible repeat (first | refine zz6 ?_ _ | refine zz7 ?_ | refine zz8 ?_ _));exact BK495.out) hb)
        have n5_:=Aside0.mk (zz4 (by repeat first | exact HB.out | apply zz2 | apply zz0 | apply zz1 | refine zz3 ?_ GE480.out | refine zz3 ?_ GE495.out) hb)
        clear HO_9
        clear HO_496001
        clear HO504
        clear BK480
        clear BK495
        clear HB
        have HO_9:=n0_
        have HO_496001:=n1_
        have HO504:=n2_
        have BK480:=n3_
        have BK495:=n4_
        have HB:=n5_
        clear n0_ n1_ n2_ n3_ n4_ n5_
        (try clear hb)
        (try clear hb2)
        (try clear hk)
        (try clear hi)
        refine hK.out _ _ ⟨(zz9 BK495.out 0).trans rfl,(zz9 BK495.out 1).trans rfl,(zz9 BK480.out 0).trans rfl,(zz9 BK480.out 1).trans rfl⟩ (fun hHeld=>?_)
        clear hK K
        refine norm_ (a':=?_) ?_ ?_
        rotate_left
        ·show Act.put _ (some 49) _=_
         simp only [Act.put,zz21,zz22,zz23,i64_w,i32_w]
         rfl
        refine pure_ (i:=4) (N:=some 50) (v:=?_) (a':=?_) #[T,T,T,T,T] rfl rfl (by kernel_rfl) (fun _ _ _ h=>h) (Or.inl ⟨by rfl,?_⟩) ?_ ?_
        rotate_left
        ·intro w'
         go_simp
         with_reducible rfl
        rotate_left
        ·simp only [Act.put,zz21,zz22,zz23,i64_w,i32_w]
         rfl
        refine done_ (by kernel_rfl) ?_
        try go_wp2_with (first | ((with_reducible refine gate_callee (f:=31) rfl ?_);refine goesL_ (some 53) rfl rfl Try.func31 (by kernel_rfl) rfl #[.slice A1 l1.length c1] rfl (by (try simp only [zz26,zz27,zz28]);first | done | rfl | (simp only [zz24,zz25];rfl) | (simp only [zz25];congr;(try simp only [decide_eq_true_eq] at *);omega)) ?_;(with_reducible refine (laws_toIntS.calls kj15 _ _ l1 t506 _ ?side1 ?side2 A41.out).mono ?_);(case side1=>repeat (first | exact (Kd.C_below HR1.out HB.out) | (with_reducible refine zz18 ?_ _) | (with_reducible refine zz19 ?_ _) | (with_reducible refine zz20 ?_)));(case side2=>exact HC1.out);rintro e w54 ⟨v507,rfl,ho0,hb⟩;refine ⟨_,rfl,?_⟩;have n0_:=Aside0.mk (Kd.R_elder' (by (with_reducible repeat (first | apply zz12 | apply zz13 | apply zz14));exact HO_9.out) (Kd.R_base ho0) hb);have n1_:=Aside0.mk (Kd.R_below (by (with_reducible repeat (first | apply zz12 | apply zz13 | apply zz14));exact HO_496001.out) hb);have n2_:=Aside0.mk (Kd.R_below (by (with_reducible repeat (first | apply zz12 | apply zz13 | apply zz14));exact HO504.out) hb);have n3_:=Aside0.mk (Kd.R_lower (Kd.R_new' ho0 (Kd.R_lt (by (with_reducible repeat (first | apply zz12 | apply zz13 | apply zz14));exact HO_9.out))) (zz5 (by repeat first | exact HB.out | apply zz2 | apply zz0 | apply zz1 | refine zz3 ?_ GE480.out | refine zz3 ?_ GE495.out)));have n4_:=Aside0.mk (zz11 (g:=gb480) (o:=.cells #[.int .i64 a0_0,.slice A0_1 l0_1.length c0_1] 24 (0,0)) (by (with_reducible repeat (first | refine zz6 ?_ _ | refine zz7 ?_ | refine zz8 ?_ _));exact BK480.out) hb);have n5_:=Aside0.mk (zz11 (g:=gb495) (o:=.cells #[.int .i64 t491,.slice Ao31 t492.length co31] 29 (0,0)) (by (with_reducible repeat (first | refine zz6 ?_ _ | refine zz7 ?_ | refine zz8 ?_ _));exact BK495.out) hb);have n6_:=Aside0.mk (zz4 (by repeat first | exact HB.out | apply zz2 | apply zz0 | apply zz1 | refine zz3 ?_ GE480.out | refine zz3 ?_ GE495.out) hb);clear HO_9;clear HO_496001;clear HO504;clear BK480;clear BK495;clear HB;have HO_9:=n0_;have HO_496001:=n1_;have HO504:=n2_;have HO508:=n3_;have BK480:=n4_;have BK495:=n5_;have HB:=n6_;clear n0_ n1_ n2_ n3_ n4_ n5_ n6_;(try clear hb);(try clear hb2);(try clear hk);(try clear hi);(try clear ho0);obtain ⟨Ao55,co55,eo55⟩:=Kd.R_slice HO508.out;subst eo55) | ((with_reducible refine gate_callee (f:=33) rfl ?_);refine goesL_ (some 54) rfl rfl Try.func33 (by kernel_rfl) rfl #[.slice Ao34 t496.length co34,.slice Ao55 t506.length co55] rfl (by (try simp only [zz26,zz27,zz28]);first | done | rfl | (simp only [zz24,zz25];rfl) | (simp only [zz25];congr;(try simp only [decide_eq_true_eq] at *);omega)) ?_;(with_reducible refine (laws_eqIntS.calls kj15 _ _ t496 _ _ t506 false _ ?side1 ?side2 ?side3 ?side4 A42.out).mono ?_);(case side1=>repeat (first | exact (Kd.R_reads' HO_9.out).2.2 | (with_reducible refine zz18 ?_ _) | (with_reducible refine zz19 ?_ _) | (with_reducible refine zz20 ?_)));(case side2=>exact (Kd.R_reads' HO_9.out).2.1);(case side3=>repeat (first | exact (Kd.R_reads' HO508.out).2.2 | (with_reducible refine zz18 ?_ _) | (with_reducible refine zz19 ?_ _) | (with_reducible refine zz20 ?_)));(case side4=>exact (Kd.R_reads' HO508.out).2.1);rintro e w' ⟨rfl,⟨nd,rfl⟩⟩;refine ⟨_,rfl,?_⟩))
        go_ret
        exact ⟨by first | rfl | (simp [errW_none,errW_some] <;> rfl) | (simp [*,errW_none,errW_some] <;> rfl),by repeat first | exact HB.out | apply zz2 | apply zz0 | apply zz1 | refine zz3 ?_ GE480.out | refine zz3 ?_ GE495.out⟩
      ·replace c40:=Bool.eq_false_iff.mpr c40
       subst c40
       have H1:(some false)=some r:=by rw [if_neg (show ¬ (false=true) by decide)] at H;exact H
       clear H
       have H:=H1
       clear H1
       obtain rfl:=Option.some.inj H
       try go_wp2
       have n0_:=Aside0.mk (zz14 HO_9.out)
       have n1_:=Aside0.mk (zz14 HO_496001.out)
       have n2_:=Aside0.mk (zz7 BK480.out)
       have n3_:=Aside0.mk (zz7 BK495.out)
       have n4_:=Aside0.mk (zz1 HB.out)
       clear HO_9
       clear HO_496001
       clear BK480
       clear BK495
       clear HB
       have HO_9:=n0_
       have HO_496001:=n1_
       have BK480:=n2_
       have BK495:=n3_
       have HB:=n4_
       clear n0_ n1_ n2_ n3_ n4_
       refine start_ (n:=5) (S:=fun w'=>w'.cell? ⟨gb495,0,none⟩=some (.int .i64 t491)∧w'.cell? ⟨gb495,1,none⟩=some (.slice Ao31 t492.length co31)∧w'.cell? ⟨gb480,0,none⟩=some (.int .i64 a0_0)∧w'.cell? ⟨gb480,1,none⟩=some (.slice A0_1 l0_1.length c0_1)) (ds:=[]) #[F,F,F,F,F] (by kernel_rfl) rfl rfl ⟨(zz9 BK495.out 0).trans rfl,(zz9 BK495.out 1).trans rfl,(zz9 BK480.out 0).trans rfl,(zz9 BK480.out 1).trans rfl⟩ (fun hHeld=>?_)
       generalize wc.drew=w56 at HO_9 HO_496001 BK480 BK495 HB hHeld ⊢
       refine take_ (i:=0) (N:=some 46) (v:=?_) (a':=?_) #[T,F,F,F,F] rfl rfl (by kernel_rfl) (fun _ _ _ h=>h) (Or.inl ⟨by rfl,?_⟩) hHeld ?_ ?_
       rotate_left
       ·rintro w' ⟨s0,s1,s2,s3⟩
        go_simp
        with_reducible rfl
       rotate_left
       ·simp only [Act.put,zz21,zz22,zz23,i64_w,i32_w]
        rfl
       refine take_ (i:=1) (N:=some 47) (v:=?_) (a':=?_) #[T,T,F,F,F] rfl rfl (by kernel_rfl) (fun _ _ _ h=>h) (Or.inl ⟨by rfl,?_⟩) hHeld ?_ ?_
       rotate_left
       ·rintro w' ⟨s0,s1,s2,s3⟩
        go_simp
        with_reducible rfl
       rotate_left
       ·simp only [Act.put,zz21,zz22,zz23,i64_w,i32_w]
        rfl
       refine one_ (i:=2) (N:=some 48) #[T,T,T,F,F] rfl rfl (by kernel_rfl) (by decide) (fun K hK=>?_)
       refine goes_ Try.func17 (by kernel_rfl) rfl #[.agg #[.int .i64 a0_0,.slice A0_1 l0_1.length c0_1]] (by rfl) rfl rfl (by (try simp only [zz26,zz27,zz28]);first | done | rfl | (simp only [zz24,zz25];rfl) | (simp only [zz25];congr;(try simp only [decide_eq_true_eq] at *);omega)) ?_
       with_reducible refine (laws_toParty.calls kj15 a0_0 _ _ l0_1 t501 t502 _ ?side1 ?side2 A38.out).mono ?_
       (case side1=>repeat (first | exact (Kd.C_below HR0_1.out HB.out) | (with_reducible refine zz18 ?_ _) | (with_reducible refine zz19 ?_ _) | (with_reducible refine zz20 ?_)))
       (case side2=>exact HC0_1.out)
       rintro e w57 ⟨v503,rfl,ho0,hb⟩
       refine ⟨_,rfl,?_⟩
       have n0_:=Aside0.mk (Kd.R_below (by (with_reducible repeat (first | apply zz12 | apply zz13 | apply zz14));exact HO_9.out) hb)
       have n1_:=Aside0.mk (Kd.R_elder' (by (with_reducible repeat (first | apply zz12 | apply zz13 | apply zz14));exact HO_496001.out) (Kd.R_base ho0) hb)
       have n2_:=Aside0.mk (Kd.R_lower (Kd.R_new' ho0 (Kd.R_lt (by (with_reducible repeat (first | apply zz12 | apply zz13 | apply zz14));exact HO_496001.out))) (zz5 (by repeat first | exact HB.out | apply zz2 | apply zz0 | apply zz1 | refine zz3 ?_ GE480.out | refine zz3 ?_ GE495.out)))
       have n3_:=Aside0.mk (zz11 (g:=gb480) (o:=.cells #[.int .i64 a0_0,.slice A0_1 l0_1.length c0_1] 24 (0,0)) (by (with_reducible repeat (first | refine zz6 ?_ _ | refine zz7 ?_ | refine zz8 ?_ _));exact BK480.out) hb)
       have n4_:=Aside0.mk (zz11 (g:=gb495) (o:=.cells #[.int .i64 t491,.slice Ao31 t492.length co31] 29 (0,0)) (by (with_reducible repeat (first | refine zz6 ?_ _ | refine zz7 ?_ | refine zz8 ?_ _));exact BK495.out) hb)
       have n5_:=Aside0.mk (zz4 (by repeat first | exact HB.out | apply zz2 | apply zz0 | apply zz1 | refine zz3 ?_ GE480.out | refine zz3 ?_ GE495.out) hb)
       clear HO_9
       clear HO_496001
       clear BK480
       clear BK495
       clear HB
       have HO_9:=n0_
       have HO_496001:=n1_
       have HO504:=n2_
       have BK480:=n3_
       have BK495:=n4_
       have HB:=n5_
       clear n0_ n1_ n2_ n3_ n4_ n5_
       (try clear hb)
       (try clear hb2)
       (try clear hk)
       (try clear hi)
       (try clear ho0)
       obtain ⟨Ao58,co58,eo58⟩:=Kd.R_slice HO504.out
       (first | subst eo58 | (injection eo58 with f1_ f2_ f3_;have f4_:=f1_.symm;have f5_:=f3_.symm;clear f1_ f2_ f3_;subst f4_;subst f5_))
       refine hK.out _ _ ⟨(zz9 BK495.out 0).trans rfl,(zz9 BK495.out 1).trans rfl,(zz9 BK480.out 0).trans rfl,(zz9 BK480.out 1).trans rfl⟩ (fun hHeld=>?_)
       clear hK K
       refine norm_ (a':=?_) ?_ ?_
       rotate_left
       ·show Act.put _ (some 48) _=_
        simp only [Act.put,zz21,zz22,zz23,i64_w,i32_w]
        rfl
       refine one_ (i:=3) (N:=some 49) #[T,T,T,T,F] rfl rfl (by kernel_rfl) (by decide) (fun K hK=>?_)
       refine goes_ Try.func19 (by kernel_rfl) rfl #[.agg #[.int .i64 t491,.slice Ao31 t492.length co31],.agg #[.int .i64 t501,.slice Ao58 t502.length co58]] (by rfl) rfl rfl (by (try simp only [zz26,zz27,zz28]);first | done | rfl | (simp only [zz24,zz25];rfl) | (simp only [zz25];congr;(try simp only [decide_eq_true_eq] at *);omega)) ?_
       with_reducible refine (laws_eqParty.calls kj15 t491 _ _ t492 t501 _ _ t502 false _ ?side1 ?side2 ?side3 ?side4 A39.out).mono ?_
       (case side1=>repeat (first | exact (Kd.R_reads' HO_496001.out).2.2 | (with_reducible refine zz18 ?_ _) | (with_reducible refine zz19 ?_ _) | (with_reducible refine zz20 ?_)))
       (case side2=>exact (Kd.R_reads' HO_496001.out).2.1)
       (case side3=>repeat (first | exact (Kd.R_reads' HO504.out).2.2 | (with_reducible refine zz18 ?_ _) | (with_reducible refine zz19 ?_ _) | (with_reducible refine zz20 ?_)))
       (case side4=>exact (Kd.R_reads' HO504.out).2.1)
       rintro e w59 ⟨rfl,hb⟩
       refine ⟨_,rfl,?_⟩
       have n0_:=Aside0.mk (Kd.R_below (by (with_reducible repeat (first | apply zz12 | apply zz13 | apply zz14));exact HO_9.out) hb)
       have n1_:=Aside0.mk (Kd.R_below (by (with_reducible repeat (first | apply zz12 | apply zz13 | apply zz14));exact HO_496001.out) hb)
       have n2_:=Aside0.mk (Kd.R_below (by (with_reducible repeat (first | apply zz12 | apply zz13 | apply zz14));exact HO504.out) hb)
       have n3_:=Aside0.mk (zz11 (g:=gb480) (o:=.cells #[.int .i64 a0_0,.slice A0_1 l0_1.length c0_1] 24 (0,0)) (by (with_reducible repeat (first | refine zz6 ?_ _ | refine zz7 ?_ | refine zz8 ?_ _));exact BK480.out) hb)
       have n4_:=Aside0.mk (zz11 (g:=gb495) (o:=.cells #[.int .i64 t491,.slice Ao31 t492.length co31] 29 (0,0)) (by (with_reducible repeat (first | refine zz6 ?_ _ | refine zz7 ?_ | refine zz8 ?_ _));exact BK495.out) hb)
       have n5_:=Aside0.mk (zz4 (by repeat first | exact HB.out | apply zz2 | apply zz0 | apply zz1 | refine zz3 ?_ GE480.out | refine zz3 ?_ GE495.out) hb)
       clear HO_9
       clear HO_496001
       clear HO504
       clear BK480
       clear BK495
       clear HB
       have HO_9:=n0_
       have HO_496001:=n1_
       have HO504:=n2_
       have BK480:=n3_
       have BK495:=n4_
       have HB:=n5_
       clear n0_ n1_ n2_ n3_ n4_ n5_
       (try clear hb)
       (try clear hb2)
       (try clear hk)
       (try clear hi)
       refine hK.out _ _ ⟨(zz9 BK495.out 0).trans rfl,(zz9 BK495.out 1).trans rfl,(zz9 BK480.out 0).trans rfl,(zz9 BK480.out 1).trans rfl⟩ (fun hHeld=>?_)
       clear hK K
       refine norm_ (a':=?_) ?_ ?_
       rotate_left
       ·show Act.put _ (some 49) _=_
        simp only [Act.put,zz21,zz22,zz23,i64_w,i32_w]
        rfl
       refine pure_ (i:=4) (N:=some 50) (v:=?_) (a':=?_) #[T,T,T,T,T] rfl rfl (by kernel_rfl) (fun _ _ _ h=>h) (Or.inl ⟨by rfl,?_⟩) ?_ ?_
       rotate_left
       ·intro w'
        go_simp
        with_reducible rfl
       rotate_left
       ·simp only [Act.put,zz21,zz22,zz23,i64_w,i32_w]
        rfl
       refine done_ (by kernel_rfl) ?_
       try go_wp2
       go_ret
       exact ⟨by first | rfl | (simp [errW_none,errW_some] <;> rfl) | (simp [*,errW_none,errW_some] <;> rfl),by repeat first | exact HB.out | apply zz2 | apply zz0 | apply zz1 | refine zz3 ?_ GE480.out | refine zz3 ?_ GE495.out⟩

end Go.Proofs.Ytiopgbpjkjnphaa.P
