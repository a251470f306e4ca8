-- PRINTED by print.py (a twelfth state) out of the translation. Not trusted: Lean checks it.
import Derived.Test.YtoedkkoafidalaaPx0
import Derived.Test.YtoedkkoafidalaaPx3
import Derived.Test.YtoedkkoafidalaaPx4
import Derived.Test.YtoedkkoafidalaaPx5
namespace Go.Proofs.Ytoedkkoafidalaa.P
open Go.RowKit Go.Proofs.YtoedkkoafidalaaW.PrintWords Go.Proofs.YtoedkkoafidalaaW.PrintLast Go.Proofs.YtoedkkoafidalaaW.PrintMore
open Bool renaming true → T, false → F
attribute [local go_sem] max2_int min2_int max_two min_two max_three min_three max_four min_four   -- for this text's walks alone
set_option linter.unusedVariables false
set_option linter.unusedSimpArgs false

/-! ### spec_AllExchanges: function 24 -/
mutual
def spec_AllExchanges.l0:Nat→List (S30)→List (S70)→Int→Int→Int→List (S70)→Option ((List (S30)) × Bool)
 | 0,_,_,_,_,_,_=>none
 | k+1,x4,x17,x18,x19,x234000,x234001=>if x19 < x18 then (if 0≤x19 then (if x19 < (x17.length:Int) then (spec_AllExchanges.l1 k x4 x17 x18 x19 x234001 (x234001.length:Int) 0 x234000 x234001 ((rd_T70 x17 x19).f0) ((rd_T70 x17 x19).f1)) else (none)) else (none)) else (some (x4,true))
def spec_AllExchanges.l1:Nat→List (S30)→List (S70)→Int→Int→List (S70)→Int→Int→Int→List (S70)→Int→Int→Option ((List (S30)) × Bool)
 | 0,_,_,_,_,_,_,_,_,_,_,_=>none
 | k+1,x4,x17,x18,x19,x24,x25,x26,x234000,x234001,x237000,x237001=>if x26 < x25 then (if 0≤x26 then (if x26 < (x24.length:Int) then ((some (([(⟨(rd_T70 x24 x26).f0,(rd_T70 x24 x26).f1⟩:S70),(⟨(rd_T70 x24 x26).f1,(rd_T70 x24 x26).f0⟩:S70)]:List (S70)):List (S70))).bind fun y239=>(spec_AllExchanges.l2 k x4 x17 x18 x19 x24 x25 x26 y239 (y239.length:Int) 0 x234000 x234001 x237000 x237001)) else (none)) else (none)) else (spec_AllExchanges.l0 k x4 x17 x18 (wrap64 (x19+1)) x234000 x234001)
def spec_AllExchanges.l2:Nat→List (S30)→List (S70)→Int→Int→List (S70)→Int→Int→List (S70)→Int→Int→Int→List (S70)→Int→Int→Option ((List (S30)) × Bool)
 | 0,_,_,_,_,_,_,_,_,_,_,_,_,_,_=>none
 | k+1,x4,x17,x18,x19,x24,x25,x26,x40,x41,x42,x234000,x234001,x237000,x237001=>if x42 < x41 then (if 0≤x42 then (if x42 < (x40.length:Int) then ((spec_deExchange.f k x234000 x234001 x237000 x237001 ((rd_T70 x40 x42).f0) ((rd_T70 x40 x42).f1)).bind fun bt244=>(if bt244.2.2=true then ((spec_dePut.f k x4 bt244.1 bt244.2.1).bind fun t250=>(spec_AllExchanges.l2 k t250 x17 x18 x19 x24 x25 x26 x40 x41 (wrap64 (x42+1)) x234000 x234001 x237000 x237001)) else (spec_AllExchanges.l2 k x4 x17 x18 x19 x24 x25 x26 x40 x41 (wrap64 (x42+1)) x234000 x234001 x237000 x237001))) else (none)) else (none)) else (spec_AllExchanges.l1 k x4 x17 x18 x19 x24 x25 (wrap64 (x26+1)) x234000 x234001 x237000 x237001)
end
def spec_AllExchanges.f (k:Nat) (a0_0:Int) (l0_1:List (S70)):Option ((List (S30)) × Bool):=(spec_paGood.f k a0_0 l0_1).bind fun t234=>(if t234=true then (spec_AllExchanges.l0 k ([]:List (S30)) l0_1 (l0_1.length:Int) 0 a0_0 l0_1) else (some (([]:List (S30)),false)))
theorem spec_AllExchanges.mono_l:∀ k,(∀ y0 y1 y2 y3 y4 y5,LeO (spec_AllExchanges.l0 k y0 y1 y2 y3 y4 y5) (spec_AllExchanges.l0 (k+1) y0 y1 y2 y3 y4 y5))∧(∀ y0 y1 y2 y3 y4 y5 y6 y7 y8 y9 y10,LeO (spec_AllExchanges.l1 k y0 y1 y2 y3 y4 y5 y6 y7 y8 y9 y10) (spec_AllExchanges.l1 (k+1) y0 y1 y2 y3 y4 y5 y6 y7 y8 y9 y10))∧(∀ y0 y1 y2 y3 y4 y5 y6 y7 y8 y9 y10 y11 y12 y13,LeO (spec_AllExchanges.l2 k y0 y1 y2 y3 y4 y5 y6 y7 y8 y9 y10 y11 y12 y13) (spec_AllExchanges.l2 (k+1) y0 y1 y2 y3 y4 y5 y6 y7 y8 y9 y10 y11 y12 y13))
 | 0=>⟨fun _ _ _ _ _ _ r h=>by simp [spec_AllExchanges.l0] at h,fun _ _ _ _ _ _ _ _ _ _ _ r h=>by simp [spec_AllExchanges.l1] at h,fun _ _ _ _ _ _ _ _ _ _ _ _ _ _ r h=>by simp [spec_AllExchanges.l2] at h⟩
 | k+1=>by
  obtain ⟨ih0,ih1,ih2⟩:=spec_AllExchanges.mono_l k
  refine ⟨?_,?_,?_⟩
  ·intro y0 y1 y2 y3 y4 y5
   unfold spec_AllExchanges.l0
   repeat' first
   | (with_reducible exact ih0 _ _ _ _ _ _)
   | (with_reducible exact ih1 _ _ _ _ _ _ _ _ _ _ _)
   | (with_reducible exact ih2 _ _ _ _ _ _ _ _ _ _ _ _ _ _)
   | (with_reducible exact spec_deExchange.mono _ _ _ _ _ _ _)
   | (with_reducible exact spec_dePut.mono _ _ _ _)
   | (with_reducible exact spec_paGood.mono _ _ _)
   | (with_reducible exact LeO.refl _)
   | (with_reducible exact LeO.none _)
   | (with_reducible refine LeO.ite ?_ ?_)
   | (with_reducible refine LeO.bind ?_ (fun _=>?_))
   | exact ih0 _ _ _ _ _ _
   | exact ih1 _ _ _ _ _ _ _ _ _ _ _
   | exact ih2 _ _ _ _ _ _ _ _ _ _ _ _ _ _
   | exact spec_deExchange.mono _ _ _ _ _ _ _
   | exact spec_dePut.mono _ _ _ _
   | exact spec_paGood.mono _ _ _
   | exact LeO.none _
   | refine LeO.ite ?_ ?_
   | refine LeO.bind ?_ (fun _=>?_)
  ·intro y0 y1 y2 y3 y4 y5 y6 y7 y8 y9 y10
   unfold spec_AllExchanges.l1
   repeat' first
   | (with_reducible exact ih0 _ _ _ _ _ _)
   | (with_reducible exact ih1 _ _ _ _ _ _ _ _ _ _ _)
   | (with_reducible exact ih2 _ _ _ _ _ _ _ _ _ _ _ _ _ _)
   | (with_reducible exact spec_deExchange.mono _ _ _ _ _ _ _)
   | (with_reducible exact spec_dePut.mono _ _ _ _)
   | (with_reducible exact spec_paGood.mono _ _ _)
   | (with_reducible exact LeO.refl _)
   | (with_reducible exact LeO.none _)
   | (with_reducible refine LeO.ite ?_ ?_)
   | (with_reducible refine LeO.bind ?_ (fun _=>?_))
   | exact ih0 _ _ _ _ _ _
   | exact ih1 _ _ _ _ _ _ _ _ _ _ _
   | exact ih2 _ _ _ _ _ _ _ _ _ _ _ _ _ _
   | exact spec_deExchange.mono _ _ _ _ _ _ _
   | exact spec_dePut.mono _ _ _ _
   | exact spec_paGood.mono _ _ _
   | exact LeO.none _
   | refine LeO.ite ?_ ?_
   | refine LeO.bind ?_ (fun _=>?_)
  ·intro y0 y1 y2 y3 y4 y5 y6 y7 y8 y9 y10 y11 y12 y13
   unfold spec_AllExchanges.l2
   repeat' first
   | (with_reducible exact ih0 _ _ _ _ _ _)
   | (with_reducible exact ih1 _ _ _ _ _ _ _ _ _ _ _)
   | (with_reducible exact ih2 _ _ _ _ _ _ _ _ _ _ _ _ _ _)
   | (with_reducible exact spec_deExchange.mono _ _ _ _ _ _ _)
   | (with_reducible exact spec_dePut.mono _ _ _ _)
   | (with_reducible exact spec_paGood.mono _ _ _)
   | (with_reducible exact LeO.refl _)
   | (with_reducible exact LeO.none _)
   | (with_reducible refine LeO.ite ?_ ?_)
   | (with_reducible refine LeO.bind ?_ (fun _=>?_))
   | exact ih0 _ _ _ _ _ _
   | exact ih1 _ _ _ _ _ _ _ _ _ _ _
   | exact ih2 _ _ _ _ _ _ _ _ _ _ _ _ _ _
   | exact spec_deExchange.mono _ _ _ _ _ _ _
   | exact spec_dePut.mono _ _ _ _
   | exact spec_paGood.mono _ _ _
   | exact LeO.none _
   | refine LeO.ite ?_ ?_
   | refine LeO.bind ?_ (fun _=>?_)
theorem spec_AllExchanges.mono:∀ a0 a1 k,LeO (spec_AllExchanges.f k a0 a1) (spec_AllExchanges.f (k+1) a0 a1):=by
 intro a0 a1 k
 obtain ⟨ih0,ih1,ih2⟩:=spec_AllExchanges.mono_l k
 unfold spec_AllExchanges.f
 repeat' first
   | (with_reducible exact ih0 _ _ _ _ _ _)
   | (with_reducible exact ih1 _ _ _ _ _ _ _ _ _ _ _)
   | (with_reducible exact ih2 _ _ _ _ _ _ _ _ _ _ _ _ _ _)
   | (with_reducible exact spec_deExchange.mono _ _ _ _ _ _ _)
   | (with_reducible exact spec_dePut.mono _ _ _ _)
   | (with_reducible exact spec_paGood.mono _ _ _)
   | (with_reducible exact LeO.refl _)
   | (with_reducible exact LeO.none _)
   | (with_reducible refine LeO.ite ?_ ?_)
   | (with_reducible refine LeO.bind ?_ (fun _=>?_))
   | exact ih0 _ _ _ _ _ _
   | exact ih1 _ _ _ _ _ _ _ _ _ _ _
   | exact ih2 _ _ _ _ _ _ _ _ _ _ _ _ _ _
   | exact spec_deExchange.mono _ _ _ _ _ _ _
   | exact spec_dePut.mono _ _ _ _
   | exact spec_paGood.mono _ _ _
   | exact LeO.none _
   | refine LeO.ite ?_ ?_
   | refine LeO.bind ?_ (fun _=>?_)
set_option maxHeartbeats 8000000 in
set_option maxRecDepth 100000 in
theorem spec_AllExchanges.calls (k:Nat) (a0_0:Int) (A0_1:Option Addr) (c0_1:Nat) (l0_1:List (S70)) (r1:List (S30)) (r2:Bool) (w:World) (hr0_1:Kd.C k70 w A0_1 l0_1.length l0_1) (hc0_1:l0_1.length≤c0_1) (h:spec_AllExchanges.f k a0_0 l0_1=some (r1,r2)) :
  Calls Try.prog 24 #[.agg #[.int .i64 a0_0,.slice A0_1 l0_1.length c0_1]] w fun e w'=>∃ v0_:Value,e=.returned (.tuple #[v0_,.bool r2])∧Kd.V k30 30 w' w.heap.size (fun k_=>(w.heap.size≤k_)) v0_ r1∧Below w.heap.size w w':=by
 have hu30:=Try.underlying30
 have hu70:=Try.underlying70
 have HR0_1:=zz31 hr0_1
 have HC0_1:=zz31 hc0_1
 clear hr0_1 hc0_1
 have HB:=zz31 (Below.refl w.heap.size w)
 have H:((spec_paGood.f k a0_0 l0_1).bind fun t234=>(if t234=true then (spec_AllExchanges.l0 k ([]:List (S30)) l0_1 (l0_1.length:Int) 0 a0_0 l0_1) else (some (([]:List (S30)),false))))=some (r1,r2):=h
 clear h
 replace H:=zz30.mp H
 obtain ⟨t234,A20,H⟩:=H
 replace H:(if t234=true then (spec_AllExchanges.l0 k ([]:List (S30)) l0_1 (l0_1.length:Int) 0 a0_0 l0_1) else (some (([]:List (S30)),false)))=some (r1,r2):=H
 have A2:=zz31 A20
 clear A20
 by_cases c3:t234=true
 ·subst c3
  have H1:(spec_AllExchanges.l0 k ([]:List (S30)) l0_1 (l0_1.length:Int) 0 a0_0 l0_1)=some (r1,r2):=by rw [if_pos rfl] at H;exact H
  clear H
  have H:=H1
  clear H1
  have H':=zz31 H
  clear H
  go_enter Try.func24,Try.ntmps24
  go_wp2_with (first | ((with_reducible refine gate_dst (N:=1) rfl ?_);refine box_event ?hg (N:=1) ?hd (cs:=#[.int .i64 a0_0,.slice A0_1 l0_1.length c0_1]) (t:=30) ?hr ?_;(case hd=>rfl);(case hg=>rfl);(case hr=>first | (go_simp;done) | (go_simp;rfl));intro gb233 hg w4 hbox hb;have BK233:=zz31 (hbox);have GW233:=zz31 ((by rw [hg];exact (zz5 (by repeat first | exact HB.out | apply zz2 | apply zz0 | apply zz1)):w.heap.size≤gb233));replace HB:=zz31 (zz4 (by repeat first | exact HB.out | apply zz2 | apply zz0 | apply zz1) hb);have GE233:=GW233;clear hb hbox hg;have hcz5_0:w4.cell? ⟨gb233,0,none⟩=some (.int .i64 a0_0):=(zz9 BK233.out 0).trans rfl;have hcz5_1:w4.cell? ⟨gb233,1,none⟩=some (.slice A0_1 l0_1.length c0_1):=(zz9 BK233.out 1).trans rfl;have hfz5_0:=zz10 BK233.out 0;have hfz5_1:=zz10 BK233.out 1) | ((with_reducible refine gate_callee (f:=46) rfl ?_);refine goesL_ (some 14) rfl rfl Try.func46 (by kernel_rfl) rfl #[.agg #[.int .i64 a0_0,.slice A0_1 l0_1.length c0_1]] rfl (by (try simp only [zz26,zz27,zz28]);first | done | rfl | (simp only [zz24,zz25];rfl)) ?_;(with_reducible refine (spec_paGood.calls k a0_0 _ _ l0_1 true _ ?side1 ?side2 A2.out).mono ?_);(case side1=>repeat (first | exact (Kd.C_below HR0_1.out HB.out) | (with_reducible refine zz18 ?_ _) | (with_reducible refine zz19 ?_ _) | (with_reducible refine zz20 ?_)));(case side2=>exact HC0_1.out);rintro e w6 ⟨rfl,hb⟩;refine ⟨_,rfl,?_⟩;replace BK233:=zz31 (zz11 (g:=gb233) (o:=.cells #[.int .i64 a0_0,.slice A0_1 l0_1.length c0_1] 30 (0,0)) (by (with_reducible repeat (first | refine zz6 ?_ _ | refine zz7 ?_ | refine zz8 ?_ _));exact BK233.out) hb);replace HB:=zz31 (zz4 (by repeat first | exact HB.out | apply zz2 | apply zz0 | apply zz1 | refine zz3 ?_ GE233.out) hb);(try clear hb);(try clear hb2);(try clear hk);(try clear hi);have hcz7_0:w6.cell? ⟨gb233,0,none⟩=some (.int .i64 a0_0):=(zz9 BK233.out 0).trans rfl;have hcz7_1:w6.cell? ⟨gb233,1,none⟩=some (.slice A0_1 l0_1.length c0_1):=(zz9 BK233.out 1).trans rfl;have hfz7_0:=zz10 BK233.out 0;have hfz7_1:=zz10 BK233.out 1))
  go_loopg [4,19] k (fun kq v4 v19 w'=>∃ (x4_1:List (S30)) (x19_1:Int),v19=.int .i64 x19_1∧Aside0 (spec_AllExchanges.l0 kq x4_1 l0_1 (l0_1.length:Int) x19_1 a0_0 l0_1=some (r1,r2))∧Aside0 (kq≤k)∧Aside0 (Kd.V k30 30 w' w.heap.size (fun k_=>(w.heap.size≤k_)∧k_ ≠ gb233) v4 x4_1)∧Aside0 (w'.heap[gb233]?=some (.cells #[.int .i64 a0_0,(.slice A0_1 l0_1.length c0_1)] 30 (0,0)))∧Aside0 (Below w.heap.size w w'))
  case atStart=>exact ⟨(([]:List (S30))),(0),(by first | rfl | (simp;done) | (simp [*];done)),H',⟨Nat.le_refl _⟩,⟨Kd.V_nil _ _ _ _ _⟩,⟨by (with_reducible repeat (first | refine zz6 ?_ _ | refine zz7 ?_ | refine zz8 ?_ _));exact BK233.out⟩,⟨by repeat first | exact HB.out | apply zz2 | apply zz0 | apply zz1 | refine zz3 ?_ GE233.out⟩⟩
  case round =>
   clear H'
   try clear c2
   try clear p2
   try clear c3
   try clear c4
   try clear hcz5_0
   try clear hcz5_1
   try clear hcz7_0
   try clear hcz7_1
   try clear hfz5_0
   try clear hfz5_1
   try clear hfz7_0
   try clear hfz7_1
   obtain ⟨x4_1,x19_1,rfl,HA,HK1,HO_4,BK233,HB⟩:=hrel
   cases gk with
   | zero=>exact absurd HA.out (by simp [spec_AllExchanges.l0])
   | succ k1 =>
    have H:=HA.out
    clear HA
    simp only [spec_AllExchanges.l0] at H
    by_cases c8:x19_1 < (l0_1.length:Int)
    ·rw [if_pos c8] at H
     have c8b0:decide (x19_1 < (l0_1.length:Int))=true:=decide_eq_true c8
     clear c8
     by_cases c9:0≤x19_1
     ·rw [if_pos c9] at H
      have c9b0:decide (0≤x19_1)=true:=decide_eq_true c9
      clear c9
      by_cases c10:x19_1 < (l0_1.length:Int)
      ·rw [if_pos c10] at H
       have c10b0:decide (x19_1 < (l0_1.length:Int))=true:=decide_eq_true c10
       clear c10
       have H':=zz31 H
       clear H
       have p235:0≤(x19_1:Int):=zz29 (by first | (with_reducible assumption) | assumption)
       have q235:x19_1 < (l0_1.length:Int):=zz29 (by first | (with_reducible assumption) | assumption)
       obtain ⟨ad235,e235,hx235_0,hx235_1⟩:=at_T70 HR0_1.out x19_1 p235 q235
       cases e235
       try replace hx235_0:=(HB.out.cell (World.block_lt_of_cell? w _ hx235_0)).trans hx235_0
       try replace hx235_1:=(HB.out.cell (World.block_lt_of_cell? w _ hx235_1)).trans hx235_1
       replace p235:=eq_true p235
       replace q235:=eq_true q235
       go_wp2_with (first | ((with_reducible refine gate_dst (N:=6) rfl ?_);refine box_event ?hg (N:=6) ?hd (cs:=#[.int .i64 0,.int .i64 0]) (t:=70) ?hr ?_;(case hd=>rfl);(case hg=>rfl);(case hr=>first | (go_simp;done) | (go_simp;rfl));intro gb236 hg w11 hbox hb;replace HO_4:=zz31 (Kd.V_below (Kd.V_elderB (by (with_reducible repeat (first | apply Kd.V_alloc | apply Kd.V_drewN | apply Kd.V_drew));exact HO_4.out) gb236 (Nat.le_of_eq hg.symm)) hb);have BK236:=zz31 (hbox);have GW236:=zz31 ((by rw [hg];exact (zz5 (by repeat first | exact HB.out | apply zz2 | apply zz0 | apply zz1 | refine zz3 ?_ GE233.out)):w.heap.size≤gb236));replace HB:=zz31 (zz4 (by repeat first | exact HB.out | apply zz2 | apply zz0 | apply zz1 | refine zz3 ?_ GE233.out) hb);have GE236:=GW236;have NB233_236:=zz31 ((by rw [hg];exact Nat.ne_of_lt (blk_lt (g:=gb233) (o:=.cells #[.int .i64 a0_0,.slice (some ad235) l0_1.length c0_1] 30 (0,0)) (by (with_reducible repeat (first | refine zz6 ?_ _ | refine zz7 ?_ | refine zz8 ?_ _));exact BK233.out)):gb233 ≠ gb236));have NB236_233:=zz31 ((by rw [hg];exact Nat.ne_of_gt (blk_lt (g:=gb233) (o:=.cells #[.int .i64 a0_0,.slice (some ad235) l0_1.length c0_1] 30 (0,0)) (by (with_reducible repeat (first | refine zz6 ?_ _ | refine zz7 ?_ | refine zz8 ?_ _));exact BK233.out)):gb236 ≠ gb233));replace BK233:=zz31 (zz11 (g:=gb233) (o:=.cells #[.int .i64 a0_0,.slice (some ad235) l0_1.length c0_1] 30 (0,0)) (by (with_reducible repeat (first | refine zz6 ?_ _ | refine zz7 ?_ | refine zz8 ?_ _));exact BK233.out) hb);clear hb hbox hg;have hnb12:=NB236_233.out;have hnc12:=NB233_236.out;have hcz13_0:w11.cell? ⟨gb236,0,none⟩=some (.int .i64 0):=(zz9 BK236.out 0).trans rfl;have hcz13_1:w11.cell? ⟨gb236,1,none⟩=some (.int .i64 0):=(zz9 BK236.out 1).trans rfl;have hfz13_0:=zz10 BK236.out 0;have hfz13_1:=zz10 BK236.out 1;have hcz14_0:w11.cell? ⟨gb233,0,none⟩=some (.int .i64 a0_0):=(zz9 BK233.out 0).trans rfl;have hcz14_1:w11.cell? ⟨gb233,1,none⟩=some (.slice (some ad235) l0_1.length c0_1):=(zz9 BK233.out 1).trans rfl;have hfz14_0:=zz10 BK233.out 0;have hfz14_1:=zz10 BK233.out 1))
       go_loopg [4,26] k1 (fun kq v4 v26 w'=>∃ (x4_2:List (S30)) (x26_2:Int),v26=.int .i64 x26_2∧Aside0 (spec_AllExchanges.l1 kq x4_2 l0_1 (l0_1.length:Int) x19_1 l0_1 (l0_1.length:Int) x26_2 a0_0 l0_1 ((rd_T70 l0_1 x19_1).f0) ((rd_T70 l0_1 x19_1).f1)=some (r1,r2))∧Aside0 (kq≤k1)∧Aside0 (Kd.V k30 30 w' w.heap.size (fun k_=>(w.heap.size≤k_)∧k_ ≠ gb233∧k_ ≠ gb236) v4 x4_2)∧Aside0 (w'.heap[gb233]?=some (.cells #[.int .i64 a0_0,(.slice (some ad235) l0_1.length c0_1)] 30 (0,0)))∧Aside0 (w'.heap[gb236]?=some (.cells #[.int .i64 ((rd_T70 l0_1 x19_1).f0),.int .i64 ((rd_T70 l0_1 x19_1).f1)] 70 (0,0)))∧Aside0 (Below w.heap.size w w'))
       case atStart=>exact ⟨(x4_1),(0),(by first | rfl | (simp;done) | (simp [*];done)),H',⟨Nat.le_refl _⟩,⟨by (with_reducible repeat (first | apply Kd.V_alloc | apply Kd.V_drewN | apply Kd.V_drew));exact Kd.V_mono (Kd.V_far (p:=⟨gb236,1,none⟩) (Kd.V_far (p:=⟨gb236,0,none⟩) (Kd.V_mono HO_4.out (fun k_ hk=>(⟨hk,hk.2⟩:_∧k_ ≠ gb236))) (fun _ hk=>hk.2) (.int .i64 ((rd_T70 l0_1 x19_1).f0))) (fun _ hk=>hk.2) (.int .i64 ((rd_T70 l0_1 x19_1).f1))) (fun _ hk=>⟨hk.1.1.1,⟨hk.1.1.2,hk.1.2⟩⟩)⟩,⟨by (with_reducible repeat (first | refine zz6 ?_ _ | refine zz7 ?_ | refine zz8 ?_ _));refine blk_far ?_ NB233_236.out _;(with_reducible repeat (first | refine zz6 ?_ _ | refine zz7 ?_ | refine zz8 ?_ _));refine blk_far ?_ NB233_236.out _;(with_reducible repeat (first | refine zz6 ?_ _ | refine zz7 ?_ | refine zz8 ?_ _));exact BK233.out⟩,⟨by (with_reducible repeat (first | refine zz6 ?_ _ | refine zz7 ?_ | refine zz8 ?_ _));refine blk_put (cs:=#[.int .i64 ((rd_T70 l0_1 x19_1).f0),.int .i64 0]) ?_ 1 _ rfl;(with_reducible repeat (first | refine zz6 ?_ _ | refine zz7 ?_ | refine zz8 ?_ _));refine blk_put (cs:=#[.int .i64 0,.int .i64 0]) ?_ 0 _ rfl;(with_reducible repeat (first | refine zz6 ?_ _ | refine zz7 ?_ | refine zz8 ?_ _));exact BK236.out⟩,⟨by repeat first | exact HB.out | apply zz2 | apply zz0 | apply zz1 | refine zz3 ?_ GE233.out | refine zz3 ?_ GE236.out⟩⟩
       case round =>
        clear H'
        try clear c1
        try clear c2
        try clear p2
        try clear q2
        try clear hx2
        try clear c3
        try clear c4
        try clear c8
        try clear c8b0
        try clear c9
        try clear c9b0
        try clear c10
        try clear c10b0
        try clear c12
        try clear hcz13_0
        try clear hcz13_1
        try clear hcz14_0
        try clear hcz14_1
        try clear hcz5_0
        try clear hcz5_1
        try clear hcz7_0
        try clear hcz7_1
        try clear hfz13_0
        try clear hfz13_1
        try clear hfz14_0
        try clear hfz14_1
        try clear hfz5_0
        try clear hfz5_1
        try clear hfz7_0
        try clear hfz7_1
        try clear hx235_0
        try clear hx235_1
        try clear p2
        try clear p235
        try clear q235
        obtain ⟨x4_2,x26_2,rfl,HA,HK2,HO_4,BK233,BK236,HB⟩:=hrel
        cases gk with
        | zero=>exact absurd HA.out (by simp [spec_AllExchanges.l1])
        | succ k2 =>
         have H:=HA.out
         clear HA
         simp only [spec_AllExchanges.l1] at H
         by_cases c15:x26_2 < (l0_1.length:Int)
         ·rw [if_pos c15] at H
          have c15b0:decide (x26_2 < (l0_1.length:Int))=true:=decide_eq_true c15
          clear c15
          by_cases c16:0≤x26_2
          ·rw [if_pos c16] at H
           have c16b0:decide (0≤x26_2)=true:=decide_eq_true c16
           clear c16
           by_cases c17:x26_2 < (l0_1.length:Int)
           ·rw [if_pos c17] at H
            have c17b0:decide (x26_2 < (l0_1.length:Int))=true:=decide_eq_true c17
            clear c17
            obtain ⟨y239,hy239⟩:∃ y_:List (S70),y_=(([(⟨(rd_T70 l0_1 x26_2).f0,(rd_T70 l0_1 x26_2).f1⟩:S70),(⟨(rd_T70 l0_1 x26_2).f1,(rd_T70 l0_1 x26_2).f0⟩:S70)]:List (S70))):=⟨_,rfl⟩
            replace H:(spec_AllExchanges.l2 k2 x4_2 l0_1 (l0_1.length:Int) x19_1 l0_1 (l0_1.length:Int) x26_2 y239 (y239.length:Int) 0 a0_0 l0_1 ((rd_T70 l0_1 x19_1).f0) ((rd_T70 l0_1 x19_1).f1))=some (r1,r2):=by first | (rw [hy239];with_reducible exact H) | (have H2_:=(Option.bind_some _ _).symm.trans H;rw [hy239];with_reducible exact H2_) | (have H2_:=(Option.bind_some _ _).symm.trans H;with_reducible exact H2_) | with_reducible exact H | (rw [hy239];exact H) | exact H
            have Ny239:=zz31 hy239
            clear hy239
            have H':=zz31 H
            clear H
            have p237:0≤(x26_2:Int):=zz29 (by first | (with_reducible assumption) | assumption)
            have q237:x26_2 < (l0_1.length:Int):=zz29 (by first | (with_reducible assumption) | assumption)
            obtain ⟨ad237,e237,hx237_0,hx237_1⟩:=at_T70 HR0_1.out x26_2 p237 q237
            obtain rfl:ad235=ad237:=(by injection e237)
            try replace hx237_0:=(HB.out.cell (World.block_lt_of_cell? w _ hx237_0)).trans hx237_0
            try replace hx237_1:=(HB.out.cell (World.block_lt_of_cell? w _ hx237_1)).trans hx237_1
            replace p237:=eq_true p237
            replace q237:=eq_true q237
            go_wp2_with (first | ((with_reducible refine gate_dst (N:=8) rfl ?_);refine box_event ?hg (N:=8) ?hd (cs:=#[.int .i64 0,.int .i64 0]) (t:=70) ?hr ?_;(case hd=>rfl);(case hg=>rfl);(case hr=>first | (go_simp;done) | (go_simp;rfl));intro gb238 hg w18 hbox hb;replace HO_4:=zz31 (Kd.V_below (Kd.V_elderB (by (with_reducible repeat (first | apply Kd.V_alloc | apply Kd.V_drewN | apply Kd.V_drew));exact HO_4.out) gb238 (Nat.le_of_eq hg.symm)) hb);have BK238:=zz31 (hbox);have GW238:=zz31 ((by rw [hg];exact (zz5 (by repeat first | exact HB.out | apply zz2 | apply zz0 | apply zz1 | refine zz3 ?_ GE233.out | refine zz3 ?_ GE236.out)):w.heap.size≤gb238));replace HB:=zz31 (zz4 (by repeat first | exact HB.out | apply zz2 | apply zz0 | apply zz1 | refine zz3 ?_ GE233.out | refine zz3 ?_ GE236.out) hb);have GE238:=GW238;have NB233_238:=zz31 ((by rw [hg];exact Nat.ne_of_lt (blk_lt (g:=gb233) (o:=.cells #[.int .i64 a0_0,.slice (some ad235) l0_1.length c0_1] 30 (0,0)) (by (with_reducible repeat (first | refine zz6 ?_ _ | refine zz7 ?_ | refine zz8 ?_ _));exact BK233.out)):gb233 ≠ gb238));have NB238_233:=zz31 ((by rw [hg];exact Nat.ne_of_gt (blk_lt (g:=gb233) (o:=.cells #[.int .i64 a0_0,.slice (some ad235) l0_1.length c0_1] 30 (0,0)) (by (with_reducible repeat (first | refine zz6 ?_ _ | refine zz7 ?_ | refine zz8 ?_ _));exact BK233.out)):gb238 ≠ gb233));replace BK233:=zz31 (zz11 (g:=gb233) (o:=.cells #[.int .i64 a0_0,.slice (some ad235) l0_1.length c0_1] 30 (0,0)) (by (with_reducible repeat (first | refine zz6 ?_ _ | refine zz7 ?_ | refine zz8 ?_ _));exact BK233.out) hb);have NB236_238:=zz31 ((by rw [hg];exact Nat.ne_of_lt (blk_lt (g:=gb236) (o:=.cells #[.int .i64 ((rd_T70 l0_1 x19_1).f0),.int .i64 ((rd_T70 l0_1 x19_1).f1)] 70 (0,0)) (by (with_reducible repeat (first | refine zz6 ?_ _ | refine zz7 ?_ | refine zz8 ?_ _));exact BK236.out)):gb236 ≠ gb238));have NB238_236:=zz31 ((by rw [hg];exact Nat.ne_of_gt (blk_lt (g:=gb236) (o:=.cells #[.int .i64 ((rd_T70 l0_1 x19_1).f0),.int .i64 ((rd_T70 l0_1 x19_1).f1)] 70 (0,0)) (by (with_reducible repeat (first | refine zz6 ?_ _ | refine zz7 ?_ | refine zz8 ?_ _));exact BK236.out)):gb238 ≠ gb236));replace BK236:=zz31 (zz11 (g:=gb236) (o:=.cells #[.int .i64 ((rd_T70 l0_1 x19_1).f0),.int .i64 ((rd_T70 l0_1 x19_1).f1)] 70 (0,0)) (by (with_reducible repeat (first | refine zz6 ?_ _ | refine zz7 ?_ | refine zz8 ?_ _));exact BK236.out) hb);clear hb hbox hg;have hnb19:=NB238_233.out;have hnc19:=NB233_238.out;have hnb20:=NB238_236.out;have hnc20:=NB236_238.out;have hcz21_0:w18.cell? ⟨gb238,0,none⟩=some (.int .i64 0):=(zz9 BK238.out 0).trans rfl;have hcz21_1:w18.cell? ⟨gb238,1,none⟩=some (.int .i64 0):=(zz9 BK238.out 1).trans rfl;have hfz21_0:=zz10 BK238.out 0;have hfz21_1:=zz10 BK238.out 1) | ((with_reducible refine gate_dst (N:=40) rfl ?_);refine Kd.R_lit k70 _ 70 ?hg (N:=40) ?hd (xs:=([(⟨(rd_T70 l0_1 x26_2).f0,(rd_T70 l0_1 x26_2).f1⟩:S70),(⟨(rd_T70 l0_1 x26_2).f1,(rd_T70 l0_1 x26_2).f0⟩:S70)]:List (S70))) (inner:=[.int .i64 ((rd_T70 l0_1 x26_2).f0),.int .i64 ((rd_T70 l0_1 x26_2).f1),.int .i64 ((rd_T70 l0_1 x26_2).f1),.int .i64 ((rd_T70 l0_1 x26_2).f0)]) (ok:=fun _=>True) (okp:=fun _=>True) ?hr ?hp (fun _ hk=>hk) trivial (Below.refl _ _) (Nat.le_refl _) (by simp) ?_;(case hd=>rfl);(case hg=>rfl);(case hr=>first | (go_simp;done) | (go_simp;rfl));(case hp=>exact (Reps.c2 (show Kd.M k70 _ _ _ (⟨(rd_T70 l0_1 x26_2).f0,(rd_T70 l0_1 x26_2).f1⟩:S70) [.int .i64 ((rd_T70 l0_1 x26_2).f0),.int .i64 ((rd_T70 l0_1 x26_2).f1)] from (k70_mkM _ _ _ (⟨(rd_T70 l0_1 x26_2).f0,(rd_T70 l0_1 x26_2).f1⟩:S70) )) (Reps.c2 (show Kd.M k70 _ _ _ (⟨(rd_T70 l0_1 x26_2).f1,(rd_T70 l0_1 x26_2).f0⟩:S70) [.int .i64 ((rd_T70 l0_1 x26_2).f1),.int .i64 ((rd_T70 l0_1 x26_2).f0)] from (k70_mkM _ _ _ (⟨(rd_T70 l0_1 x26_2).f1,(rd_T70 l0_1 x26_2).f0⟩:S70) )) (Reps.none _ _))));intro v240 w22 ho23 hb hg_ hnew_;clear hg_ hnew_;(first | rw [← Ny239.out] at ho23 | (simp only [Int.reduceToNat] at ho23;rw [← Ny239.out] at ho23));replace HO_4:=zz31 (Kd.V_elder' (by (with_reducible repeat (first | apply Kd.V_alloc | apply Kd.V_drewN | apply Kd.V_drew));exact (Kd.V_mono (Kd.V_far (p:=⟨gb238,1,none⟩) (Kd.V_far (p:=⟨gb238,0,none⟩) (Kd.V_mono HO_4.out (fun k_ hk=>(⟨hk,hk.2⟩:_∧k_ ≠ gb238))) (fun _ hk=>hk.2) (.int .i64 ((rd_T70 l0_1 x26_2).f0))) (fun _ hk=>hk.2) (.int .i64 ((rd_T70 l0_1 x26_2).f1))) (fun _ h_=>h_.1))) (Kd.R_base ho23) hb);have HO241:=zz31 (Kd.R_lower (Kd.R_newB (Kd.R_newB (Kd.R_newM (M:=fun k_=>(w.heap.size≤k_)) ho23 (zz5 (by repeat first | exact HB.out | apply zz2 | apply zz0 | apply zz1 | refine zz3 ?_ GE233.out | refine zz3 ?_ GE236.out | refine zz3 ?_ GE238.out)) (fun k_ h_=>h_)) (g:=gb236) (o:=.cells #[.int .i64 ((rd_T70 l0_1 x19_1).f0),.int .i64 ((rd_T70 l0_1 x19_1).f1)] 70 (0,0)) (by (with_reducible repeat (first | refine zz6 ?_ _ | refine zz7 ?_ | refine zz8 ?_ _));refine blk_far ?_ NB236_238.out _;(with_reducible repeat (first | refine zz6 ?_ _ | refine zz7 ?_ | refine zz8 ?_ _));refine blk_far ?_ NB236_238.out _;(with_reducible repeat (first | refine zz6 ?_ _ | refine zz7 ?_ | refine zz8 ?_ _));exact BK236.out)) (g:=gb238) (o:=.cells #[.int .i64 ((rd_T70 l0_1 x26_2).f0),.int .i64 ((rd_T70 l0_1 x26_2).f1)] 70 (0,0)) (by (with_reducible repeat (first | refine zz6 ?_ _ | refine zz7 ?_ | refine zz8 ?_ _));refine blk_put (cs:=#[.int .i64 ((rd_T70 l0_1 x26_2).f0),.int .i64 0]) ?_ 1 _ rfl;(with_reducible repeat (first | refine zz6 ?_ _ | refine zz7 ?_ | refine zz8 ?_ _));refine blk_put (cs:=#[.int .i64 0,.int .i64 0]) ?_ 0 _ rfl;(with_reducible repeat (first | refine zz6 ?_ _ | refine zz7 ?_ | refine zz8 ?_ _));exact BK238.out)) (zz5 (by repeat first | exact HB.out | apply zz2 | apply zz0 | apply zz1 | refine zz3 ?_ GE233.out | refine zz3 ?_ GE236.out | refine zz3 ?_ GE238.out)));replace BK233:=zz31 (zz11 (g:=gb233) (o:=.cells #[.int .i64 a0_0,.slice (some ad235) l0_1.length c0_1] 30 (0,0)) (by (with_reducible repeat (first | refine zz6 ?_ _ | refine zz7 ?_ | refine zz8 ?_ _));refine blk_far ?_ NB233_238.out _;(with_reducible repeat (first | refine zz6 ?_ _ | refine zz7 ?_ | refine zz8 ?_ _));refine blk_far ?_ NB233_238.out _;(with_reducible repeat (first | refine zz6 ?_ _ | refine zz7 ?_ | refine zz8 ?_ _));exact BK233.out) hb);replace BK236:=zz31 (zz11 (g:=gb236) (o:=.cells #[.int .i64 ((rd_T70 l0_1 x19_1).f0),.int .i64 ((rd_T70 l0_1 x19_1).f1)] 70 (0,0)) (by (with_reducible repeat (first | refine zz6 ?_ _ | refine zz7 ?_ | refine zz8 ?_ _));refine blk_far ?_ NB236_238.out _;(with_reducible repeat (first | refine zz6 ?_ _ | refine zz7 ?_ | refine zz8 ?_ _));refine blk_far ?_ NB236_238.out _;(with_reducible repeat (first | refine zz6 ?_ _ | refine zz7 ?_ | refine zz8 ?_ _));exact BK236.out) hb);replace BK238:=zz31 (zz11 (g:=gb238) (o:=.cells #[.int .i64 ((rd_T70 l0_1 x26_2).f0),.int .i64 ((rd_T70 l0_1 x26_2).f1)] 70 (0,0)) (by (with_reducible repeat (first | refine zz6 ?_ _ | refine zz7 ?_ | refine zz8 ?_ _));refine blk_put (cs:=#[.int .i64 ((rd_T70 l0_1 x26_2).f0),.int .i64 0]) ?_ 1 _ rfl;(with_reducible repeat (first | refine zz6 ?_ _ | refine zz7 ?_ | refine zz8 ?_ _));refine blk_put (cs:=#[.int .i64 0,.int .i64 0]) ?_ 0 _ rfl;(with_reducible repeat (first | refine zz6 ?_ _ | refine zz7 ?_ | refine zz8 ?_ _));exact BK238.out) hb);replace HB:=zz31 (zz4 (by repeat first | exact HB.out | apply zz2 | apply zz0 | apply zz1 | refine zz3 ?_ GE233.out | refine zz3 ?_ GE236.out | refine zz3 ?_ GE238.out) hb);clear hb ho23;obtain ⟨Ao24,co24,eo24⟩:=Kd.R_slice HO241.out;subst eo24))
            go_loopg [4,42] k2 (fun kq v4 v42 w'=>∃ (x4_3:List (S30)) (x42_3:Int),v42=.int .i64 x42_3∧Aside0 (spec_AllExchanges.l2 kq x4_3 l0_1 (l0_1.length:Int) x19_1 l0_1 (l0_1.length:Int) x26_2 y239 (y239.length:Int) x42_3 a0_0 l0_1 ((rd_T70 l0_1 x19_1).f0) ((rd_T70 l0_1 x19_1).f1)=some (r1,r2))∧Aside0 (kq≤k2)∧Aside0 (Kd.V k30 30 w' w.heap.size (fun k_=>(w.heap.size≤k_)∧some k_ ≠ ((.slice Ao24 y239.length co24):Value).ownBlock∧k_ ≠ gb233∧k_ ≠ gb236∧k_ ≠ gb238) v4 x4_3)∧Aside0 (Kd.R k70 70 w' w.heap.size (fun k_=>(w.heap.size≤k_)∧k_ ≠ gb236∧k_ ≠ gb238) (.slice Ao24 y239.length co24) y239)∧Aside0 (w'.heap[gb233]?=some (.cells #[.int .i64 a0_0,(.slice (some ad235) l0_1.length c0_1)] 30 (0,0)))∧Aside0 (w'.heap[gb236]?=some (.cells #[.int .i64 ((rd_T70 l0_1 x19_1).f0),.int .i64 ((rd_T70 l0_1 x19_1).f1)] 70 (0,0)))∧Aside0 (w'.heap[gb238]?=some (.cells #[.int .i64 ((rd_T70 l0_1 x26_2).f0),.int .i64 ((rd_T70 l0_1 x26_2).f1)] 70 (0,0)))∧Aside0 (Below w.heap.size w w'))
            case atStart=>exact ⟨(x4_2),(0),(by first | rfl | (simp;done) | (simp [*];done)),H',⟨Nat.le_refl _⟩,⟨by (with_reducible repeat (first | apply Kd.V_alloc | apply Kd.V_drewN | apply Kd.V_drew));exact Kd.V_mono HO_4.out (fun _ hk=>⟨hk.1.1.1,⟨hk.2,⟨hk.1.1.2.1,⟨hk.1.1.2.2,hk.1.2⟩⟩⟩⟩)⟩,⟨by (with_reducible repeat (first | apply zz12 | apply zz13 | apply zz14));exact Kd.R_mono HO241.out (fun _ hk=>⟨hk.1.1.1,⟨hk.1.2,hk.2⟩⟩)⟩,⟨by (with_reducible repeat (first | refine zz6 ?_ _ | refine zz7 ?_ | refine zz8 ?_ _));exact BK233.out⟩,⟨by (with_reducible repeat (first | refine zz6 ?_ _ | refine zz7 ?_ | refine zz8 ?_ _));exact BK236.out⟩,⟨by (with_reducible repeat (first | refine zz6 ?_ _ | refine zz7 ?_ | refine zz8 ?_ _));exact BK238.out⟩,⟨by repeat first | exact HB.out | apply zz2 | apply zz0 | apply zz1 | refine zz3 ?_ GE233.out | refine zz3 ?_ GE236.out | refine zz3 ?_ GE238.out⟩⟩
            case round =>
             clear H'
             try clear c1
             try clear c2
             try clear p2
             try clear q2
             try clear hx2
             try clear c3
             try clear c4
             try clear c8
             try clear c8b0
             try clear c9
             try clear c9b0
             try clear c10
             try clear c10b0
             try clear c12
             try clear c15
             try clear c15b0
             try clear c16
             try clear c16b0
             try clear c17
             try clear c17b0
             try clear c19
             try clear c20
             try clear p23
             try clear q23
             try clear hx23
             try clear c24
             try clear hcz13_0
             try clear hcz13_1
             try clear hcz14_0
             try clear hcz14_1
             try clear hcz21_0
             try clear hcz21_1
             try clear hcz5_0
             try clear hcz5_1
             try clear hcz7_0
             try clear hcz7_1
             try clear hfz13_0
             try clear hfz13_1
             try clear hfz14_0
             try clear hfz14_1
             try clear hfz21_0
             try clear hfz21_1
             try clear hfz5_0
             try clear hfz5_1
             try clear hfz7_0
             try clear hfz7_1
             try clear hx235_0
             try clear hx235_1
             try clear hx237_0
             try clear hx237_1
             try clear p2
             try clear p235
             try clear p237
             try clear q2
             try clear q235
             try clear q237
             obtain ⟨x4_3,x42_3,rfl,HA,HK3,HO_4,HO_40,BK233,BK236,BK238,HB⟩:=hrel
             cases gk with
             | zero=>exact absurd HA.out (by simp [spec_AllExchanges.l2])
             | succ k3 =>
              have H:=HA.out
              clear HA
              simp only [spec_AllExchanges.l2] at H
              by_cases c25:x42_3 < (y239.length:Int)
              ·rw [if_pos c25] at H
               have c25b0:decide (x42_3 < (y239.length:Int))=true:=decide_eq_true c25
               clear c25
               by_cases c26:0≤x42_3
               ·rw [if_pos c26] at H
                have c26b0:decide (0≤x42_3)=true:=decide_eq_true c26
                clear c26
                by_cases c27:x42_3 < (y239.length:Int)
                ·rw [if_pos c27] at H
                 have c27b0:decide (x42_3 < (y239.length:Int))=true:=decide_eq_true c27
                 clear c27
                 replace H:=zz30.mp H
                 obtain ⟨⟨t244,t245,t248⟩,A280,H⟩:=H
                 replace H:(if t248=true then ((spec_dePut.f k3 x4_3 t244 t245).bind fun t250=>(spec_AllExchanges.l2 k3 t250 l0_1 (l0_1.length:Int) x19_1 l0_1 (l0_1.length:Int) x26_2 y239 (y239.length:Int) (wrap64 (x42_3+1)) a0_0 l0_1 ((rd_T70 l0_1 x19_1).f0) ((rd_T70 l0_1 x19_1).f1))) else (spec_AllExchanges.l2 k3 x4_3 l0_1 (l0_1.length:Int) x19_1 l0_1 (l0_1.length:Int) x26_2 y239 (y239.length:Int) (wrap64 (x42_3+1)) a0_0 l0_1 ((rd_T70 l0_1 x19_1).f0) ((rd_T70 l0_1 x19_1).f1)))=some (r1,r2):=H
                 have A28:=zz31 A280
                 clear A280
                 by_cases c29:t248=true
                 ·subst c29
                  have H1:((spec_dePut.f k3 x4_3 t244 t245).bind fun t250=>(spec_AllExchanges.l2 k3 t250 l0_1 (l0_1.length:Int) x19_1 l0_1 (l0_1.length:Int) x26_2 y239 (y239.length:Int) (wrap64 (x42_3+1)) a0_0 l0_1 ((rd_T70 l0_1 x19_1).f0) ((rd_T70 l0_1 x19_1).f1)))=some (r1,r2):=by rw [if_pos rfl] at H;exact H
                  clear H
                  have H:=H1
                  clear H1
                  replace H:=zz30.mp H
                  obtain ⟨t250,A300,H⟩:=H
                  replace H:(spec_AllExchanges.l2 k3 t250 l0_1 (l0_1.length:Int) x19_1 l0_1 (l0_1.length:Int) x26_2 y239 (y239.length:Int) (wrap64 (x42_3+1)) a0_0 l0_1 ((rd_T70 l0_1 x19_1).f0) ((rd_T70 l0_1 x19_1).f1))=some (r1,r2):=H
                  have A30:=zz31 A300
                  clear A300
                  have H':=zz31 H
                  clear H
                  have p242:0≤(x42_3:Int):=zz29 (by first | (with_reducible assumption) | assumption)
                  have q242:x42_3 < (y239.length:Int):=zz29 (by first | (with_reducible assumption) | assumption)
                  obtain ⟨ad242,e242,hx242_0,hx242_1⟩:=at_T70 (Kd.R_reads' HO_40.out).2.2 x42_3 p242 q242
                  cases e242
                  replace p242:=eq_true p242
                  replace q242:=eq_true q242
                  go_wp2_with (first | ((with_reducible refine gate_dst (N:=10) rfl ?_);refine box_event ?hg (N:=10) ?hd (cs:=#[.int .i64 0,.int .i64 0]) (t:=70) ?hr ?_;(case hd=>rfl);(case hg=>rfl);(case hr=>first | (go_simp;done) | (go_simp;rfl));intro gb243 hg w31 hbox hb;replace HO_4:=zz31 (Kd.V_below (Kd.V_elderB (by (with_reducible repeat (first | apply Kd.V_alloc | apply Kd.V_drewN | apply Kd.V_drew));exact HO_4.out) gb243 (Nat.le_of_eq hg.symm)) hb);replace HO_40:=zz31 (Kd.R_below (Kd.R_elderB (by (with_reducible repeat (first | apply zz12 | apply zz13 | apply zz14));exact HO_40.out) gb243 (Nat.le_of_eq hg.symm)) hb);have BK243:=zz31 (hbox);have GW243:=zz31 ((by rw [hg];exact (zz5 (by repeat first | exact HB.out | apply zz2 | apply zz0 | apply zz1 | refine zz3 ?_ GE233.out | refine zz3 ?_ GE236.out | refine zz3 ?_ GE238.out)):w.heap.size≤gb243));replace HB:=zz31 (zz4 (by repeat first | exact HB.out | apply zz2 | apply zz0 | apply zz1 | refine zz3 ?_ GE233.out | refine zz3 ?_ GE236.out | refine zz3 ?_ GE238.out) hb);have GE243:=GW243;have NB233_243:=zz31 ((by rw [hg];exact Nat.ne_of_lt (blk_lt (g:=gb233) (o:=.cells #[.int .i64 a0_0,.slice (some ad235) l0_1.length c0_1] 30 (0,0)) (by (with_reducible repeat (first | refine zz6 ?_ _ | refine zz7 ?_ | refine zz8 ?_ _));exact BK233.out)):gb233 ≠ gb243));have NB243_233:=zz31 ((by rw [hg];exact Nat.ne_of_gt (blk_lt (g:=gb233) (o:=.cells #[.int .i64 a0_0,.slice (some ad235) l0_1.length c0_1] 30 (0,0)) (by (with_reducible repeat (first | refine zz6 ?_ _ | refine zz7 ?_ | refine zz8 ?_ _));exact BK233.out)):gb243 ≠ gb233));replace BK233:=zz31 (zz11 (g:=gb233) (o:=.cells #[.int .i64 a0_0,.slice (some ad235) l0_1.length c0_1] 30 (0,0)) (by (with_reducible repeat (first | refine zz6 ?_ _ | refine zz7 ?_ | refine zz8 ?_ _));exact BK233.out) hb);have NB236_243:=zz31 ((by rw [hg];exact Nat.ne_of_lt (blk_lt (g:=gb236) (o:=.cells #[.int .i64 ((rd_T70 l0_1 x19_1).f0),.int .i64 ((rd_T70 l0_1 x19_1).f1)] 70 (0,0)) (by (with_reducible repeat (first | refine zz6 ?_ _ | refine zz7 ?_ | refine zz8 ?_ _));exact BK236.out)):gb236 ≠ gb243));have NB243_236:=zz31 ((by rw [hg];exact Nat.ne_of_gt (blk_lt (g:=gb236) (o:=.cells #[.int .i64 ((rd_T70 l0_1 x19_1).f0),.int .i64 ((rd_T70 l0_1 x19_1).f1)] 70 (0,0)) (by (with_reducible repeat (first | refine zz6 ?_ _ | refine zz7 ?_ | refine zz8 ?_ _));exact BK236.out)):gb243 ≠ gb236));replace BK236:=zz31 (zz11 (g:=gb236) (o:=.cells #[.int .i64 ((rd_T70 l0_1 x19_1).f0),.int .i64 ((rd_T70 l0_1 x19_1).f1)] 70 (0,0)) (by (with_reducible repeat (first | refine zz6 ?_ _ | refine zz7 ?_ | refine zz8 ?_ _));exact BK236.out) hb);have NB238_243:=zz31 ((by rw [hg];exact Nat.ne_of_lt (blk_lt (g:=gb238) (o:=.cells #[.int .i64 ((rd_T70 l0_1 x26_2).f0),.int .i64 ((rd_T70 l0_1 x26_2).f1)] 70 (0,0)) (by (with_reducible repeat (first | refine zz6 ?_ _ | refine zz7 ?_ | refine zz8 ?_ _));exact BK238.out)):gb238 ≠ gb243));have NB243_238:=zz31 ((by rw [hg];exact Nat.ne_of_gt (blk_lt (g:=gb238) (o:=.cells #[.int .i64 ((rd_T70 l0_1 x26_2).f0),.int .i64 ((rd_T70 l0_1 x26_2).f1)] 70 (0,0)) (by (with_reducible repeat (first | refine zz6 ?_ _ | refine zz7 ?_ | refine zz8 ?_ _));exact BK238.out)):gb243 ≠ gb238));replace BK238:=zz31 (zz11 (g:=gb238) (o:=.cells #[.int .i64 ((rd_T70 l0_1 x26_2).f0),.int .i64 ((rd_T70 l0_1 x26_2).f1)] 70 (0,0)) (by (with_reducible repeat (first | refine zz6 ?_ _ | refine zz7 ?_ | refine zz8 ?_ _));exact BK238.out) hb);clear hb hbox hg;have hnb32:=NB243_233.out;have hnc32:=NB233_243.out;have hnb33:=NB243_236.out;have hnc33:=NB236_243.out;have hnb34:=NB243_238.out;have hnc34:=NB238_243.out;have hcz35_0:w31.cell? ⟨gb243,0,none⟩=some (.int .i64 0):=(zz9 BK243.out 0).trans rfl;have hcz35_1:w31.cell? ⟨gb243,1,none⟩=some (.int .i64 0):=(zz9 BK243.out 1).trans rfl;have hfz35_0:=zz10 BK243.out 0;have hfz35_1:=zz10 BK243.out 1;have hnb36:=NB233_236.out;have hnc36:=NB236_233.out;have hnb37:=NB233_238.out;have hnc37:=NB238_233.out;have hcz38_0:w31.cell? ⟨gb233,0,none⟩=some (.int .i64 a0_0):=(zz9 BK233.out 0).trans rfl;have hcz38_1:w31.cell? ⟨gb233,1,none⟩=some (.slice (some ad235) l0_1.length c0_1):=(zz9 BK233.out 1).trans rfl;have hfz38_0:=zz10 BK233.out 0;have hfz38_1:=zz10 BK233.out 1;have hnb39:=NB236_238.out;have hnc39:=NB238_236.out;have hcz40_0:w31.cell? ⟨gb236,0,none⟩=some (.int .i64 ((rd_T70 l0_1 x19_1).f0)):=(zz9 BK236.out 0).trans rfl;have hcz40_1:w31.cell? ⟨gb236,1,none⟩=some (.int .i64 ((rd_T70 l0_1 x19_1).f1)):=(zz9 BK236.out 1).trans rfl;have hfz40_0:=zz10 BK236.out 0;have hfz40_1:=zz10 BK236.out 1) | ((with_reducible refine gate_callee (f:=52) rfl ?_);refine goesL_ (some 56) rfl rfl Try.func52 (by kernel_rfl) rfl #[.agg #[.int .i64 a0_0,.slice (some ad235) l0_1.length c0_1],.int .i64 ((rd_T70 l0_1 x19_1).f0),.int .i64 ((rd_T70 l0_1 x19_1).f1),.int .i64 ((rd_T70 y239 x42_3).f0),.int .i64 ((rd_T70 y239 x42_3).f1)] rfl (by (try simp only [zz26,zz27,zz28]);first | done | rfl | (simp only [zz24,zz25];rfl)) ?_;(with_reducible refine (spec_deExchange.calls k3 a0_0 _ _ l0_1 ((rd_T70 l0_1 x19_1).f0) ((rd_T70 l0_1 x19_1).f1) ((rd_T70 y239 x42_3).f0) ((rd_T70 y239 x42_3).f1) t244 t245 true _ ?side1 ?side2 A28.out).mono ?_);(case side1=>exact Kd.C_below HR0_1.out (by repeat first | exact HB.out | apply zz2 | apply zz0 | apply zz1 | refine zz3 ?_ GE233.out | refine zz3 ?_ GE236.out | refine zz3 ?_ GE238.out | refine zz3 ?_ GE243.out));(case side2=>exact HC0_1.out);rintro e w41 ⟨v246,rfl,ho0,hb⟩;refine ⟨_,rfl,?_⟩;replace HO_4:=zz31 (Kd.V_elder' (by (with_reducible repeat (first | apply Kd.V_alloc | apply Kd.V_drewN | apply Kd.V_drew));exact (Kd.V_mono (Kd.V_far (p:=⟨gb243,1,none⟩) (Kd.V_far (p:=⟨gb243,0,none⟩) (Kd.V_mono HO_4.out (fun k_ hk=>(⟨hk,hk.2⟩:_∧k_ ≠ gb243))) (fun _ hk=>hk.2) (.int .i64 ((rd_T70 y239 x42_3).f0))) (fun _ hk=>hk.2) (.int .i64 ((rd_T70 y239 x42_3).f1))) (fun _ h_=>h_.1))) (Kd.R_base ho0) hb);have HO247:=zz31 (Kd.R_lower (Kd.R_newB (Kd.R_newB (Kd.R_newB (Kd.R_new' (Kd.R_newM (M:=fun k_=>(w.heap.size≤k_)) ho0 (zz5 (by repeat first | exact HB.out | apply zz2 | apply zz0 | apply zz1 | refine zz3 ?_ GE233.out | refine zz3 ?_ GE236.out | refine zz3 ?_ GE238.out | refine zz3 ?_ GE243.out)) (fun k_ h_=>h_)) (Kd.R_lt (by (with_reducible repeat (first | apply zz12 | apply zz13 | apply zz14));exact (Kd.R_mono (Kd.R_far (p:=⟨gb243,1,none⟩) (Kd.R_far (p:=⟨gb243,0,none⟩) (Kd.R_mono HO_40.out (fun k_ hk=>(⟨hk,hk.2⟩:_∧k_ ≠ gb243))) (fun _ hk=>hk.2) (.int .i64 ((rd_T70 y239 x42_3).f0))) (fun _ hk=>hk.2) (.int .i64 ((rd_T70 y239 x42_3).f1))) (fun _ h_=>h_.1))))) (g:=gb236) (o:=.cells #[.int .i64 ((rd_T70 l0_1 x19_1).f0),.int .i64 ((rd_T70 l0_1 x19_1).f1)] 70 (0,0)) (by (with_reducible repeat (first | refine zz6 ?_ _ | refine zz7 ?_ | refine zz8 ?_ _));refine blk_far ?_ NB236_243.out _;(with_reducible repeat (first | refine zz6 ?_ _ | refine zz7 ?_ | refine zz8 ?_ _));refine blk_far ?_ NB236_243.out _;(with_reducible repeat (first | refine zz6 ?_ _ | refine zz7 ?_ | refine zz8 ?_ _));exact BK236.out)) (g:=gb238) (o:=.cells #[.int .i64 ((rd_T70 l0_1 x26_2).f0),.int .i64 ((rd_T70 l0_1 x26_2).f1)] 70 (0,0)) (by (with_reducible repeat (first | refine zz6 ?_ _ | refine zz7 ?_ | refine zz8 ?_ _));refine blk_far ?_ NB238_243.out _;(with_reducible repeat (first | refine zz6 ?_ _ | refine zz7 ?_ | refine zz8 ?_ _));refine blk_far ?_ NB238_243.out _;(with_reducible repeat (first | refine zz6 ?_ _ | refine zz7 ?_ | refine zz8 ?_ _));exact BK238.out)) (g:=gb243) (o:=.cells #[.int .i64 ((rd_T70 y239 x42_3).f0),.int .i64 ((rd_T70 y239 x42_3).f1)] 70 (0,0)) (by (with_reducible repeat (first | refine zz6 ?_ _ | refine zz7 ?_ | refine zz8 ?_ _));refine blk_put (cs:=#[.int .i64 ((rd_T70 y239 x42_3).f0),.int .i64 0]) ?_ 1 _ rfl;(with_reducible repeat (first | refine zz6 ?_ _ | refine zz7 ?_ | refine zz8 ?_ _));refine blk_put (cs:=#[.int .i64 0,.int .i64 0]) ?_ 0 _ rfl;(with_reducible repeat (first | refine zz6 ?_ _ | refine zz7 ?_ | refine zz8 ?_ _));exact BK243.out)) (zz5 (by repeat first | exact HB.out | apply zz2 | apply zz0 | apply zz1 | refine zz3 ?_ GE233.out | refine zz3 ?_ GE236.out | refine zz3 ?_ GE238.out | refine zz3 ?_ GE243.out)));replace HO_40:=zz31 (Kd.R_elder' (by (with_reducible repeat (first | apply zz12 | apply zz13 | apply zz14));exact (Kd.R_mono (Kd.R_far (p:=⟨gb243,1,none⟩) (Kd.R_far (p:=⟨gb243,0,none⟩) (Kd.R_mono HO_40.out (fun k_ hk=>(⟨hk,hk.2⟩:_∧k_ ≠ gb243))) (fun _ hk=>hk.2) (.int .i64 ((rd_T70 y239 x42_3).f0))) (fun _ hk=>hk.2) (.int .i64 ((rd_T70 y239 x42_3).f1))) (fun _ h_=>h_.1))) (Kd.R_base ho0) hb);replace BK233:=zz31 (zz11 (g:=gb233) (o:=.cells #[.int .i64 a0_0,.slice (some ad235) l0_1.length c0_1] 30 (0,0)) (by (with_reducible repeat (first | refine zz6 ?_ _ | refine zz7 ?_ | refine zz8 ?_ _));refine blk_far ?_ NB233_243.out _;(with_reducible repeat (first | refine zz6 ?_ _ | refine zz7 ?_ | refine zz8 ?_ _));refine blk_far ?_ NB233_243.out _;(with_reducible repeat (first | refine zz6 ?_ _ | refine zz7 ?_ | refine zz8 ?_ _));exact BK233.out) hb);replace BK236:=zz31 (zz11 (g:=gb236) (o:=.cells #[.int .i64 ((rd_T70 l0_1 x19_1).f0),.int .i64 ((rd_T70 l0_1 x19_1).f1)] 70 (0,0)) (by (with_reducible repeat (first | refine zz6 ?_ _ | refine zz7 ?_ | refine zz8 ?_ _));refine blk_far ?_ NB236_243.out _;(with_reducible repeat (first | refine zz6 ?_ _ | refine zz7 ?_ | refine zz8 ?_ _));refine blk_far ?_ NB236_243.out _;(with_reducible repeat (first | refine zz6 ?_ _ | refine zz7 ?_ | refine zz8 ?_ _));exact BK236.out) hb);replace BK238:=zz31 (zz11 (g:=gb238) (o:=.cells #[.int .i64 ((rd_T70 l0_1 x26_2).f0),.int .i64 ((rd_T70 l0_1 x26_2).f1)] 70 (0,0)) (by (with_reducible repeat (first | refine zz6 ?_ _ | refine zz7 ?_ | refine zz8 ?_ _));refine blk_far ?_ NB238_243.out _;(with_reducible repeat (first | refine zz6 ?_ _ | refine zz7 ?_ | refine zz8 ?_ _));refine blk_far ?_ NB238_243.out _;(with_reducible repeat (first | refine zz6 ?_ _ | refine zz7 ?_ | refine zz8 ?_ _));exact BK238.out) hb);replace BK243:=zz31 (zz11 (g:=gb243) (o:=.cells #[.int .i64 ((rd_T70 y239 x42_3).f0),.int .i64 ((rd_T70 y239 x42_3).f1)] 70 (0,0)) (by (with_reducible repeat (first | refine zz6 ?_ _ | refine zz7 ?_ | refine zz8 ?_ _));refine blk_put (cs:=#[.int .i64 ((rd_T70 y239 x42_3).f0),.int .i64 0]) ?_ 1 _ rfl;(with_reducible repeat (first | refine zz6 ?_ _ | refine zz7 ?_ | refine zz8 ?_ _));refine blk_put (cs:=#[.int .i64 0,.int .i64 0]) ?_ 0 _ rfl;(with_reducible repeat (first | refine zz6 ?_ _ | refine zz7 ?_ | refine zz8 ?_ _));exact BK243.out) hb);replace HB:=zz31 (zz4 (by repeat first | exact HB.out | apply zz2 | apply zz0 | apply zz1 | refine zz3 ?_ GE233.out | refine zz3 ?_ GE236.out | refine zz3 ?_ GE238.out | refine zz3 ?_ GE243.out) hb);(try clear hb);(try clear hb2);(try clear hk);(try clear hi);(try clear ho0)) | ((with_reducible refine gate_dst (N:=11) rfl ?_);refine box_event ?hg (N:=11) ?hd (cs:=#[.int .i64 0,.slice none 0 0]) (t:=30) ?hr ?_;(case hd=>rfl);(case hg=>rfl);(case hr=>first | (go_simp;done) | (go_simp;rfl));intro gb249 hg w42 hbox hb;replace HO_4:=zz31 (Kd.V_below (Kd.V_elderB (by (with_reducible repeat (first | apply Kd.V_alloc | apply Kd.V_drewN | apply Kd.V_drew));exact HO_4.out) gb249 (Nat.le_of_eq hg.symm)) hb);replace HO_40:=zz31 (Kd.R_below (by (with_reducible repeat (first | apply zz12 | apply zz13 | apply zz14));exact HO_40.out) hb);replace HO247:=zz31 (Kd.R_below (by (with_reducible repeat (first | apply zz12 | apply zz13 | apply zz14));exact HO247.out) hb);have BK249:=zz31 (hbox);have GW249:=zz31 ((by rw [hg];exact (zz5 (by repeat first | exact HB.out | apply zz2 | apply zz0 | apply zz1 | refine zz3 ?_ GE233.out | refine zz3 ?_ GE236.out | refine zz3 ?_ GE238.out | refine zz3 ?_ GE243.out)):w.heap.size≤gb249));replace HB:=zz31 (zz4 (by repeat first | exact HB.out | apply zz2 | apply zz0 | apply zz1 | refine zz3 ?_ GE233.out | refine zz3 ?_ GE236.out | refine zz3 ?_ GE238.out | refine zz3 ?_ GE243.out) hb);have GE249:=GW249;have NB233_249:=zz31 ((by rw [hg];exact Nat.ne_of_lt (blk_lt (g:=gb233) (o:=.cells #[.int .i64 a0_0,.slice (some ad235) l0_1.length c0_1] 30 (0,0)) (by (with_reducible repeat (first | refine zz6 ?_ _ | refine zz7 ?_ | refine zz8 ?_ _));exact BK233.out)):gb233 ≠ gb249));have NB249_233:=zz31 ((by rw [hg];exact Nat.ne_of_gt (blk_lt (g:=gb233) (o:=.cells #[.int .i64 a0_0,.slice (some ad235) l0_1.length c0_1] 30 (0,0)) (by (with_reducible repeat (first | refine zz6 ?_ _ | refine zz7 ?_ | refine zz8 ?_ _));exact BK233.out)):gb249 ≠ gb233));replace BK233:=zz31 (zz11 (g:=gb233) (o:=.cells #[.int .i64 a0_0,.slice (some ad235) l0_1.length c0_1] 30 (0,0)) (by (with_reducible repeat (first | refine zz6 ?_ _ | refine zz7 ?_ | refine zz8 ?_ _));exact BK233.out) hb);have NB236_249:=zz31 ((by rw [hg];exact Nat.ne_of_lt (blk_lt (g:=gb236) (o:=.cells #[.int .i64 ((rd_T70 l0_1 x19_1).f0),.int .i64 ((rd_T70 l0_1 x19_1).f1)] 70 (0,0)) (by (with_reducible repeat (first | refine zz6 ?_ _ | refine zz7 ?_ | refine zz8 ?_ _));exact BK236.out)):gb236 ≠ gb249));have NB249_236:=zz31 ((by rw [hg];exact Nat.ne_of_gt (blk_lt (g:=gb236) (o:=.cells #[.int .i64 ((rd_T70 l0_1 x19_1).f0),.int .i64 ((rd_T70 l0_1 x19_1).f1)] 70 (0,0)) (by (with_reducible repeat (first | refine zz6 ?_ _ | refine zz7 ?_ | refine zz8 ?_ _));exact BK236.out)):gb249 ≠ gb236));replace BK236:=zz31 (zz11 (g:=gb236) (o:=.cells #[.int .i64 ((rd_T70 l0_1 x19_1).f0),.int .i64 ((rd_T70 l0_1 x19_1).f1)] 70 (0,0)) (by (with_reducible repeat (first | refine zz6 ?_ _ | refine zz7 ?_ | refine zz8 ?_ _));exact BK236.out) hb);have NB238_249:=zz31 ((by rw [hg];exact Nat.ne_of_lt (blk_lt (g:=gb238) (o:=.cells #[.int .i64 ((rd_T70 l0_1 x26_2).f0),.int .i64 ((rd_T70 l0_1 x26_2).f1)] 70 (0,0)) (by (with_reducible repeat (first | refine zz6 ?_ _ | refine zz7 ?_ | refine zz8 ?_ _));exact BK238.out)):gb238 ≠ gb249));have NB249_238:=zz31 ((by rw [hg];exact Nat.ne_of_gt (blk_lt (g:=gb238) (o:=.cells #[.int .i64 ((rd_T70 l0_1 x26_2).f0),.int .i64 ((rd_T70 l0_1 x26_2).f1)] 70 (0,0)) (by (with_reducible repeat (first | refine zz6 ?_ _ | refine zz7 ?_ | refine zz8 ?_ _));exact BK238.out)):gb249 ≠ gb238));replace BK238:=zz31 (zz11 (g:=gb238) (o:=.cells #[.int .i64 ((rd_T70 l0_1 x26_2).f0),.int .i64 ((rd_T70 l0_1 x26_2).f1)] 70 (0,0)) (by (with_reducible repeat (first | refine zz6 ?_ _ | refine zz7 ?_ | refine zz8 ?_ _));exact BK238.out) hb);have NB243_249:=zz31 ((by rw [hg];exact Nat.ne_of_lt (blk_lt (g:=gb243) (o:=.cells #[.int .i64 ((rd_T70 y239 x42_3).f0),.int .i64 ((rd_T70 y239 x42_3).f1)] 70 (0,0)) (by (with_reducible repeat (first | refine zz6 ?_ _ | refine zz7 ?_ | refine zz8 ?_ _));exact BK243.out)):gb243 ≠ gb249));have NB249_243:=zz31 ((by rw [hg];exact Nat.ne_of_gt (blk_lt (g:=gb243) (o:=.cells #[.int .i64 ((rd_T70 y239 x42_3).f0),.int .i64 ((rd_T70 y239 x42_3).f1)] 70 (0,0)) (by (with_reducible repeat (first | refine zz6 ?_ _ | refine zz7 ?_ | refine zz8 ?_ _));exact BK243.out)):gb249 ≠ gb243));replace BK243:=zz31 (zz11 (g:=gb243) (o:=.cells #[.int .i64 ((rd_T70 y239 x42_3).f0),.int .i64 ((rd_T70 y239 x42_3).f1)] 70 (0,0)) (by (with_reducible repeat (first | refine zz6 ?_ _ | refine zz7 ?_ | refine zz8 ?_ _));exact BK243.out) hb);clear hb hbox hg;have hnb43:=NB249_233.out;have hnc43:=NB233_249.out;have hnb44:=NB249_236.out;have hnc44:=NB236_249.out;have hnb45:=NB249_238.out;have hnc45:=NB238_249.out;have hnb46:=NB249_243.out;have hnc46:=NB243_249.out;have hcz47_0:w42.cell? ⟨gb249,0,none⟩=some (.int .i64 0):=(zz9 BK249.out 0).trans rfl;have hcz47_1:w42.cell? ⟨gb249,1,none⟩=some (.slice none 0 0):=(zz9 BK249.out 1).trans rfl;have hfz47_0:=zz10 BK249.out 0;have hfz47_1:=zz10 BK249.out 1;obtain ⟨Ao48,co48,eo48⟩:=Kd.R_slice HO247.out;subst eo48) | ((with_reducible refine gate_store (t:=30) (p:=11) rfl ?_);refine store_event (t:=30) (p:=11) (v:=?vo_w49) (w1:=((w42.setCell ⟨gb249,0,none⟩ (.int .i64 t244)).setCell ⟨gb249,1,none⟩ (.slice Ao48 t245.length co48))) ?hg ?ho ?hn ?hr ?_;(case ho=>rfl);(case hg=>rfl);(case hn=>rfl);(case hr=>first | (go_simp;done) | (go_simp;rfl));intro w49 hw;replace HO_4:Aside0 (Kd.V k30 30 w49 w.heap.size (fun k_=>(w.heap.size≤k_)∧some k_ ≠ (.slice (some ad242) y239.length co24:Value).ownBlock∧some k_ ≠ (.slice Ao48 t245.length co48:Value).ownBlock∧k_ ≠ gb233∧k_ ≠ gb236∧k_ ≠ gb238∧k_ ≠ gb243∧k_ ≠ gb249) u4 x4_3):=⟨(by rw [hw];exact (by (with_reducible repeat (first | apply Kd.V_alloc | apply Kd.V_drewN | apply Kd.V_drew));exact Kd.V_mono (Kd.V_far (p:=⟨gb249,1,none⟩) (Kd.V_far (p:=⟨gb249,0,none⟩) (Kd.V_mono HO_4.out (fun k_ hk=>(⟨hk,hk.2⟩:_∧k_ ≠ gb249))) (fun _ hk=>hk.2) (.int .i64 t244)) (fun _ hk=>hk.2) (.slice Ao48 t245.length co48)) (fun _ hk=>⟨hk.1.1.1.1.1,⟨hk.1.1.1.1.2.1,⟨hk.1.1.2,⟨hk.1.1.1.1.2.2.1,⟨hk.1.1.1.1.2.2.2.1,⟨hk.1.1.1.1.2.2.2.2,⟨hk.1.1.1.2,hk.1.2⟩⟩⟩⟩⟩⟩⟩)))⟩;replace HO_40:Aside0 (Kd.R k70 70 w49 w.heap.size (fun k_=>(w.heap.size≤k_)∧some k_ ≠ (.slice Ao48 t245.length co48:Value).ownBlock∧k_ ≠ gb236∧k_ ≠ gb238∧k_ ≠ gb243) (.slice (some ad242) y239.length co24) y239):=⟨(by rw [hw];exact (by (with_reducible repeat (first | apply zz12 | apply zz13 | apply zz14));exact Kd.R_mono (Kd.R_far (p:=⟨gb249,1,none⟩) (Kd.R_far (p:=⟨gb249,0,none⟩) (Kd.R_types HO_40.out BK249.out (by decide)) (fun _ hk=>hk.2) (.int .i64 t244)) (fun _ hk=>hk.2) (.slice Ao48 t245.length co48)) (fun _ hk=>⟨hk.1.1.1.1,⟨hk.1.2,⟨hk.1.1.1.2.1,⟨hk.1.1.1.2.2,hk.1.1.2⟩⟩⟩⟩)))⟩;replace HO247:Aside0 (Kd.R k70 70 w49 w.heap.size (fun k_=>(w.heap.size≤k_)∧some k_ ≠ (.slice (some ad242) y239.length co24:Value).ownBlock∧k_ ≠ gb236∧k_ ≠ gb238∧k_ ≠ gb243) (.slice Ao48 t245.length co48) t245):=⟨(by rw [hw];exact (by (with_reducible repeat (first | apply zz12 | apply zz13 | apply zz14));exact Kd.R_mono (Kd.R_far (p:=⟨gb249,1,none⟩) (Kd.R_far (p:=⟨gb249,0,none⟩) (Kd.R_types HO247.out BK249.out (by decide)) (fun _ hk=>hk.2) (.int .i64 t244)) (fun _ hk=>hk.2) (.slice Ao48 t245.length co48)) (fun _ hk=>⟨hk.1.1.1.1.1.1,⟨hk.1.1.1.1.2,⟨hk.1.1.1.2,⟨hk.1.1.2,hk.1.2⟩⟩⟩⟩)))⟩;replace BK233:Aside0 (w49.heap[gb233]?=some (.cells #[.int .i64 a0_0,.slice (some ad235) l0_1.length c0_1] 30 (0,0))):=⟨(by rw [hw];exact (by (with_reducible repeat (first | refine zz6 ?_ _ | refine zz7 ?_ | refine zz8 ?_ _));refine blk_far ?_ NB233_249.out _;(with_reducible repeat (first | refine zz6 ?_ _ | refine zz7 ?_ | refine zz8 ?_ _));refine blk_far ?_ NB233_249.out _;(with_reducible repeat (first | refine zz6 ?_ _ | refine zz7 ?_ | refine zz8 ?_ _));exact BK233.out))⟩;replace BK236:Aside0 (w49.heap[gb236]?=some (.cells #[.int .i64 ((rd_T70 l0_1 x19_1).f0),.int .i64 ((rd_T70 l0_1 x19_1).f1)] 70 (0,0))):=⟨(by rw [hw];exact (by (with_reducible repeat (first | refine zz6 ?_ _ | refine zz7 ?_ | refine zz8 ?_ _));refine blk_far ?_ NB236_249.out _;(with_reducible repeat (first | refine zz6 ?_ _ | refine zz7 ?_ | refine zz8 ?_ _));refine blk_far ?_ NB236_249.out _;(with_reducible repeat (first | refine zz6 ?_ _ | refine zz7 ?_ | refine zz8 ?_ _));exact BK236.out))⟩;replace BK238:Aside0 (w49.heap[gb238]?=some (.cells #[.int .i64 ((rd_T70 l0_1 x26_2).f0),.int .i64 ((rd_T70 l0_1 x26_2).f1)] 70 (0,0))):=⟨(by rw [hw];exact (by (with_reducible repeat (first | refine zz6 ?_ _ | refine zz7 ?_ | refine zz8 ?_ _));refine blk_far ?_ NB238_249.out _;(with_reducible repeat (first | refine zz6 ?_ _ | refine zz7 ?_ | refine zz8 ?_ _));refine blk_far ?_ NB238_249.out _;(with_reducible repeat (first | refine zz6 ?_ _ | refine zz7 ?_ | refine zz8 ?_ _));exact BK238.out))⟩;replace BK243:Aside0 (w49.heap[gb243]?=some (.cells #[.int .i64 ((rd_T70 y239 x42_3).f0),.int .i64 ((rd_T70 y239 x42_3).f1)] 70 (0,0))):=⟨(by rw [hw];exact (by (with_reducible repeat (first | refine zz6 ?_ _ | refine zz7 ?_ | refine zz8 ?_ _));refine blk_far ?_ NB243_249.out _;(with_reducible repeat (first | refine zz6 ?_ _ | refine zz7 ?_ | refine zz8 ?_ _));refine blk_far ?_ NB243_249.out _;(with_reducible repeat (first | refine zz6 ?_ _ | refine zz7 ?_ | refine zz8 ?_ _));exact BK243.out))⟩;replace BK249:Aside0 (w49.heap[gb249]?=some (.cells #[.int .i64 t244,.slice Ao48 t245.length co48] 30 (0,0))):=⟨(by rw [hw];exact (by (with_reducible repeat (first | refine zz6 ?_ _ | refine zz7 ?_ | refine zz8 ?_ _));refine blk_put (cs:=#[.int .i64 t244,.slice none 0 0]) ?_ 1 _ rfl;(with_reducible repeat (first | refine zz6 ?_ _ | refine zz7 ?_ | refine zz8 ?_ _));refine blk_put (cs:=#[.int .i64 0,.slice none 0 0]) ?_ 0 _ rfl;(with_reducible repeat (first | refine zz6 ?_ _ | refine zz7 ?_ | refine zz8 ?_ _));exact BK249.out))⟩;replace HB:Aside0 (Below w.heap.size w w49):=⟨(by rw [hw];exact (by repeat first | exact HB.out | apply zz2 | apply zz0 | apply zz1 | refine zz3 ?_ GE233.out | refine zz3 ?_ GE236.out | refine zz3 ?_ GE238.out | refine zz3 ?_ GE243.out | refine zz3 ?_ GE249.out))⟩;clear hw;have hcz50_0:w49.cell? ⟨gb249,0,none⟩=some (.int .i64 t244):=(zz9 BK249.out 0).trans rfl;have hcz50_1:w49.cell? ⟨gb249,1,none⟩=some (.slice Ao48 t245.length co48):=(zz9 BK249.out 1).trans rfl;have hfz50_0:=zz10 BK249.out 0;have hfz50_1:=zz10 BK249.out 1;obtain ⟨Ao51,co51,eo51⟩:=Kd.V_slice HO_4.out;subst eo51) | ((with_reducible refine gate_callee (f:=53) rfl ?_);refine goesL_ (some 62) rfl rfl Try.func53 (by kernel_rfl) rfl #[.slice Ao51 x4_3.length co51,.agg #[.int .i64 t244,.slice Ao48 t245.length co48]] rfl (by (try simp only [zz26,zz27,zz28]);first | done | rfl | (simp only [zz24,zz25];rfl)) ?_;(with_reducible refine (spec_dePut.calls k3 (fun k_=>((w.heap.size≤k_)∧(some k_ ≠ (.slice (some ad242) y239.length co24:Value).ownBlock∧(some k_ ≠ (.slice Ao48 t245.length co48:Value).ownBlock∧(k_ ≠ gb233∧(k_ ≠ gb236∧(k_ ≠ gb238∧(k_ ≠ gb243∧k_ ≠ gb249)))))))) _ _ x4_3 t244 (fun k_=>some k_=(.slice Ao48 t245.length co48:Value).ownBlock) _ _ t245 t250 _ ?side1 ?side2 A30.out).mono ?_);(case side1=>exact HO_4.out);(case side2=>exact Kd.R_V (Kd.R_tight rfl (Kd.R_types (Kd.R_types (HO247.out) BK233.out (by decide)) BK249.out (by decide))));rintro e w52 ⟨v251,rfl,ho0,hb⟩;refine ⟨_,rfl,?_⟩;replace HO_4:=zz31 (Kd.V_below (by (with_reducible repeat (first | apply Kd.V_alloc | apply Kd.V_drewN | apply Kd.V_drew));exact HO_4.out) hb);have HO252:=zz31 (Kd.V_lower (Kd.V_mono (ok':=fun k_=>(w.heap.size≤k_)∧some k_ ≠ (.slice (some ad242) y239.length co24:Value).ownBlock∧k_ ≠ gb233∧k_ ≠ gb236∧k_ ≠ gb238∧k_ ≠ gb243∧k_ ≠ gb249) ho0 (fun k_ hk_=>⟨Or.elim hk_ (fun hs_=>Or.elim hs_ (fun hs_=>hs_.1) (fun hs_=>((Kd.R_types (Kd.R_types (HO247.out) BK233.out (by decide)) BK249.out (by decide)).1 k_ hs_.symm).1.1.1)) (fun hn_=>(Nat.le_trans (zz5 (by repeat first | exact HB.out | apply zz2 | apply zz0 | apply zz1 | refine zz3 ?_ GE233.out | refine zz3 ?_ GE236.out | refine zz3 ?_ GE238.out | refine zz3 ?_ GE243.out | refine zz3 ?_ GE249.out)) hn_)),Or.elim hk_ (fun hs_=>Or.elim hs_ (fun hs_=>hs_.2.1) (fun hs_=>((Kd.R_types (Kd.R_types (HO247.out) BK233.out (by decide)) BK249.out (by decide)).1 k_ hs_.symm).1.1.2.1)) (fun hn_=>(Kd.fresh' (Kd.R_lt (by (with_reducible repeat (first | apply zz12 | apply zz13 | apply zz14));exact HO_40.out)) k_ hn_)),Or.elim hk_ (fun hs_=>Or.elim hs_ (fun hs_=>hs_.2.2.2.1) (fun hs_=>((Kd.R_types (Kd.R_types (HO247.out) BK233.out (by decide)) BK249.out (by decide)).1 k_ hs_.symm).1.2)) (fun hn_=>(Kd.freshB (g:=gb233) (o:=.cells #[.int .i64 a0_0,.slice (some ad235) l0_1.length c0_1] 30 (0,0)) (by (with_reducible repeat (first | refine zz6 ?_ _ | refine zz7 ?_ | refine zz8 ?_ _));exact BK233.out) k_ hn_)),Or.elim hk_ (fun hs_=>Or.elim hs_ (fun hs_=>hs_.2.2.2.2.1) (fun hs_=>((Kd.R_types (Kd.R_types (HO247.out) BK233.out (by decide)) BK249.out (by decide)).1 k_ hs_.symm).1.1.2.2.1)) (fun hn_=>(Kd.freshB (g:=gb236) (o:=.cells #[.int .i64 ((rd_T70 l0_1 x19_1).f0),.int .i64 ((rd_T70 l0_1 x19_1).f1)] 70 (0,0)) (by (with_reducible repeat (first | refine zz6 ?_ _ | refine zz7 ?_ | refine zz8 ?_ _));exact BK236.out) k_ hn_)),Or.elim hk_ (fun hs_=>Or.elim hs_ (fun hs_=>hs_.2.2.2.2.2.1) (fun hs_=>((Kd.R_types (Kd.R_types (HO247.out) BK233.out (by decide)) BK249.out (by decide)).1 k_ hs_.symm).1.1.2.2.2.1)) (fun hn_=>(Kd.freshB (g:=gb238) (o:=.cells #[.int .i64 ((rd_T70 l0_1 x26_2).f0),.int .i64 ((rd_T70 l0_1 x26_2).f1)] 70 (0,0)) (by (with_reducible repeat (first | refine zz6 ?_ _ | refine zz7 ?_ | refine zz8 ?_ _));exact BK238.out) k_ hn_)),Or.elim hk_ (fun hs_=>Or.elim hs_ (fun hs_=>hs_.2.2.2.2.2.2.1) (fun hs_=>((Kd.R_types (Kd.R_types (HO247.out) BK233.out (by decide)) BK249.out (by decide)).1 k_ hs_.symm).1.1.2.2.2.2)) (fun hn_=>(Kd.freshB (g:=gb243) (o:=.cells #[.int .i64 ((rd_T70 y239 x42_3).f0),.int .i64 ((rd_T70 y239 x42_3).f1)] 70 (0,0)) (by (with_reducible repeat (first | refine zz6 ?_ _ | refine zz7 ?_ | refine zz8 ?_ _));exact BK243.out) k_ hn_)),Or.elim hk_ (fun hs_=>Or.elim hs_ (fun hs_=>hs_.2.2.2.2.2.2.2) (fun hs_=>((Kd.R_types (Kd.R_types (HO247.out) BK233.out (by decide)) BK249.out (by decide)).1 k_ hs_.symm).2)) (fun hn_=>(Kd.freshB (g:=gb249) (o:=.cells #[.int .i64 t244,.slice Ao48 t245.length co48] 30 (0,0)) (by (with_reducible repeat (first | refine zz6 ?_ _ | refine zz7 ?_ | refine zz8 ?_ _));exact BK249.out) k_ hn_))⟩)) (zz5 (by repeat first | exact HB.out | apply zz2 | apply zz0 | apply zz1 | refine zz3 ?_ GE233.out | refine zz3 ?_ GE236.out | refine zz3 ?_ GE238.out | refine zz3 ?_ GE243.out | refine zz3 ?_ GE249.out)));replace HO_40:=zz31 (Kd.R_below (by (with_reducible repeat (first | apply zz12 | apply zz13 | apply zz14));exact HO_40.out) hb);replace HO247:=zz31 (Kd.R_below (by (with_reducible repeat (first | apply zz12 | apply zz13 | apply zz14));exact HO247.out) hb);replace BK233:=zz31 (zz11 (g:=gb233) (o:=.cells #[.int .i64 a0_0,.slice (some ad235) l0_1.length c0_1] 30 (0,0)) (by (with_reducible repeat (first | refine zz6 ?_ _ | refine zz7 ?_ | refine zz8 ?_ _));exact BK233.out) hb);replace BK236:=zz31 (zz11 (g:=gb236) (o:=.cells #[.int .i64 ((rd_T70 l0_1 x19_1).f0),.int .i64 ((rd_T70 l0_1 x19_1).f1)] 70 (0,0)) (by (with_reducible repeat (first | refine zz6 ?_ _ | refine zz7 ?_ | refine zz8 ?_ _));exact BK236.out) hb);replace BK238:=zz31 (zz11 (g:=gb238) (o:=.cells #[.int .i64 ((rd_T70 l0_1 x26_2).f0),.int .i64 ((rd_T70 l0_1 x26_2).f1)] 70 (0,0)) (by (with_reducible repeat (first | refine zz6 ?_ _ | refine zz7 ?_ | refine zz8 ?_ _));exact BK238.out) hb);replace BK243:=zz31 (zz11 (g:=gb243) (o:=.cells #[.int .i64 ((rd_T70 y239 x42_3).f0),.int .i64 ((rd_T70 y239 x42_3).f1)] 70 (0,0)) (by (with_reducible repeat (first | refine zz6 ?_ _ | refine zz7 ?_ | refine zz8 ?_ _));exact BK243.out) hb);replace BK249:=zz31 (zz11 (g:=gb249) (o:=.cells #[.int .i64 t244,.slice Ao48 t245.length co48] 30 (0,0)) (by (with_reducible repeat (first | refine zz6 ?_ _ | refine zz7 ?_ | refine zz8 ?_ _));exact BK249.out) hb);replace HB:=zz31 (zz4 (by repeat first | exact HB.out | apply zz2 | apply zz0 | apply zz1 | refine zz3 ?_ GE233.out | refine zz3 ?_ GE236.out | refine zz3 ?_ GE238.out | refine zz3 ?_ GE243.out | refine zz3 ?_ GE249.out) hb);(try clear hb);(try clear hb2);(try clear hk);(try clear hi);(try clear ho0)))
                  go_roundg k3
                  case measure=>have:=HK1.out;have:=HK2.out;have:=HK3.out;omega
                  case rel=>exact ⟨(t250),(wrap64 (x42_3+1)),(by first | rfl | (simp;done) | (simp [*];done)),H',⟨by have:=HK1.out;have:=HK2.out;have:=HK3.out;omega⟩,⟨by (with_reducible repeat (first | apply Kd.V_alloc | apply Kd.V_drewN | apply Kd.V_drew));exact Kd.V_mono HO252.out (fun _ hk=>⟨hk.1,⟨hk.2.1,⟨hk.2.2.1,⟨hk.2.2.2.1,hk.2.2.2.2.1⟩⟩⟩⟩)⟩,⟨by (with_reducible repeat (first | apply zz12 | apply zz13 | apply zz14));exact Kd.R_mono HO_40.out (fun _ hk=>⟨hk.1,⟨hk.2.2.1,hk.2.2.2.1⟩⟩)⟩,⟨by (with_reducible repeat (first | refine zz6 ?_ _ | refine zz7 ?_ | refine zz8 ?_ _));exact BK233.out⟩,⟨by (with_reducible repeat (first | refine zz6 ?_ _ | refine zz7 ?_ | refine zz8 ?_ _));exact BK236.out⟩,⟨by (with_reducible repeat (first | refine zz6 ?_ _ | refine zz7 ?_ | refine zz8 ?_ _));exact BK238.out⟩,⟨by repeat first | exact HB.out | apply zz2 | apply zz0 | apply zz1 | refine zz3 ?_ GE233.out | refine zz3 ?_ GE236.out | refine zz3 ?_ GE238.out | refine zz3 ?_ GE243.out | refine zz3 ?_ GE249.out⟩⟩
                 ·replace c29:=Bool.eq_false_iff.mpr c29
                  subst c29
                  have H1:(spec_AllExchanges.l2 k3 x4_3 l0_1 (l0_1.length:Int) x19_1 l0_1 (l0_1.length:Int) x26_2 y239 (y239.length:Int) (wrap64 (x42_3+1)) a0_0 l0_1 ((rd_T70 l0_1 x19_1).f0) ((rd_T70 l0_1 x19_1).f1))=some (r1,r2):=by rw [if_neg (show ¬ (false=true) by decide)] at H;exact H
                  clear H
                  have H:=H1
                  clear H1
                  have H':=zz31 H
                  clear H
                  have p242:0≤(x42_3:Int):=zz29 (by first | (with_reducible assumption) | assumption)
                  have q242:x42_3 < (y239.length:Int):=zz29 (by first | (with_reducible assumption) | assumption)
                  obtain ⟨ad242,e242,hx242_0,hx242_1⟩:=at_T70 (Kd.R_reads' HO_40.out).2.2 x42_3 p242 q242
                  cases e242
                  replace p242:=eq_true p242
                  replace q242:=eq_true q242
                  go_wp2_with (first | ((with_reducible refine gate_dst (N:=10) rfl ?_);refine box_event ?hg (N:=10) ?hd (cs:=#[.int .i64 0,.int .i64 0]) (t:=70) ?hr ?_;(case hd=>rfl);(case hg=>rfl);(case hr=>first | (go_simp;done) | (go_simp;rfl));intro gb243 hg w53 hbox hb;replace HO_4:=zz31 (Kd.V_below (Kd.V_elderB (by (with_reducible repeat (first | apply Kd.V_alloc | apply Kd.V_drewN | apply Kd.V_drew));exact HO_4.out) gb243 (Nat.le_of_eq hg.symm)) hb);replace HO_40:=zz31 (Kd.R_below (Kd.R_elderB (by (with_reducible repeat (first | apply zz12 | apply zz13 | apply zz14));exact HO_40.out) gb243 (Nat.le_of_eq hg.symm)) hb);have BK243:=zz31 (hbox);have GW243:=zz31 ((by rw [hg];exact (zz5 (by repeat first | exact HB.out | apply zz2 | apply zz0 | apply zz1 | refine zz3 ?_ GE233.out | refine zz3 ?_ GE236.out | refine zz3 ?_ GE238.out)):w.heap.size≤gb243));replace HB:=zz31 (zz4 (by repeat first | exact HB.out | apply zz2 | apply zz0 | apply zz1 | refine zz3 ?_ GE233.out | refine zz3 ?_ GE236.out | refine zz3 ?_ GE238.out) hb);have GE243:=GW243;have NB233_243:=zz31 ((by rw [hg];exact Nat.ne_of_lt (blk_lt (g:=gb233) (o:=.cells #[.int .i64 a0_0,.slice (some ad235) l0_1.length c0_1] 30 (0,0)) (by (with_reducible repeat (first | refine zz6 ?_ _ | refine zz7 ?_ | refine zz8 ?_ _));exact BK233.out)):gb233 ≠ gb243));have NB243_233:=zz31 ((by rw [hg];exact Nat.ne_of_gt (blk_lt (g:=gb233) (o:=.cells #[.int .i64 a0_0,.slice (some ad235) l0_1.length c0_1] 30 (0,0)) (by (with_reducible repeat (first | refine zz6 ?_ _ | refine zz7 ?_ | refine zz8 ?_ _));exact BK233.out)):gb243 ≠ gb233));replace BK233:=zz31 (zz11 (g:=gb233) (o:=.cells #[.int .i64 a0_0,.slice (some ad235) l0_1.length c0_1] 30 (0,0)) (by (with_reducible repeat (first | refine zz6 ?_ _ | refine zz7 ?_ | refine zz8 ?_ _));exact BK233.out) hb);have NB236_243:=zz31 ((by rw [hg];exact Nat.ne_of_lt (blk_lt (g:=gb236) (o:=.cells #[.int .i64 ((rd_T70 l0_1 x19_1).f0),.int .i64 ((rd_T70 l0_1 x19_1).f1)] 70 (0,0)) (by (with_reducible repeat (first | refine zz6 ?_ _ | refine zz7 ?_ | refine zz8 ?_ _));exact BK236.out)):gb236 ≠ gb243));have NB243_236:=zz31 ((by rw [hg];exact Nat.ne_of_gt (blk_lt (g:=gb236) (o:=.cells #[.int .i64 ((rd_T70 l0_1 x19_1).f0),.int .i64 ((rd_T70 l0_1 x19_1).f1)] 70 (0,0)) (by (with_reducible repeat (first | refine zz6 ?_ _ | refine zz7 ?_ | refine zz8 ?_ _));exact BK236.out)):gb243 ≠ gb236));replace BK236:=zz31 (zz11 (g:=gb236) (o:=.cells #[.int .i64 ((rd_T70 l0_1 x19_1).f0),.int .i64 ((rd_T70 l0_1 x19_1).f1)] 70 (0,0)) (by (with_reducible repeat (first | refine zz6 ?_ _ | refine zz7 ?_ | refine zz8 ?_ _));exact BK236.out) hb);have NB238_243:=zz31 ((by rw [hg];exact Nat.ne_of_lt (blk_lt (g:=gb238) (o:=.cells #[.int .i64 ((rd_T70 l0_1 x26_2).f0),.int .i64 ((rd_T70 l0_1 x26_2).f1)] 70 (0,0)) (by (with_reducible repeat (first | refine zz6 ?_ _ | refine zz7 ?_ | refine zz8 ?_ _));exact BK238.out)):gb238 ≠ gb243));have NB243_238:=zz31 ((by rw [hg];exact Nat.ne_of_gt (blk_lt (g:=gb238) (o:=.cells #[.int .i64 ((rd_T70 l0_1 x26_2).f0),.int .i64 ((rd_T70 l0_1 x26_2).f1)] 70 (0,0)) (by (with_reducible repeat (first | refine zz6 ?_ _ | refine zz7 ?_ | refine zz8 ?_ _));exact BK238.out)):gb243 ≠ gb238));replace BK238:=zz31 (zz11 (g:=gb238) (o:=.cells #[.int .i64 ((rd_T70 l0_1 x26_2).f0),.int .i64 ((rd_T70 l0_1 x26_2).f1)] 70 (0,0)) (by (with_reducible repeat (first | refine zz6 ?_ _ | refine zz7 ?_ | refine zz8 ?_ _));exact BK238.out) hb);clear hb hbox hg;have hnb54:=NB243_233.out;have hnc54:=NB233_243.out;have hnb55:=NB243_236.out;have hnc55:=NB236_243.out;have hnb56:=NB243_238.out;have hnc56:=NB238_243.out;have hcz57_0:w53.cell? ⟨gb243,0,none⟩=some (.int .i64 0):=(zz9 BK243.out 0).trans rfl;have hcz57_1:w53.cell? ⟨gb243,1,none⟩=some (.int .i64 0):=(zz9 BK243.out 1).trans rfl;have hfz57_0:=zz10 BK243.out 0;have hfz57_1:=zz10 BK243.out 1;have hnb58:=NB233_236.out;have hnc58:=NB236_233.out;have hnb59:=NB233_238.out;have hnc59:=NB238_233.out;have hcz60_0:w53.cell? ⟨gb233,0,none⟩=some (.int .i64 a0_0):=(zz9 BK233.out 0).trans rfl;have hcz60_1:w53.cell? ⟨gb233,1,none⟩=some (.slice (some ad235) l0_1.length c0_1):=(zz9 BK233.out 1).trans rfl;have hfz60_0:=zz10 BK233.out 0;have hfz60_1:=zz10 BK233.out 1;have hnb61:=NB236_238.out;have hnc61:=NB238_236.out;have hcz62_0:w53.cell? ⟨gb236,0,none⟩=some (.int .i64 ((rd_T70 l0_1 x19_1).f0)):=(zz9 BK236.out 0).trans rfl;have hcz62_1:w53.cell? ⟨gb236,1,none⟩=some (.int .i64 ((rd_T70 l0_1 x19_1).f1)):=(zz9 BK236.out 1).trans rfl;have hfz62_0:=zz10 BK236.out 0;have hfz62_1:=zz10 BK236.out 1) | ((with_reducible refine gate_callee (f:=52) rfl ?_);refine goesL_ (some 56) rfl rfl Try.func52 (by kernel_rfl) rfl #[.agg #[.int .i64 a0_0,.slice (some ad235) l0_1.length c0_1],.int .i64 ((rd_T70 l0_1 x19_1).f0),.int .i64 ((rd_T70 l0_1 x19_1).f1),.int .i64 ((rd_T70 y239 x42_3).f0),.int .i64 ((rd_T70 y239 x42_3).f1)] rfl (by (try simp only [zz26,zz27,zz28]);first | done | rfl | (simp only [zz24,zz25];rfl)) ?_;(with_reducible refine (spec_deExchange.calls k3 a0_0 _ _ l0_1 ((rd_T70 l0_1 x19_1).f0) ((rd_T70 l0_1 x19_1).f1) ((rd_T70 y239 x42_3).f0) ((rd_T70 y239 x42_3).f1) t244 t245 false _ ?side1 ?side2 A28.out).mono ?_);(case side1=>exact Kd.C_below HR0_1.out (by repeat first | exact HB.out | apply zz2 | apply zz0 | apply zz1 | refine zz3 ?_ GE233.out | refine zz3 ?_ GE236.out | refine zz3 ?_ GE238.out | refine zz3 ?_ GE243.out));(case side2=>exact HC0_1.out);rintro e w63 ⟨v246,rfl,ho0,hb⟩;refine ⟨_,rfl,?_⟩;replace HO_4:=zz31 (Kd.V_elder' (by (with_reducible repeat (first | apply Kd.V_alloc | apply Kd.V_drewN | apply Kd.V_drew));exact (Kd.V_mono (Kd.V_far (p:=⟨gb243,1,none⟩) (Kd.V_far (p:=⟨gb243,0,none⟩) (Kd.V_mono HO_4.out (fun k_ hk=>(⟨hk,hk.2⟩:_∧k_ ≠ gb243))) (fun _ hk=>hk.2) (.int .i64 ((rd_T70 y239 x42_3).f0))) (fun _ hk=>hk.2) (.int .i64 ((rd_T70 y239 x42_3).f1))) (fun _ h_=>h_.1))) (Kd.R_base ho0) hb);have HO247:=zz31 (Kd.R_lower (Kd.R_newB (Kd.R_newB (Kd.R_newB (Kd.R_new' (Kd.R_newM (M:=fun k_=>(w.heap.size≤k_)) ho0 (zz5 (by repeat first | exact HB.out | apply zz2 | apply zz0 | apply zz1 | refine zz3 ?_ GE233.out | refine zz3 ?_ GE236.out | refine zz3 ?_ GE238.out | refine zz3 ?_ GE243.out)) (fun k_ h_=>h_)) (Kd.R_lt (by (with_reducible repeat (first | apply zz12 | apply zz13 | apply zz14));exact (Kd.R_mono (Kd.R_far (p:=⟨gb243,1,none⟩) (Kd.R_far (p:=⟨gb243,0,none⟩) (Kd.R_mono HO_40.out (fun k_ hk=>(⟨hk,hk.2⟩:_∧k_ ≠ gb243))) (fun _ hk=>hk.2) (.int .i64 ((rd_T70 y239 x42_3).f0))) (fun _ hk=>hk.2) (.int .i64 ((rd_T70 y239 x42_3).f1))) (fun _ h_=>h_.1))))) (g:=gb236) (o:=.cells #[.int .i64 ((rd_T70 l0_1 x19_1).f0),.int .i64 ((rd_T70 l0_1 x19_1).f1)] 70 (0,0)) (by (with_reducible repeat (first | refine zz6 ?_ _ | refine zz7 ?_ | refine zz8 ?_ _));refine blk_far ?_ NB236_243.out _;(with_reducible repeat (first | refine zz6 ?_ _ | refine zz7 ?_ | refine zz8 ?_ _));refine blk_far ?_ NB236_243.out _;(with_reducible repeat (first | refine zz6 ?_ _ | refine zz7 ?_ | refine zz8 ?_ _));exact BK236.out)) (g:=gb238) (o:=.cells #[.int .i64 ((rd_T70 l0_1 x26_2).f0),.int .i64 ((rd_T70 l0_1 x26_2).f1)] 70 (0,0)) (by (with_reducible repeat (first | refine zz6 ?_ _ | refine zz7 ?_ | refine zz8 ?_ _));refine blk_far ?_ NB238_243.out _;(with_reducible repeat (first | refine zz6 ?_ _ | refine zz7 ?_ | refine zz8 ?_ _));refine blk_far ?_ NB238_243.out _;(with_reducible repeat (first | refine zz6 ?_ _ | refine zz7 ?_ | refine zz8 ?_ _));exact BK238.out)) (g:=gb243) (o:=.cells #[.int .i64 ((rd_T70 y239 x42_3).f0),.int .i64 ((rd_T70 y239 x42_3).f1)] 70 (0,0)) (by (with_reducible repeat (first | refine zz6 ?_ _ | refine zz7 ?_ | refine zz8 ?_ _));refine blk_put (cs:=#[.int .i64 ((rd_T70 y239 x42_3).f0),.int .i64 0]) ?_ 1 _ rfl;(with_reducible repeat (first | refine zz6 ?_ _ | refine zz7 ?_ | refine zz8 ?_ _));refine blk_put (cs:=#[.int .i64 0,.int .i64 0]) ?_ 0 _ rfl;(with_reducible repeat (first | refine zz6 ?_ _ | refine zz7 ?_ | refine zz8 ?_ _));exact BK243.out)) (zz5 (by repeat first | exact HB.out | apply zz2 | apply zz0 | apply zz1 | refine zz3 ?_ GE233.out | refine zz3 ?_ GE236.out | refine zz3 ?_ GE238.out | refine zz3 ?_ GE243.out)));replace HO_40:=zz31 (Kd.R_elder' (by (with_reducible repeat (first | apply zz12 | apply zz13 | apply zz14));exact (Kd.R_mono (Kd.R_far (p:=⟨gb243,1,none⟩) (Kd.R_far (p:=⟨gb243,0,none⟩) (Kd.R_mono HO_40.out (fun k_ hk=>(⟨hk,hk.2⟩:_∧k_ ≠ gb243))) (fun _ hk=>hk.2) (.int .i64 ((rd_T70 y239 x42_3).f0))) (fun _ hk=>hk.2) (.int .i64 ((rd_T70 y239 x42_3).f1))) (fun _ h_=>h_.1))) (Kd.R_base ho0) hb);replace BK233:=zz31 (zz11 (g:=gb233) (o:=.cells #[.int .i64 a0_0,.slice (some ad235) l0_1.length c0_1] 30 (0,0)) (by (with_reducible repeat (first | refine zz6 ?_ _ | refine zz7 ?_ | refine zz8 ?_ _));refine blk_far ?_ NB233_243.out _;(with_reducible repeat (first | refine zz6 ?_ _ | refine zz7 ?_ | refine zz8 ?_ _));refine blk_far ?_ NB233_243.out _;(with_reducible repeat (first | refine zz6 ?_ _ | refine zz7 ?_ | refine zz8 ?_ _));exact BK233.out) hb);replace BK236:=zz31 (zz11 (g:=gb236) (o:=.cells #[.int .i64 ((rd_T70 l0_1 x19_1).f0),.int .i64 ((rd_T70 l0_1 x19_1).f1)] 70 (0,0)) (by (with_reducible repeat (first | refine zz6 ?_ _ | refine zz7 ?_ | refine zz8 ?_ _));refine blk_far ?_ NB236_243.out _;(with_reducible repeat (first | refine zz6 ?_ _ | refine zz7 ?_ | refine zz8 ?_ _));refine blk_far ?_ NB236_243.out _;(with_reducible repeat (first | refine zz6 ?_ _ | refine zz7 ?_ | refine zz8 ?_ _));exact BK236.out) hb);replace BK238:=zz31 (zz11 (g:=gb238) (o:=.cells #[.int .i64 ((rd_T70 l0_1 x26_2).f0),.int .i64 ((rd_T70 l0_1 x26_2).f1)] 70 (0,0)) (by (with_reducible repeat (first | refine zz6 ?_ _ | refine zz7 ?_ | refine zz8 ?_ _));refine blk_far ?_ NB238_243.out _;(with_reducible repeat (first | refine zz6 ?_ _ | refine zz7 ?_ | refine zz8 ?_ _));refine blk_far ?_ NB238_243.out _;(with_reducible repeat (first | refine zz6 ?_ _ | refine zz7 ?_ | refine zz8 ?_ _));exact BK238.out) hb);replace BK243:=zz31 (zz11 (g:=gb243) (o:=.cells #[.int .i64 ((rd_T70 y239 x42_3).f0),.int .i64 ((rd_T70 y239 x42_3).f1)] 70 (0,0)) (by (with_reducible repeat (first | refine zz6 ?_ _ | refine zz7 ?_ | refine zz8 ?_ _));refine blk_put (cs:=#[.int .i64 ((rd_T70 y239 x42_3).f0),.int .i64 0]) ?_ 1 _ rfl;(with_reducible repeat (first | refine zz6 ?_ _ | refine zz7 ?_ | refine zz8 ?_ _));refine blk_put (cs:=#[.int .i64 0,.int .i64 0]) ?_ 0 _ rfl;(with_reducible repeat (first | refine zz6 ?_ _ | refine zz7 ?_ | refine zz8 ?_ _));exact BK243.out) hb);replace HB:=zz31 (zz4 (by repeat first | exact HB.out | apply zz2 | apply zz0 | apply zz1 | refine zz3 ?_ GE233.out | refine zz3 ?_ GE236.out | refine zz3 ?_ GE238.out | refine zz3 ?_ GE243.out) hb);(try clear hb);(try clear hb2);(try clear hk);(try clear hi);(try clear ho0)) | ((with_reducible refine gate_dst (N:=11) rfl ?_);refine box_event ?hg (N:=11) ?hd (cs:=#[.int .i64 0,.slice none 0 0]) (t:=30) ?hr ?_;(case hd=>rfl);(case hg=>rfl);(case hr=>first | (go_simp;done) | (go_simp;rfl));intro gb249 hg w64 hbox hb;replace HO_4:=zz31 (Kd.V_below (Kd.V_elderB (by (with_reducible repeat (first | apply Kd.V_alloc | apply Kd.V_drewN | apply Kd.V_drew));exact HO_4.out) gb249 (Nat.le_of_eq hg.symm)) hb);replace HO_40:=zz31 (Kd.R_below (by (with_reducible repeat (first | apply zz12 | apply zz13 | apply zz14));exact HO_40.out) hb);replace HO247:=zz31 (Kd.R_below (by (with_reducible repeat (first | apply zz12 | apply zz13 | apply zz14));exact HO247.out) hb);have BK249:=zz31 (hbox);have GW249:=zz31 ((by rw [hg];exact (zz5 (by repeat first | exact HB.out | apply zz2 | apply zz0 | apply zz1 | refine zz3 ?_ GE233.out | refine zz3 ?_ GE236.out | refine zz3 ?_ GE238.out | refine zz3 ?_ GE243.out)):w.heap.size≤gb249));replace HB:=zz31 (zz4 (by repeat first | exact HB.out | apply zz2 | apply zz0 | apply zz1 | refine zz3 ?_ GE233.out | refine zz3 ?_ GE236.out | refine zz3 ?_ GE238.out | refine zz3 ?_ GE243.out) hb);have GE249:=GW249;have NB233_249:=zz31 ((by rw [hg];exact Nat.ne_of_lt (blk_lt (g:=gb233) (o:=.cells #[.int .i64 a0_0,.slice (some ad235) l0_1.length c0_1] 30 (0,0)) (by (with_reducible repeat (first | refine zz6 ?_ _ | refine zz7 ?_ | refine zz8 ?_ _));exact BK233.out)):gb233 ≠ gb249));have NB249_233:=zz31 ((by rw [hg];exact Nat.ne_of_gt (blk_lt (g:=gb233) (o:=.cells #[.int .i64 a0_0,.slice (some ad235) l0_1.length c0_1] 30 (0,0)) (by (with_reducible repeat (first | refine zz6 ?_ _ | refine zz7 ?_ | refine zz8 ?_ _));exact BK233.out)):gb249 ≠ gb233));replace BK233:=zz31 (zz11 (g:=gb233) (o:=.cells #[.int .i64 a0_0,.slice (some ad235) l0_1.length c0_1] 30 (0,0)) (by (with_reducible repeat (first | refine zz6 ?_ _ | refine zz7 ?_ | refine zz8 ?_ _));exact BK233.out) hb);have NB236_249:=zz31 ((by rw [hg];exact Nat.ne_of_lt (blk_lt (g:=gb236) (o:=.cells #[.int .i64 ((rd_T70 l0_1 x19_1).f0),.int .i64 ((rd_T70 l0_1 x19_1).f1)] 70 (0,0)) (by (with_reducible repeat (first | refine zz6 ?_ _ | refine zz7 ?_ | refine zz8 ?_ _));exact BK236.out)):gb236 ≠ gb249));have NB249_236:=zz31 ((by rw [hg];exact Nat.ne_of_gt (blk_lt (g:=gb236) (o:=.cells #[.int .i64 ((rd_T70 l0_1 x19_1).f0),.int .i64 ((rd_T70 l0_1 x19_1).f1)] 70 (0,0)) (by (with_reducible repeat (first | refine zz6 ?_ _ | refine zz7 ?_ | refine zz8 ?_ _));exact BK236.out)):gb249 ≠ gb236));replace BK236:=zz31 (zz11 (g:=gb236) (o:=.cells #[.int .i64 ((rd_T70 l0_1 x19_1).f0),.int .i64 ((rd_T70 l0_1 x19_1).f1)] 70 (0,0)) (by (with_reducible repeat (first | refine zz6 ?_ _ | refine zz7 ?_ | refine zz8 ?_ _));exact BK236.out) hb);have NB238_249:=zz31 ((by rw [hg];exact Nat.ne_of_lt (blk_lt (g:=gb238) (o:=.cells #[.int .i64 ((rd_T70 l0_1 x26_2).f0),.int .i64 ((rd_T70 l0_1 x26_2).f1)] 70 (0,0)) (by (with_reducible repeat (first | refine zz6 ?_ _ | refine zz7 ?_ | refine zz8 ?_ _));exact BK238.out)):gb238 ≠ gb249));have NB249_238:=zz31 ((by rw [hg];exact Nat.ne_of_gt (blk_lt (g:=gb238) (o:=.cells #[.int .i64 ((rd_T70 l0_1 x26_2).f0),.int .i64 ((rd_T70 l0_1 x26_2).f1)] 70 (0,0)) (by (with_reducible repeat (first | refine zz6 ?_ _ | refine zz7 ?_ | refine zz8 ?_ _));exact BK238.out)):gb249 ≠ gb238));replace BK238:=zz31 (zz11 (g:=gb238) (o:=.cells #[.int .i64 ((rd_T70 l0_1 x26_2).f0),.int .i64 ((rd_T70 l0_1 x26_2).f1)] 70 (0,0)) (by (with_reducible repeat (first | refine zz6 ?_ _ | refine zz7 ?_ | refine zz8 ?_ _));exact BK238.out) hb);have NB243_249:=zz31 ((by rw [hg];exact Nat.ne_of_lt (blk_lt (g:=gb243) (o:=.cells #[.int .i64 ((rd_T70 y239 x42_3).f0),.int .i64 ((rd_T70 y239 x42_3).f1)] 70 (0,0)) (by (with_reducible repeat (first | refine zz6 ?_ _ | refine zz7 ?_ | refine zz8 ?_ _));exact BK243.out)):gb243 ≠ gb249));have NB249_243:=zz31 ((by rw [hg];exact Nat.ne_of_gt (blk_lt (g:=gb243) (o:=.cells #[.int .i64 ((rd_T70 y239 x42_3).f0),.int .i64 ((rd_T70 y239 x42_3).f1)] 70 (0,0)) (by (with_reducible repeat (first | refine zz6 ?_ _ | refine zz7 ?_ | refine zz8 ?_ _));exact BK243.out)):gb249 ≠ gb243));replace BK243:=zz31 (zz11 (g:=gb243) (o:=.cells #[.int .i64 ((rd_T70 y239 x42_3).f0),.int .i64 ((rd_T70 y239 x42_3).f1)] 70 (0,0)) (by (with_reducible repeat (first | refine zz6 ?_ _ | refine zz7 ?_ | refine zz8 ?_ _));exact BK243.out) hb);clear hb hbox hg;have hnb65:=NB249_233.out;have hnc65:=NB233_249.out;have hnb66:=NB249_236.out;have hnc66:=NB236_249.out;have hnb67:=NB249_238.out;have hnc67:=NB238_249.out;have hnb68:=NB249_243.out;have hnc68:=NB243_249.out;have hcz69_0:w64.cell? ⟨gb249,0,none⟩=some (.int .i64 0):=(zz9 BK249.out 0).trans rfl;have hcz69_1:w64.cell? ⟨gb249,1,none⟩=some (.slice none 0 0):=(zz9 BK249.out 1).trans rfl;have hfz69_0:=zz10 BK249.out 0;have hfz69_1:=zz10 BK249.out 1;obtain ⟨Ao70,co70,eo70⟩:=Kd.R_slice HO247.out;subst eo70))
                  go_roundg k3
                  case measure=>have:=HK1.out;have:=HK2.out;have:=HK3.out;omega
                  case rel=>exact ⟨(x4_3),(wrap64 (x42_3+1)),(by first | rfl | (simp;done) | (simp [*];done)),H',⟨by have:=HK1.out;have:=HK2.out;have:=HK3.out;omega⟩,⟨by (with_reducible repeat (first | apply Kd.V_alloc | apply Kd.V_drewN | apply Kd.V_drew));exact Kd.V_mono (Kd.V_far (p:=⟨gb249,1,none⟩) (Kd.V_far (p:=⟨gb249,0,none⟩) (Kd.V_mono HO_4.out (fun k_ hk=>(⟨hk,hk.2⟩:_∧k_ ≠ gb249))) (fun _ hk=>hk.2) (.int .i64 t244)) (fun _ hk=>hk.2) (.slice Ao70 t245.length co70)) (fun _ hk=>⟨hk.1.1.1.1.1,⟨hk.1.1.1.1.2.1,⟨hk.1.1.1.1.2.2.1,⟨hk.1.1.1.1.2.2.2.1,hk.1.1.1.1.2.2.2.2⟩⟩⟩⟩)⟩,⟨by (with_reducible repeat (first | apply zz12 | apply zz13 | apply zz14));exact Kd.R_mono (Kd.R_far (p:=⟨gb249,1,none⟩) (Kd.R_far (p:=⟨gb249,0,none⟩) (Kd.R_types HO_40.out BK249.out (by decide)) (fun _ hk=>hk.2) (.int .i64 t244)) (fun _ hk=>hk.2) (.slice Ao70 t245.length co70)) (fun _ hk=>⟨hk.1.1.1.1,⟨hk.1.1.1.2.1,hk.1.1.1.2.2⟩⟩)⟩,⟨by (with_reducible repeat (first | refine zz6 ?_ _ | refine zz7 ?_ | refine zz8 ?_ _));refine blk_far ?_ NB233_249.out _;(with_reducible repeat (first | refine zz6 ?_ _ | refine zz7 ?_ | refine zz8 ?_ _));refine blk_far ?_ NB233_249.out _;(with_reducible repeat (first | refine zz6 ?_ _ | refine zz7 ?_ | refine zz8 ?_ _));exact BK233.out⟩,⟨by (with_reducible repeat (first | refine zz6 ?_ _ | refine zz7 ?_ | refine zz8 ?_ _));refine blk_far ?_ NB236_249.out _;(with_reducible repeat (first | refine zz6 ?_ _ | refine zz7 ?_ | refine zz8 ?_ _));refine blk_far ?_ NB236_249.out _;(with_reducible repeat (first | refine zz6 ?_ _ | refine zz7 ?_ | refine zz8 ?_ _));exact BK236.out⟩,⟨by (with_reducible repeat (first | refine zz6 ?_ _ | refine zz7 ?_ | refine zz8 ?_ _));refine blk_far ?_ NB238_249.out _;(with_reducible repeat (first | refine zz6 ?_ _ | refine zz7 ?_ | refine zz8 ?_ _));refine blk_far ?_ NB238_249.out _;(with_reducible repeat (first | refine zz6 ?_ _ | refine zz7 ?_ | refine zz8 ?_ _));exact BK238.out⟩,⟨by repeat first | exact HB.out | apply zz2 | apply zz0 | apply zz1 | refine zz3 ?_ GE233.out | refine zz3 ?_ GE236.out | refine zz3 ?_ GE238.out | refine zz3 ?_ GE243.out | refine zz3 ?_ GE249.out⟩⟩
                ·rw [if_neg c27] at H
                 exact absurd H (by simp)
               ·rw [if_neg c26] at H
                exact absurd H (by simp)
              ·rw [if_neg c25] at H
               have c25b0:decide (x42_3 < (y239.length:Int))=false:=decide_eq_false c25
               clear c25
               have H':=zz31 H
               clear H
               go_wp2
               go_roundg k3
               case measure=>have:=HK1.out;have:=HK2.out;have:=HK3.out;omega
               case rel=>exact ⟨(x4_3),(wrap64 (x26_2+1)),(by first | rfl | (simp;done) | (simp [*];done)),H',⟨by have:=HK1.out;have:=HK2.out;have:=HK3.out;omega⟩,⟨by (with_reducible repeat (first | apply Kd.V_alloc | apply Kd.V_drewN | apply Kd.V_drew));exact Kd.V_mono HO_4.out (fun _ hk=>⟨hk.1,⟨hk.2.2.1,hk.2.2.2.1⟩⟩)⟩,⟨by (with_reducible repeat (first | refine zz6 ?_ _ | refine zz7 ?_ | refine zz8 ?_ _));exact BK233.out⟩,⟨by (with_reducible repeat (first | refine zz6 ?_ _ | refine zz7 ?_ | refine zz8 ?_ _));exact BK236.out⟩,⟨by repeat first | exact HB.out | apply zz2 | apply zz0 | apply zz1 | refine zz3 ?_ GE233.out | refine zz3 ?_ GE236.out | refine zz3 ?_ GE238.out⟩⟩
           ·rw [if_neg c17] at H
            exact absurd H (by simp)
          ·rw [if_neg c16] at H
           exact absurd H (by simp)
         ·rw [if_neg c15] at H
          have c15b0:decide (x26_2 < (l0_1.length:Int))=false:=decide_eq_false c15
          clear c15
          have H':=zz31 H
          clear H
          go_wp2
          go_roundg k2
          case measure=>have:=HK1.out;have:=HK2.out;omega
          case rel=>exact ⟨(x4_2),(wrap64 (x19_1+1)),(by first | rfl | (simp;done) | (simp [*];done)),H',⟨by have:=HK1.out;have:=HK2.out;omega⟩,⟨by (with_reducible repeat (first | apply Kd.V_alloc | apply Kd.V_drewN | apply Kd.V_drew));exact Kd.V_mono HO_4.out (fun _ hk=>⟨hk.1,hk.2.1⟩)⟩,⟨by (with_reducible repeat (first | refine zz6 ?_ _ | refine zz7 ?_ | refine zz8 ?_ _));exact BK233.out⟩,⟨by repeat first | exact HB.out | apply zz2 | apply zz0 | apply zz1 | refine zz3 ?_ GE233.out | refine zz3 ?_ GE236.out⟩⟩
      ·rw [if_neg c10] at H
       exact absurd H (by simp)
     ·rw [if_neg c9] at H
      exact absurd H (by simp)
    ·rw [if_neg c8] at H
     have c8b0:decide (x19_1 < (l0_1.length:Int))=false:=decide_eq_false c8
     clear c8
     simp only [Option.some.injEq,Prod.mk.injEq] at H
     obtain ⟨rfl,rfl⟩:=H
     go_wp2
     go_ret2
     exact ⟨_,by first | rfl | (simp [errW_none,errW_some] <;> rfl) | (simp [*,errW_none,errW_some] <;> rfl),by (with_reducible repeat (first | apply Kd.V_alloc | apply Kd.V_drewN | apply Kd.V_drew));exact Kd.V_mono HO_4.out (fun _ hk=>hk.1),by repeat first | exact HB.out | apply zz2 | apply zz0 | apply zz1 | refine zz3 ?_ GE233.out⟩
 ·replace c3:=Bool.eq_false_iff.mpr c3
  subst c3
  have H1:(some (([]:List (S30)),false))=some (r1,r2):=by rw [if_neg (show ¬ (false=true) by decide)] at H;exact H
  clear H
  have H:=H1
  clear H1
  simp only [Option.some.injEq,Prod.mk.injEq] at H
  obtain ⟨rfl,rfl⟩:=H
  go_enter Try.func24,Try.ntmps24
  go_wp2_with (first | ((with_reducible refine gate_dst (N:=1) rfl ?_);refine box_event ?hg (N:=1) ?hd (cs:=#[.int .i64 a0_0,.slice A0_1 l0_1.length c0_1]) (t:=30) ?hr ?_;(case hd=>rfl);(case hg=>rfl);(case hr=>first | (go_simp;done) | (go_simp;rfl));intro gb233 hg w71 hbox hb;have BK233:=zz31 (hbox);have GW233:=zz31 ((by rw [hg];exact (zz5 (by repeat first | exact HB.out | apply zz2 | apply zz0 | apply zz1)):w.heap.size≤gb233));replace HB:=zz31 (zz4 (by repeat first | exact HB.out | apply zz2 | apply zz0 | apply zz1) hb);have GE233:=GW233;clear hb hbox hg;have hcz72_0:w71.cell? ⟨gb233,0,none⟩=some (.int .i64 a0_0):=(zz9 BK233.out 0).trans rfl;have hcz72_1:w71.cell? ⟨gb233,1,none⟩=some (.slice A0_1 l0_1.length c0_1):=(zz9 BK233.out 1).trans rfl;have hfz72_0:=zz10 BK233.out 0;have hfz72_1:=zz10 BK233.out 1) | ((with_reducible refine gate_callee (f:=46) rfl ?_);refine goesL_ (some 14) rfl rfl Try.func46 (by kernel_rfl) rfl #[.agg #[.int .i64 a0_0,.slice A0_1 l0_1.length c0_1]] rfl (by (try simp only [zz26,zz27,zz28]);first | done | rfl | (simp only [zz24,zz25];rfl)) ?_;(with_reducible refine (spec_paGood.calls k a0_0 _ _ l0_1 false _ ?side1 ?side2 A2.out).mono ?_);(case side1=>repeat (first | exact (Kd.C_below HR0_1.out HB.out) | (with_reducible refine zz18 ?_ _) | (with_reducible refine zz19 ?_ _) | (with_reducible refine zz20 ?_)));(case side2=>exact HC0_1.out);rintro e w73 ⟨rfl,hb⟩;refine ⟨_,rfl,?_⟩;replace BK233:=zz31 (zz11 (g:=gb233) (o:=.cells #[.int .i64 a0_0,.slice A0_1 l0_1.length c0_1] 30 (0,0)) (by (with_reducible repeat (first | refine zz6 ?_ _ | refine zz7 ?_ | refine zz8 ?_ _));exact BK233.out) hb);replace HB:=zz31 (zz4 (by repeat first | exact HB.out | apply zz2 | apply zz0 | apply zz1 | refine zz3 ?_ GE233.out) hb);(try clear hb);(try clear hb2);(try clear hk);(try clear hi)))
  go_ret2
  exact ⟨_,by first | rfl | (simp [errW_none,errW_some] <;> rfl) | (simp [*,errW_none,errW_some] <;> rfl),Kd.V_nil _ _ _ _ _,by repeat first | exact HB.out | apply zz2 | apply zz0 | apply zz1 | refine zz3 ?_ GE233.out⟩

-- NOT PRINTED: function 64 (impl_Pair)

/-! ### cmp_Or_int: function 86 -/
def cmp_Or_int.l0:Nat→Int→List Int→Int→Int→Option (Int)
 | 0,_,_,_,_=>none
 | k+1,x3,x6,x7,x8=>if x8 < x7 then (if 0≤x8 then (if x8 < (x6.length:Int) then (if (rd x6 x8)=x3 then (cmp_Or_int.l0 k x3 x6 x7 (wrap64 (x8+1))) else (some (rd x6 x8))) else (none)) else (none)) else (some x3)
def cmp_Or_int.f (k:Nat) (l0:List Int):Option (Int):=cmp_Or_int.l0 k 0 l0 (l0.length:Int) 0
theorem cmp_Or_int.mono_l:∀ k,(∀ y0 y1 y2 y3,LeO (cmp_Or_int.l0 k y0 y1 y2 y3) (cmp_Or_int.l0 (k+1) y0 y1 y2 y3))
 | 0=>fun _ _ _ _ r h=>by simp [cmp_Or_int.l0] at h
 | k+1=>by
  have ih0:=cmp_Or_int.mono_l k
  ·intro y0 y1 y2 y3
   unfold cmp_Or_int.l0
   repeat' first
   | (with_reducible exact ih0 _ _ _ _)
   | (with_reducible exact LeO.refl _)
   | (with_reducible exact LeO.none _)
   | (with_reducible refine LeO.ite ?_ ?_)
   | (with_reducible refine LeO.bind ?_ (fun _=>?_))
   | exact ih0 _ _ _ _
   | exact LeO.none _
   | refine LeO.ite ?_ ?_
   | refine LeO.bind ?_ (fun _=>?_)
theorem cmp_Or_int.mono:∀ a0 k,LeO (cmp_Or_int.f k a0) (cmp_Or_int.f (k+1) a0):=by
 intro a0 k
 have ih0:=cmp_Or_int.mono_l k
 unfold cmp_Or_int.f
 repeat' first
   | (with_reducible exact ih0 _ _ _ _)
   | (with_reducible exact LeO.refl _)
   | (with_reducible exact LeO.none _)
   | (with_reducible refine LeO.ite ?_ ?_)
   | (with_reducible refine LeO.bind ?_ (fun _=>?_))
   | exact ih0 _ _ _ _
   | exact LeO.none _
   | refine LeO.ite ?_ ?_
   | refine LeO.bind ?_ (fun _=>?_)
set_option maxHeartbeats 8000000 in
set_option maxRecDepth 100000 in
theorem cmp_Or_int.calls (k:Nat) (A0:Option Addr) (c0:Nat) (l0:List Int) (r:Int) (w:World) (hr0:Kd.C (Kd.int .i64) w A0 l0.length l0) (hc0:l0.length≤c0) (h:cmp_Or_int.f k l0=some r) :
  Calls Try.prog 86 #[.slice A0 l0.length c0] w fun e w'=>e=.returned (.int .i64 r)∧Drawn0 w w':=by
 have HR0:=zz31 hr0
 have HC0:=zz31 hc0
 clear hr0 hc0
 have H:(cmp_Or_int.l0 k 0 l0 (l0.length:Int) 0)=some r:=h
 clear h
 have H':=zz31 H
 clear H
 go_enter Try.func86,Try.ntmps86
 go_wp2
 go_loopg [8] k (fun kq v8 w'=>∃ (x8_1:Int),v8=.int .i64 x8_1∧Aside0 (cmp_Or_int.l0 kq 0 l0 (l0.length:Int) x8_1=some r)∧Aside0 (kq≤k)∧Drawn0 w w')
 case atStart=>exact ⟨(0),(by first | rfl | (simp;done) | (simp [*];done)),H',⟨Nat.le_refl _⟩,by repeat (first | exact Drawn0.refl _ | apply Drawn0.step)⟩
 case round =>
  clear H'
  obtain ⟨x8_1,rfl,HA,HK1,⟨m1,rfl⟩⟩:=hrel
  cases gk with
  | zero=>exact absurd HA.out (by simp [cmp_Or_int.l0])
  | succ k1 =>
   have H:=HA.out
   clear HA
   simp only [cmp_Or_int.l0] at H
   by_cases c2:x8_1 < (l0.length:Int)
   ·rw [if_pos c2] at H
    have c2b0:decide (x8_1 < (l0.length:Int))=true:=decide_eq_true c2
    clear c2
    by_cases c3:0≤x8_1
    ·rw [if_pos c3] at H
     have c3b0:decide (0≤x8_1)=true:=decide_eq_true c3
     clear c3
     by_cases c4:x8_1 < (l0.length:Int)
     ·rw [if_pos c4] at H
      have c4b0:decide (x8_1 < (l0.length:Int))=true:=decide_eq_true c4
      clear c4
      by_cases c5:(rd l0 x8_1)=0
      ·rw [if_pos c5] at H
       have c5b0:((rd l0 x8_1) == 0)=true:=beq_iff_eq.mpr c5
       have c5b1:((rd l0 x8_1) != 0)=false:=bne_eq_false_iff_eq.mpr c5
       clear c5
       have H':=zz31 H
       clear H
       have p253:0≤(x8_1:Int):=zz29 (by first | (with_reducible assumption) | assumption)
       have q253:x8_1 < (l0.length:Int):=zz29 (by first | (with_reducible assumption) | assumption)
       obtain ⟨ad253,e253,hx253_0⟩:=Kd.at_int HR0.out x8_1 p253 q253
       cases e253
       replace p253:=eq_true p253
       replace q253:=eq_true q253
       go_wp2
       go_roundg k1
       case measure=>have:=HK1.out;omega
       case rel=>exact ⟨(wrap64 (x8_1+1)),(by first | rfl | (simp;done) | (simp [*];done)),H',⟨by have:=HK1.out;omega⟩,by repeat (first | exact Drawn0.refl _ | apply Drawn0.step)⟩
      ·rw [if_neg c5] at H
       have c5b0:((rd l0 x8_1) == 0)=false:=beq_eq_false_iff_ne.mpr c5
       have c5b1:((rd l0 x8_1) != 0)=true:=bne_iff_ne.mpr c5
       obtain rfl:=Option.some.inj H
       have p253:0≤(x8_1:Int):=zz29 (by first | (with_reducible assumption) | assumption)
       have q253:x8_1 < (l0.length:Int):=zz29 (by first | (with_reducible assumption) | assumption)
       obtain ⟨ad253,e253,hx253_0⟩:=Kd.at_int HR0.out x8_1 p253 q253
       cases e253
       replace p253:=eq_true p253
       replace q253:=eq_true q253
       go_wp2
       go_ret
       exact ⟨by first | rfl | (simp;done) | (simp [*];done),by repeat (first | exact Drawn0.refl _ | apply Drawn0.step)⟩
     ·rw [if_neg c4] at H
      exact absurd H (by simp)
    ·rw [if_neg c3] at H
     exact absurd H (by simp)
   ·rw [if_neg c2] at H
    have c2b0:decide (x8_1 < (l0.length:Int))=false:=decide_eq_false c2
    clear c2
    obtain rfl:=Option.some.inj H
    go_wp2
    go_ret
    exact ⟨by first | rfl | (simp;done) | (simp [*];done),by repeat (first | exact Drawn0.refl _ | apply Drawn0.step)⟩

/-! ### cmp_isNaN_int: function 103 -/
def cmp_isNaN_int.f (a0:Int):Option (Bool):=some (a0 != a0)
set_option maxHeartbeats 8000000 in
set_option maxRecDepth 100000 in
theorem cmp_isNaN_int.calls (a0:Int) (r:Bool) (w:World) (h:cmp_isNaN_int.f a0=some r) :
  Calls Try.prog 103 #[.int .i64 a0] w fun e w'=>e=.returned (.bool r)∧Drawn0 w w':=by
 have H:(some (a0 != a0))=some r:=h
 clear h
 obtain rfl:=Option.some.inj H
 go_enter Try.func103,Try.ntmps103
 go_wp2
 go_ret
 exact ⟨by first | rfl | (simp;done) | (simp [*];done),by repeat (first | exact Drawn0.refl _ | apply Drawn0.step)⟩

/-! ### cmp_Compare_int: function 87 -/
def cmp_Compare_int.f (a0:Int) (a1:Int):Option (Int):=(cmp_isNaN_int.f a0).bind fun t254=>((cmp_isNaN_int.f a1).bind fun t255=>(if t254=true then (if t255=true then (some 0) else (some (-1))) else (if t255=true then (some 1) else (if a0 < a1 then (some (-1)) else (if a0 > a1 then (some 1) else (some 0))))))
set_option maxHeartbeats 8000000 in
set_option maxRecDepth 100000 in
theorem cmp_Compare_int.calls (a0:Int) (a1:Int) (r:Int) (w:World) (h:cmp_Compare_int.f a0 a1=some r) :
  Calls Try.prog 87 #[.int .i64 a0,.int .i64 a1] w fun e w'=>e=.returned (.int .i64 r)∧Drawn0 w w':=by
 have H:((cmp_isNaN_int.f a0).bind fun t254=>((cmp_isNaN_int.f a1).bind fun t255=>(if t254=true then (if t255=true then (some 0) else (some (-1))) else (if t255=true then (some 1) else (if a0 < a1 then (some (-1)) else (if a0 > a1 then (some 1) else (some 0)))))))=some r:=h
 clear h
 replace H:=zz30.mp H
 obtain ⟨t254,A30,H⟩:=H
 replace H:((cmp_isNaN_int.f a1).bind fun t255=>(if t254=true then (if t255=true then (some 0) else (some (-1))) else (if t255=true then (some 1) else (if a0 < a1 then (some (-1)) else (if a0 > a1 then (some 1) else (some 0))))))=some r:=H
 have A3:=zz31 A30
 clear A30
 replace H:=zz30.mp H
 obtain ⟨t255,A40,H⟩:=H
 replace H:(if t254=true then (if t255=true then (some 0) else (some (-1))) else (if t255=true then (some 1) else (if a0 < a1 then (some (-1)) else (if a0 > a1 then (some 1) else (some 0)))))=some r:=H
 have A4:=zz31 A40
 clear A40
 by_cases c5:t254=true
 ·subst c5
  have H1:(if t255=true then (some 0) else (some (-1)))=some r:=by rw [if_pos rfl] at H;exact H
  clear H
  have H:=H1
  clear H1
  by_cases c6:t255=true
  ·subst c6
   have H1:(some 0)=some r:=by rw [if_pos rfl] at H;exact H
   clear H
   have H:=H1
   clear H1
   obtain rfl:=Option.some.inj H
   go_enter Try.func87,Try.ntmps87
   go_wp2_with (first | ((with_reducible refine gate_callee (f:=103) rfl ?_);refine goesL_ (some 8) rfl rfl Try.func103 (by kernel_rfl) rfl #[.int .i64 a0] rfl (by (try simp only [zz26,zz27,zz28]);first | done | rfl | (simp only [zz24,zz25];rfl)) ?_;(with_reducible refine (cmp_isNaN_int.calls a0 true _ A3.out).mono ?_);rintro e w' ⟨rfl,⟨nd,rfl⟩⟩;refine ⟨_,rfl,?_⟩) | ((with_reducible refine gate_callee (f:=103) rfl ?_);refine goesL_ (some 10) rfl rfl Try.func103 (by kernel_rfl) rfl #[.int .i64 a1] rfl (by (try simp only [zz26,zz27,zz28]);first | done | rfl | (simp only [zz24,zz25];rfl)) ?_;(with_reducible refine (cmp_isNaN_int.calls a1 true _ A4.out).mono ?_);rintro e w' ⟨rfl,⟨nd,rfl⟩⟩;refine ⟨_,rfl,?_⟩))
   go_ret
   exact ⟨by first | rfl | (simp;done) | (simp [*];done),by repeat (first | exact Drawn0.refl _ | apply Drawn0.step)⟩
  ·replace c6:=Bool.eq_false_iff.mpr c6
   subst c6
   have H1:(some (-1))=some r:=by rw [if_neg (show ¬ (false=true) by decide)] at H;exact H
   clear H
   have H:=H1
   clear H1
   obtain rfl:=Option.some.inj H
   go_enter Try.func87,Try.ntmps87
   go_wp2_with (first | ((with_reducible refine gate_callee (f:=103) rfl ?_);refine goesL_ (some 8) rfl rfl Try.func103 (by kernel_rfl) rfl #[.int .i64 a0] rfl (by (try simp only [zz26,zz27,zz28]);first | done | rfl | (simp only [zz24,zz25];rfl)) ?_;(with_reducible refine (cmp_isNaN_int.calls a0 true _ A3.out).mono ?_);rintro e w' ⟨rfl,⟨nd,rfl⟩⟩;refine ⟨_,rfl,?_⟩) | ((with_reducible refine gate_callee (f:=103) rfl ?_);refine goesL_ (some 10) rfl rfl Try.func103 (by kernel_rfl) rfl #[.int .i64 a1] rfl (by (try simp only [zz26,zz27,zz28]);first | done | rfl | (simp only [zz24,zz25];rfl)) ?_;(with_reducible refine (cmp_isNaN_int.calls a1 false _ A4.out).mono ?_);rintro e w' ⟨rfl,⟨nd,rfl⟩⟩;refine ⟨_,rfl,?_⟩))
   go_ret
   exact ⟨by first | rfl | (simp;done) | (simp [*];done),by repeat (first | exact Drawn0.refl _ | apply Drawn0.step)⟩
 ·replace c5:=Bool.eq_false_iff.mpr c5
  subst c5
  have H1:(if t255=true then (some 1) else (if a0 < a1 then (some (-1)) else (if a0 > a1 then (some 1) else (some 0))))=some r:=by rw [if_neg (show ¬ (false=true) by decide)] at H;exact H
  clear H
  have H:=H1
  clear H1
  by_cases c7:t255=true
  ·subst c7
   have H1:(some 1)=some r:=by rw [if_pos rfl] at H;exact H
   clear H
   have H:=H1
   clear H1
   obtain rfl:=Option.some.inj H
   go_enter Try.func87,Try.ntmps87
   go_wp2_with (first | ((with_reducible refine gate_callee (f:=103) rfl ?_);refine goesL_ (some 8) rfl rfl Try.func103 (by kernel_rfl) rfl #[.int .i64 a0] rfl (by (try simp only [zz26,zz27,zz28]);first | done | rfl | (simp only [zz24,zz25];rfl)) ?_;(with_reducible refine (cmp_isNaN_int.calls a0 false _ A3.out).mono ?_);rintro e w' ⟨rfl,⟨nd,rfl⟩⟩;refine ⟨_,rfl,?_⟩) | ((with_reducible refine gate_callee (f:=103) rfl ?_);refine goesL_ (some 10) rfl rfl Try.func103 (by kernel_rfl) rfl #[.int .i64 a1] rfl (by (try simp only [zz26,zz27,zz28]);first | done | rfl | (simp only [zz24,zz25];rfl)) ?_;(with_reducible refine (cmp_isNaN_int.calls a1 true _ A4.out).mono ?_);rintro e w' ⟨rfl,⟨nd,rfl⟩⟩;refine ⟨_,rfl,?_⟩))
   go_ret
   exact ⟨by first | rfl | (simp;done) | (simp [*];done),by repeat (first | exact Drawn0.refl _ | apply Drawn0.step)⟩
  ·replace c7:=Bool.eq_false_iff.mpr c7
   subst c7
   have H1:(if a0 < a1 then (some (-1)) else (if a0 > a1 then (some 1) else (some 0)))=some r:=by rw [if_neg (show ¬ (false=true) by decide)] at H;exact H
   clear H
   have H:=H1
   clear H1
   by_cases c8:a0 < a1
   ·rw [if_pos c8] at H
    have c8b0:decide (a0 < a1)=true:=decide_eq_true c8
    clear c8
    obtain rfl:=Option.some.inj H
    go_enter Try.func87,Try.ntmps87
    go_wp2_with (first | ((with_reducible refine gate_callee (f:=103) rfl ?_);refine goesL_ (some 8) rfl rfl Try.func103 (by kernel_rfl) rfl #[.int .i64 a0] rfl (by (try simp only [zz26,zz27,zz28]);first | done | rfl | (simp only [zz24,zz25];rfl)) ?_;(with_reducible refine (cmp_isNaN_int.calls a0 false _ A3.out).mono ?_);rintro e w' ⟨rfl,⟨nd,rfl⟩⟩;refine ⟨_,rfl,?_⟩) | ((with_reducible refine gate_callee (f:=103) rfl ?_);refine goesL_ (some 10) rfl rfl Try.func103 (by kernel_rfl) rfl #[.int .i64 a1] rfl (by (try simp only [zz26,zz27,zz28]);first | done | rfl | (simp only [zz24,zz25];rfl)) ?_;(with_reducible refine (cmp_isNaN_int.calls a1 false _ A4.out).mono ?_);rintro e w' ⟨rfl,⟨nd,rfl⟩⟩;refine ⟨_,rfl,?_⟩))
    go_ret
    exact ⟨by first | rfl | (simp;done) | (simp [*];done),by repeat (first | exact Drawn0.refl _ | apply Drawn0.step)⟩
   ·rw [if_neg c8] at H
    have c8b0:decide (a0 < a1)=false:=decide_eq_false c8
    clear c8
    by_cases c9:a0 > a1
    ·rw [if_pos c9] at H
     have c9b0:decide (a1 < a0)=true:=decide_eq_true c9
     clear c9
     obtain rfl:=Option.some.inj H
     go_enter Try.func87,Try.ntmps87
     go_wp2_with (first | ((with_reducible refine gate_callee (f:=103) rfl ?_);refine goesL_ (some 8) rfl rfl Try.func103 (by kernel_rfl) rfl #[.int .i64 a0] rfl (by (try simp only [zz26,zz27,zz28]);first | done | rfl | (simp only [zz24,zz25];rfl)) ?_;(with_reducible refine (cmp_isNaN_int.calls a0 false _ A3.out).mono ?_);rintro e w' ⟨rfl,⟨nd,rfl⟩⟩;refine ⟨_,rfl,?_⟩) | ((with_reducible refine gate_callee (f:=103) rfl ?_);refine goesL_ (some 10) rfl rfl Try.func103 (by kernel_rfl) rfl #[.int .i64 a1] rfl (by (try simp only [zz26,zz27,zz28]);first | done | rfl | (simp only [zz24,zz25];rfl)) ?_;(with_reducible refine (cmp_isNaN_int.calls a1 false _ A4.out).mono ?_);rintro e w' ⟨rfl,⟨nd,rfl⟩⟩;refine ⟨_,rfl,?_⟩))
     go_ret
     exact ⟨by first | rfl | (simp;done) | (simp [*];done),by repeat (first | exact Drawn0.refl _ | apply Drawn0.step)⟩
    ·rw [if_neg c9] at H
     have c9b0:decide (a1 < a0)=false:=decide_eq_false c9
     clear c9
     obtain rfl:=Option.some.inj H
     go_enter Try.func87,Try.ntmps87
     go_wp2_with (first | ((with_reducible refine gate_callee (f:=103) rfl ?_);refine goesL_ (some 8) rfl rfl Try.func103 (by kernel_rfl) rfl #[.int .i64 a0] rfl (by (try simp only [zz26,zz27,zz28]);first | done | rfl | (simp only [zz24,zz25];rfl)) ?_;(with_reducible refine (cmp_isNaN_int.calls a0 false _ A3.out).mono ?_);rintro e w' ⟨rfl,⟨nd,rfl⟩⟩;refine ⟨_,rfl,?_⟩) | ((with_reducible refine gate_callee (f:=103) rfl ?_);refine goesL_ (some 10) rfl rfl Try.func103 (by kernel_rfl) rfl #[.int .i64 a1] rfl (by (try simp only [zz26,zz27,zz28]);first | done | rfl | (simp only [zz24,zz25];rfl)) ?_;(with_reducible refine (cmp_isNaN_int.calls a1 false _ A4.out).mono ?_);rintro e w' ⟨rfl,⟨nd,rfl⟩⟩;refine ⟨_,rfl,?_⟩))
     go_ret
     exact ⟨by first | rfl | (simp;done) | (simp [*];done),by repeat (first | exact Drawn0.refl _ | apply Drawn0.step)⟩

/-! ### impl_comparePairs: function 65 -/
def impl_comparePairs.f (k:Nat) (a0_0:Int) (a0_1:Int) (a1_0:Int) (a1_1:Int):Option (Int):=(cmp_Compare_int.f a0_0 a1_0).bind fun t258=>((cmp_Compare_int.f a0_1 a1_1).bind fun t259=>((cmp_Or_int.f k (([t258,t259]:List Int))).bind fun t263=>(some t263)))
theorem impl_comparePairs.mono:∀ a0 a1 a2 a3 k,LeO (impl_comparePairs.f k a0 a1 a2 a3) (impl_comparePairs.f (k+1) a0 a1 a2 a3):=by
 intro a0 a1 a2 a3 k
 unfold impl_comparePairs.f
 repeat' first
   | (with_reducible exact cmp_Or_int.mono _ _)
   | (with_reducible exact LeO.refl _)
   | (with_reducible exact LeO.none _)
   | (with_reducible refine LeO.ite ?_ ?_)
   | (with_reducible refine LeO.bind ?_ (fun _=>?_))
   | exact cmp_Or_int.mono _ _
   | exact LeO.none _
   | refine LeO.ite ?_ ?_
   | refine LeO.bind ?_ (fun _=>?_)
def impl_comparePairs.T1:Bool × List (List Nat × List Nat):=(true,[([],[]),([0],[0]),([],[]),([2],[2]),([1,3],[1,3]),([],[]),([5],[5]),([],[]),([7],[7]),([6,8,4],[6,8]),([4,9],[4,9]),([10,9],[10]),([11,11,0,1,2,3,4,5,6,7,8,9,10,11],[11])])
def impl_comparePairs.B1:List Nat:=[0,1,0,4,15,0,32,0,128,511,1023,2047,4095]
theorem impl_comparePairs.tab1:rtab .any (opsOf Try.f65 1)=impl_comparePairs.T1:=by kernel_rfl
theorem impl_comparePairs.bits1:waitsOk impl_comparePairs.T1.2 impl_comparePairs.B1=true:=by kernel_rfl


namespace Up
def Below (B:Nat) (w w':World):Prop:=Go.RowKit.Below B w w' ∧ w.drawn ≤ w'.drawn
theorem Below.refl (B:Nat) (w:World):Below B w w:=⟨Go.RowKit.Below.refl _ _,Nat.le_refl _⟩
theorem zz0 {B:Nat} {w W:World} (h:Below B w W) (n:Nat):Below B w (W.drewN n):=⟨pw_below_drewN h.1 n,Nat.le_trans h.2 (Nat.le_add_right _ _)⟩
theorem zz1 {B:Nat} {w W:World} (h:Below B w W):Below B w W.drew:=⟨below_drew h.1,Nat.le_trans h.2 (Nat.le_add_right _ _)⟩
theorem zz2 {w W:World} (h:Below w.heap.size w W) (o:Obj):Below w.heap.size w (W.alloc o):=⟨below_alloc h.1 o,h.2⟩
theorem zz3 {w W:World} {g j:Nat} {v:Value} (h:Below w.heap.size w W) (hg:w.heap.size≤g):Below w.heap.size w (W.setCell ⟨g,j,none⟩ v):=⟨below_set h.1 hg,h.2⟩
theorem zz4 {w W w2:World} (h:Below w.heap.size w W) (k:Below W.heap.size W w2):Below w.heap.size w w2:=⟨below_step h.1 k.1,Nat.le_trans h.2 k.2⟩
theorem zz5 {w W:World} (h:Below w.heap.size w W):w.heap.size≤W.heap.size:=h.1.size
theorem zz11 {w w1:World} {g:Nat} {o:Obj} (h:w.heap[g]?=some o) (hb:Below w.heap.size w w1):w1.heap[g]?=some o:=blk_below h hb.1
theorem Below.cell {B:Nat} {w w':World} (h:Below B w w') {a:Addr} (hb:a.block < B):w'.cell? a=w.cell? a:=Go.RowKit.Below.cell h.1 hb
section
variable {P:Program} {ops:Array Oper} {rest:List Oper} {o:Oper} {a:Act} {Q:Exit→Act→World→Prop} {Kc:Act→World→Prop}
theorem box_event {W:World} (hgd:o.guard=none) {N:Tmp} (_hd:o.dst=some N) {cs:Array Value} {t:TypeId}
    (hrun:(execOp a.eval o).run P W=.ok (.value (.pointer (some ⟨W.heap.size,0,none⟩))) (W.alloc (.cells cs t (0,0))))
    (h:∀ g,g=W.heap.size→∀ w1,w1.heap[g]?=some (.cells cs t (0,0))→Below W.heap.size W w1→wpList P ops Q rest (a.put o.dst (.pointer (some ⟨g,0,none⟩))) w1):wpList P ops Q (o :: rest) a W:=
  Kd.event_run hgd hrun (h _ rfl _ (blk_new W _) (zz2 (Below.refl _ _) _))
theorem Kd.R_lit_step {α:Type} (d:Kd α) {w0 W:World} (base e:Nat) (hw:Region.wanted o (yielded ops a.tmps)=true) {N:Tmp} (_hd:o.dst=some N) {xs:List α} {inner:List Value} {ok okp:Nat→Prop}
    (hrun:(execOp a.eval o).run P W=.ok (.value (.slice (some ⟨W.heap.size,0,none⟩) xs.length xs.length)) (W.alloc (.cells inner.toArray e)))
    (hrep:Reps (d.M W base okp) d.sz xs inner) (hok:∀ k,okp k→ok k) (hfresh:ok W.heap.size) (HB:Below base w0 W) (hbase:base≤W.heap.size) (hm:xs.length≤9223372036854775807)
    (h:∀ v1 w1,d.R e w1 base ok v1 xs→Below base w0 w1→W.grownBy w1 none→(∃ b,v1.ownBlock=some b∧W.heap.size≤b)→Kc (a.put o.dst v1) w1):if Region.wanted o (yielded ops a.tmps)=true then Oper.wp P o a W Kc Q else Kc (a.put o.dst undef) W:=by
  refine event_step hw hrun (h _ _ ⟨fun k hk=>?_,inner,?_,?_⟩ ⟨HB.1.alloc hbase _,HB.2⟩ (World.grownBy_alloc W _ none) ⟨W.heap.size,by simp [Value.ownBlock],Nat.le_refl _⟩)
  ·have:W.heap.size=k:=by simpa [Value.ownBlock] using hk
   subst this
   exact hfresh
  ·have h2:=World.ownsRow_lit (base:=base) (e:=e) (size:=d.sz) W inner.toArray xs.length hbase (by simpa [maxLen] using hm) (by simpa using hrep.1)
   simpa using h2
  ·refine hrep.imp_ (fun p c hp=>d.M_mono (fun k hk=>⟨hok k hk.1,fun he=>?_⟩) (Go.Proofs.YtoedkkoafidalaaW.PrintWords.Kd.M_below (d.M_bound hp) (below_alloc (Go.RowKit.Below.refl _ _) _)))
   have h3:k=W.heap.size:=by simpa [Value.ownBlock] using he
   have:=hk.2.2.1
   omega
end
set_option maxHeartbeats 8000000 in
set_option maxRecDepth 100000 in
theorem impl_comparePairs.calls (k:Nat) (a0_0:Int) (a0_1:Int) (a1_0:Int) (a1_1:Int) (r:Int) (w:World) (h:impl_comparePairs.f k a0_0 a0_1 a1_0 a1_1=some r) :
  Calls Try.prog 65 #[.agg #[.int .i64 a0_0,.int .i64 a0_1],.agg #[.int .i64 a1_0,.int .i64 a1_1]] w fun e w'=>e=.returned (.int .i64 r)∧Below w.heap.size w w':=by
 have hu70:=Try.underlying70
 have HB:=zz31 (Below.refl w.heap.size w)
 have H:((cmp_Compare_int.f a0_0 a1_0).bind fun t258=>((cmp_Compare_int.f a0_1 a1_1).bind fun t259=>((cmp_Or_int.f k (([t258,t259]:List Int))).bind fun t263=>(some t263))))=some r:=h
 clear h
 replace H:=zz30.mp H
 obtain ⟨t258,A30,H⟩:=H
 replace H:((cmp_Compare_int.f a0_1 a1_1).bind fun t259=>((cmp_Or_int.f k (([t258,t259]:List Int))).bind fun t263=>(some t263)))=some r:=H
 have A3:=zz31 A30
 clear A30
 replace H:=zz30.mp H
 obtain ⟨t259,A40,H⟩:=H
 replace H:((cmp_Or_int.f k (([t258,t259]:List Int))).bind fun t263=>(some t263))=some r:=H
 have A4:=zz31 A40
 clear A40
 obtain ⟨y260,hy260⟩:∃ y_:List Int,y_=(([t258,t259]:List Int)):=⟨_,rfl⟩
 replace H:((cmp_Or_int.f k y260).bind fun t263=>(some t263))=some r:=by first | (rw [hy260];with_reducible exact H) | (have H2_:=(Option.bind_some _ _).symm.trans H;rw [hy260];with_reducible exact H2_) | (have H2_:=(Option.bind_some _ _).symm.trans H;with_reducible exact H2_) | with_reducible exact H | (rw [hy260];exact H) | exact H
 have Ny260:=zz31 hy260
 clear hy260
 replace H:=zz30.mp H
 obtain ⟨t263,A50,H⟩:=H
 replace H:(some t263)=some r:=H
 have A5:=zz31 A50
 clear A50
 obtain rfl:=Option.some.inj H
 go_enter Try.func65,Try.ntmps65
 try go_wp2_with (first | ((with_reducible refine gate_dst (N:=2) rfl ?_);refine box_event ?hg (N:=2) ?hd (cs:=#[.int .i64 a0_0,.int .i64 a0_1]) (t:=70) ?hr ?_;(case hd=>rfl);(case hg=>rfl);(case hr=>first | (go_simp;done) | (go_simp;rfl));intro gb256 hg w6 hbox hb;have BK256:=zz31 (hbox);have GW256:=zz31 ((by rw [hg];exact (zz5 (by repeat first | exact HB.out | apply zz2 | apply zz0 | apply zz1)):w.heap.size≤gb256));replace HB:=zz31 (zz4 (by repeat first | exact HB.out | apply zz2 | apply zz0 | apply zz1) hb);have GE256:=GW256;clear hb hbox hg) | ((with_reducible refine gate_dst (N:=3) rfl ?_);refine box_event ?hg (N:=3) ?hd (cs:=#[.int .i64 a1_0,.int .i64 a1_1]) (t:=70) ?hr ?_;(case hd=>rfl);(case hg=>rfl);(case hr=>first | (go_simp;done) | (go_simp;rfl));intro gb257 hg w7 hbox hb;have BK257:=zz31 (hbox);have GW257:=zz31 ((by rw [hg];exact (zz5 (by repeat first | exact HB.out | apply zz2 | apply zz0 | apply zz1 | refine zz3 ?_ GE256.out)):w.heap.size≤gb257));replace HB:=zz31 (zz4 (by repeat first | exact HB.out | apply zz2 | apply zz0 | apply zz1 | refine zz3 ?_ GE256.out) hb);have GE257:=GW257;have NB256_257:=zz31 ((by rw [hg];exact Nat.ne_of_lt (blk_lt (g:=gb256) (o:=.cells #[.int .i64 a0_0,.int .i64 a0_1] 70 (0,0)) (by (with_reducible repeat (first | refine zz6 ?_ _ | refine zz7 ?_ | refine zz8 ?_ _));exact BK256.out)):gb256 ≠ gb257));have NB257_256:=zz31 ((by rw [hg];exact Nat.ne_of_gt (blk_lt (g:=gb256) (o:=.cells #[.int .i64 a0_0,.int .i64 a0_1] 70 (0,0)) (by (with_reducible repeat (first | refine zz6 ?_ _ | refine zz7 ?_ | refine zz8 ?_ _));exact BK256.out)):gb257 ≠ gb256));replace BK256:=zz31 (zz11 (g:=gb256) (o:=.cells #[.int .i64 a0_0,.int .i64 a0_1] 70 (0,0)) (by (with_reducible repeat (first | refine zz6 ?_ _ | refine zz7 ?_ | refine zz8 ?_ _));exact BK256.out) hb);clear hb hbox hg))
 replace BK256:=zz31 (zz7 BK256.out)
 replace BK257:=zz31 (zz7 BK257.out)
 replace HB:=zz31 (zz1 HB.out)
 refine start_ (n:=13) (S:=fun w'=>w'.cell? ⟨gb256,0,none⟩=some (.int .i64 a0_0)∧w'.cell? ⟨gb256,1,none⟩=some (.int .i64 a0_1)∧w'.cell? ⟨gb257,0,none⟩=some (.int .i64 a1_0)∧w'.cell? ⟨gb257,1,none⟩=some (.int .i64 a1_1)) (ds:=[]) #[F,F,F,F,F,F,F,F,F,F,F,F,F] (by kernel_rfl) rfl rfl ⟨(zz9 BK256.out 0).trans rfl,(zz9 BK256.out 1).trans rfl,(zz9 BK257.out 0).trans rfl,(zz9 BK257.out 1).trans rfl⟩ (fun hHeld=>?_);refine with_tabW impl_comparePairs.tab1 impl_comparePairs.bits1 (fun HT_ HW_=>?_)
 generalize w7.drew=w8 at BK256 BK257 HB hHeld ⊢
 refine zz32 (v:=?_) (a':=?_) 0 (some 5) #[T,F,F,F,F,F,F,F,F,F,F,F,F] rfl rfl HT_.out (by kernel_rfl) (fun _ _ _ h=>h) (by rfl) (fun w'=>?_) ?_ ?_;rotate_left;(go_simp;with_reducible rfl);rotate_left;(simp only [Act.put,zz21,zz22,zz23,i64_w,i32_w];rfl)
 refine zz32 (v:=?_) (a':=?_) 2 (some 7) #[T,F,T,F,F,F,F,F,F,F,F,F,F] rfl rfl HT_.out (by kernel_rfl) (fun _ _ _ h=>h) (by rfl) (fun w'=>?_) ?_ ?_;rotate_left;(go_simp;with_reducible rfl);rotate_left;(simp only [Act.put,zz21,zz22,zz23,i64_w,i32_w];rfl)
 refine zz32 (v:=?_) (a':=?_) 5 (some 10) #[T,F,T,F,F,T,F,F,F,F,F,F,F] rfl rfl HT_.out (by kernel_rfl) (fun _ _ _ h=>h) (by rfl) (fun w'=>?_) ?_ ?_;rotate_left;(go_simp;with_reducible rfl);rotate_left;(simp only [Act.put,zz21,zz22,zz23,i64_w,i32_w];rfl)
 refine zz32 (v:=?_) (a':=?_) 7 (some 12) #[T,F,T,F,F,T,F,T,F,F,F,F,F] rfl rfl HT_.out (by kernel_rfl) (fun _ _ _ h=>h) (by rfl) (fun w'=>?_) ?_ ?_;rotate_left;(go_simp;with_reducible rfl);rotate_left;(simp only [Act.put,zz21,zz22,zz23,i64_w,i32_w];rfl)
 refine zz33 (v:=?_) (a':=?_) 1 (some 6) #[T,T,T,F,F,T,F,T,F,F,F,F,F] rfl rfl HT_.out HW_.out (by kernel_rfl) (fun _ _ _ h=>h) (by rfl) ?_ hHeld ?_ ?_;rotate_left;(rintro w' ⟨s0,s1,s2,s3⟩;go_simp;with_reducible rfl);rotate_left;(simp only [Act.put,zz21,zz22,zz23,i64_w,i32_w];rfl)
 refine zz33 (v:=?_) (a':=?_) 3 (some 8) #[T,T,T,T,F,T,F,T,F,F,F,F,F] rfl rfl HT_.out HW_.out (by kernel_rfl) (fun _ _ _ h=>h) (by rfl) ?_ hHeld ?_ ?_;rotate_left;(rintro w' ⟨s0,s1,s2,s3⟩;go_simp;with_reducible rfl);rotate_left;(simp only [Act.put,zz21,zz22,zz23,i64_w,i32_w];rfl)
 refine zz33 (v:=?_) (a':=?_) 6 (some 11) #[T,T,T,T,F,T,T,T,F,F,F,F,F] rfl rfl HT_.out HW_.out (by kernel_rfl) (fun _ _ _ h=>h) (by rfl) ?_ hHeld ?_ ?_;rotate_left;(rintro w' ⟨s0,s1,s2,s3⟩;go_simp;with_reducible rfl);rotate_left;(simp only [Act.put,zz21,zz22,zz23,i64_w,i32_w];rfl)
 refine zz33 (v:=?_) (a':=?_) 8 (some 13) #[T,T,T,T,F,T,T,T,T,F,F,F,F] rfl rfl HT_.out HW_.out (by kernel_rfl) (fun _ _ _ h=>h) (by rfl) ?_ hHeld ?_ ?_;rotate_left;(rintro w' ⟨s0,s1,s2,s3⟩;go_simp;with_reducible rfl);rotate_left;(simp only [Act.put,zz21,zz22,zz23,i64_w,i32_w];rfl)
 refine one_ (i:=4) (N:=some 9) #[T,T,T,T,T,T,T,T,T,F,F,F,F] rfl rfl (one_of HT_.out (by kernel_rfl)) (by decide) (fun K hK=>?_)
 refine goes_ Try.func87 (by kernel_rfl) rfl #[.int .i64 a0_0,.int .i64 a1_0] (by rfl) rfl rfl (by (try simp only [zz26,zz27,zz28]);first | done | rfl | (simp only [zz24,zz25];rfl)) ?_
 with_reducible refine (cmp_Compare_int.calls a0_0 a1_0 t258 _ A3.out).mono ?_
 rintro e w' ⟨rfl,⟨nd,rfl⟩⟩
 refine ⟨_,rfl,?_⟩
 refine hK.out _ _ ⟨(zz9 BK256.out 0).trans rfl,(zz9 BK256.out 1).trans rfl,(zz9 BK257.out 0).trans rfl,(zz9 BK257.out 1).trans rfl⟩ (fun hHeld=>?_)
 clear hK K
 refine norm_ (a':=?_) ?_ ?_;rotate_left;(show Act.put _ (some 9) _=_;simp only [Act.put,zz21,zz22,zz23,i64_w,i32_w];rfl)
 refine one_ (i:=9) (N:=some 14) #[T,T,T,T,T,T,T,T,T,T,F,F,F] rfl rfl (one_of HT_.out (by kernel_rfl)) (by decide) (fun K hK=>?_)
 refine goes_ Try.func87 (by kernel_rfl) rfl #[.int .i64 a0_1,.int .i64 a1_1] (by rfl) rfl rfl (by (try simp only [zz26,zz27,zz28]);first | done | rfl | (simp only [zz24,zz25];rfl)) ?_
 with_reducible refine (cmp_Compare_int.calls a0_1 a1_1 t259 _ A4.out).mono ?_
 rintro e w' ⟨rfl,⟨nd,rfl⟩⟩
 refine ⟨_,rfl,?_⟩
 refine hK.out _ _ ⟨(zz9 BK256.out 0).trans rfl,(zz9 BK256.out 1).trans rfl,(zz9 BK257.out 0).trans rfl,(zz9 BK257.out 1).trans rfl⟩ (fun hHeld=>?_)
 clear hK K
 refine norm_ (a':=?_) ?_ ?_;rotate_left;(show Act.put _ (some 14) _=_;simp only [Act.put,zz21,zz22,zz23,i64_w,i32_w];rfl)
 refine one_ (i:=10) (N:=some 15) #[T,T,T,T,T,T,T,T,T,T,T,F,F] rfl rfl (one_of HT_.out (by kernel_rfl)) (by decide) (fun K hK=>?_)
 refine Kd.R_lit_step (Kd.int .i64) _ 3 ?hg (N:=15) ?hd (xs:=([t258,t259]:List Int)) (inner:=[.int .i64 t258,.int .i64 t259]) (ok:=fun _=>True) (okp:=fun _=>True) ?hr ?hp (fun _ hk=>hk) trivial (Below.refl _ _) (Nat.le_refl _) (by simp) ?_;(case hd=>rfl);(case hg=>rfl);(case hr=>first | (go_simp;done) | (go_simp;rfl));(case hp=>exact (Reps.one (show Kd.M (Kd.int .i64) _ _ _ t258 [.int .i64 t258] from rfl) (Reps.one (show Kd.M (Kd.int .i64) _ _ _ t259 [.int .i64 t259] from rfl) (Reps.none _ _))))
 intro v261 w9 ho10 hb hg_ hnew_
 clear hg_ hnew_
 (first | rw [← Ny260.out] at ho10 | (simp only [Int.reduceToNat] at ho10;rw [← Ny260.out] at ho10))
 have HO262:=zz31 (Kd.R_lower ho10 (zz5 (by repeat first | exact HB.out | apply zz2 | apply zz0 | apply zz1 | refine zz3 ?_ GE256.out | refine zz3 ?_ GE257.out)))
 replace BK256:=zz31 (zz11 (g:=gb256) (o:=.cells #[.int .i64 a0_0,.int .i64 a0_1] 70 (0,0)) (by (with_reducible repeat (first | refine zz6 ?_ _ | refine zz7 ?_ | refine zz8 ?_ _));exact BK256.out) hb)
 replace BK257:=zz31 (zz11 (g:=gb257) (o:=.cells #[.int .i64 a1_0,.int .i64 a1_1] 70 (0,0)) (by (with_reducible repeat (first | refine zz6 ?_ _ | refine zz7 ?_ | refine zz8 ?_ _));exact BK257.out) hb)
 replace HB:=zz31 (zz4 (by repeat first | exact HB.out | apply zz2 | apply zz0 | apply zz1 | refine zz3 ?_ GE256.out | refine zz3 ?_ GE257.out) hb)
 clear hb ho10
 obtain ⟨Ao11,co11,eo11⟩:=Kd.R_slice HO262.out
 (first | subst eo11 | (injection eo11 with f1_ f2_ f3_;have f4_:=f1_.symm;have f5_:=f3_.symm;clear f1_ f2_ f3_;subst f4_;subst f5_))
 refine hK.out _ _ ⟨(zz9 BK256.out 0).trans rfl,(zz9 BK256.out 1).trans rfl,(zz9 BK257.out 0).trans rfl,(zz9 BK257.out 1).trans rfl⟩ (fun hHeld=>?_)
 clear hK K
 refine norm_ (a':=?_) ?_ ?_;rotate_left;(show Act.put _ (some 15) _=_;simp only [Act.put,zz21,zz22,zz23,i64_w,i32_w];rfl)
 refine one_ (i:=11) (N:=some 16) #[T,T,T,T,T,T,T,T,T,T,T,T,F] rfl rfl (one_of HT_.out (by kernel_rfl)) (by decide) (fun K hK=>?_)
 refine goes_ Try.func86 (by kernel_rfl) rfl #[.slice Ao11 y260.length co11] (by rfl) rfl rfl (by (try simp only [zz26,zz27,zz28]);first | done | rfl | (simp only [zz24,zz25];rfl)) ?_
 with_reducible refine (cmp_Or_int.calls k _ _ y260 t263 _ ?side1 ?side2 A5.out).mono ?_
 (case side1=>repeat (first | exact (Kd.R_reads' HO262.out).2.2 | (with_reducible refine zz18 ?_ _) | (with_reducible refine zz19 ?_ _) | (with_reducible refine zz20 ?_)))
 (case side2=>exact (Kd.R_reads' HO262.out).2.1)
 rintro e w' ⟨rfl,⟨nd,rfl⟩⟩
 refine ⟨_,rfl,?_⟩
 refine hK.out _ _ ⟨(zz9 BK256.out 0).trans rfl,(zz9 BK256.out 1).trans rfl,(zz9 BK257.out 0).trans rfl,(zz9 BK257.out 1).trans rfl⟩ (fun hHeld=>?_)
 clear hK K
 refine norm_ (a':=?_) ?_ ?_;rotate_left;(show Act.put _ (some 16) _=_;simp only [Act.put,zz21,zz22,zz23,i64_w,i32_w];rfl)
 refine zz32 (v:=?_) (a':=?_) 12 (some 4) #[T,T,T,T,T,T,T,T,T,T,T,T,T] rfl rfl HT_.out (by kernel_rfl) (fun _ _ _ h=>h) (by rfl) (fun w'=>?_) ?_ ?_;rotate_left;(go_simp;with_reducible rfl);rotate_left;(simp only [Act.put,zz21,zz22,zz23,i64_w,i32_w];rfl)
 refine done_ (done_of HT_.out (by kernel_rfl)) ?_
 try go_wp2
 go_ret
 exact ⟨by first | rfl | (simp [errW_none,errW_some] <;> rfl) | (simp [*,errW_none,errW_some] <;> rfl),by repeat first | exact HB.out | apply zz2 | apply zz0 | apply zz1 | refine zz3 ?_ GE256.out | refine zz3 ?_ GE257.out⟩
end Up
theorem impl_comparePairs.calls (k:Nat) (a0_0:Int) (a0_1:Int) (a1_0:Int) (a1_1:Int) (r:Int) (w:World) (h:impl_comparePairs.f k a0_0 a0_1 a1_0 a1_1=some r) :
  Calls Try.prog 65 #[.agg #[.int .i64 a0_0,.int .i64 a0_1],.agg #[.int .i64 a1_0,.int .i64 a1_1]] w fun e w'=>e=.returned (.int .i64 r)∧Below w.heap.size w w':=(Up.impl_comparePairs.calls k a0_0 a0_1 a1_0 a1_1 r w h).mono fun _ _ h=>⟨h.1,h.2.1⟩

/-! ### impl_compareParties: function 35 (a contract of our own) -/
/-- slices.CompareFunc over comparePairs. -/
def cmpL (k:Nat):List S70→List S70→Option Int
 | [],[]=>some 0
 | [],_ :: _=>some (-1)
 | _ :: _,[]=>some 1
 | x :: a,y :: b=>(impl_comparePairs.f k x.f0 x.f1 y.f0 y.f1).bind fun c=>if c=0 then cmpL k a b else some c
theorem cmpL_mono (k:Nat):∀ a b,LeO (cmpL k a b) (cmpL (k+1) a b)
 | [],[]=>LeO.refl _
 | [],_ :: _=>LeO.refl _
 | _ :: _,[]=>LeO.refl _
 | x :: a,y :: b=>LeO.bind (impl_comparePairs.mono _ _ _ _ k) fun c=>LeO.ite (cmpL_mono k a b) (LeO.refl _)
theorem cmpL_lt (k:Nat) (a b:List S70) (i:Nat) (ha:i < a.length) (hb:i < b.length):cmpL k (a.drop i) (b.drop i)=(impl_comparePairs.f k (a.getD i z70).f0 (a.getD i z70).f1 (b.getD i z70).f0 (b.getD i z70).f1).bind fun c=>if c=0 then cmpL k (a.drop (i+1)) (b.drop (i+1)) else some c:=by
 rw [List.drop_eq_getElem_cons ha,List.drop_eq_getElem_cons hb,cmpL]
 simp [List.getD_eq_getElem?_getD,ha,hb]
theorem cmpL_gt (k:Nat) (a b:List S70) (i:Nat) (ha:i < a.length) (hb:b.length≤i):cmpL k (a.drop i) (b.drop i)=some 1:=by
 rw [List.drop_eq_getElem_cons ha,List.drop_eq_nil_of_le hb,cmpL]
theorem cmpL_end (k:Nat) (a b:List S70):cmpL k (a.drop a.length) (b.drop a.length)=if a.length < b.length then some (-1) else some 0:=by
 rw [List.drop_length]
 by_cases h:a.length < b.length
 ·rw [if_pos h,List.drop_eq_getElem_cons h,cmpL]
 ·rw [if_neg h,List.drop_eq_nil_of_le (by omega),cmpL]
/-- The order of pairs, and of rows of pairs. -/
def cmp2 (a b c d:Int):Int:=if a < c then -1 else if c < a then 1 else if b < d then -1 else if d < b then 1 else 0
theorem or2 (k:Nat) (x y:Int):cmp_Or_int.f (k+4) [x,y]=some (if x=0 then y else x):=by
 have w1:wrap64 (0+1)=1:=by unfold wrap64;omega
 have w2:wrap64 (1+1)=2:=by unfold wrap64;omega
 unfold cmp_Or_int.f
 simp only [cmp_Or_int.l0,List.length_cons,List.length_nil]
 have r0:rd [x,y] 0=x:=rfl
 have r1:rd [x,y] 1=y:=rfl
 simp only [w1,w2,r0,r1]
 by_cases hx:x=0
 ·by_cases hy:y=0 <;> simp [hx,hy]
 ·simp [hx]
theorem comparePairs_eq (k:Nat) (a b c d:Int):impl_comparePairs.f (k+4) a b c d=some (cmp2 a b c d):=by
 unfold impl_comparePairs.f cmp_Compare_int.f cmp_isNaN_int.f cmp2
 simp only [bne_self_eq_false,Option.bind_some,Bool.false_eq_true,if_false]
 by_cases h1:a < c
 ·by_cases h2:b < d
  ·simp [h1,h2,or2]
  ·by_cases h3:d < b <;> simp [h1,h2,h3,or2]
 ·by_cases h4:c < a
  ·by_cases h2:b < d
   ·simp [h1,h4,h2,or2]
   ·by_cases h3:d < b <;> simp [h1,h4,h2,h3,or2]
  ·by_cases h2:b < d
   ·simp [h1,h4,h2,or2]
   ·by_cases h3:d < b <;> simp [h1,h4,h2,h3,or2]
def cmpT:List S70→List S70→Int
 | [],[]=>0
 | [],_ :: _=>-1
 | _ :: _,[]=>1
 | x :: a,y :: b=>if cmp2 x.f0 x.f1 y.f0 y.f1=0 then cmpT a b else cmp2 x.f0 x.f1 y.f0 y.f1
theorem cmpL_eq (k:Nat):∀ a b,cmpL (k+4) a b=some (cmpT a b)
 | [],[]=>rfl
 | [],_ :: _=>rfl
 | _ :: _,[]=>rfl
 | x :: a,y :: b=>by
  rw [cmpL,comparePairs_eq,Option.bind_some,cmpL_eq k a b,cmpT]
  split <;> rfl
def mapO {α β:Type} (f:α→Option β):List α→Option (List β)
 | []=>some []
 | x :: xs=>(f x).bind fun y=>(mapO f xs).bind fun ys=>some (y :: ys)
theorem mapO_mono {α β:Type} (f g:α→Option β) (h:∀ x,LeO (f x) (g x)):∀ xs,LeO (mapO f xs) (mapO g xs)
 | []=>LeO.refl _
 | x :: xs=>LeO.bind (h x) fun _=>LeO.bind (mapO_mono f g h xs) fun _=>LeO.refl _
theorem mapO_mem {α β:Type} {f:α→Option β}:∀ {xs:List α} {ys:List β},mapO f xs=some ys→∀ x ∈ xs,∃ y ∈ ys,f x=some y
 | [],_,_,x,hx=>by simp at hx
 | z :: xs,ys,h,x,hx=>by
  rw [mapO] at h
  obtain ⟨y,h1,h⟩:=zz30.1 h
  obtain ⟨zs,h2,h⟩:=zz30.1 h
  injection h with h
  subst h
  rcases List.mem_cons.1 hx with rfl | hx
  ·exact ⟨y,by simp,h1⟩
  ·obtain ⟨v,hv,e⟩:=mapO_mem h2 x hx
   exact ⟨v,by simp [hv],e⟩
theorem mapO_fold {α β σ:Type} {f:α→Option β} (d:β) (g:σ→β→σ):∀ {xs:List α} {ys:List β} (s:σ),mapO f xs=some ys→xs.foldl (fun s x=>g s ((f x).getD d)) s=ys.foldl g s
 | [],ys,s,h=>by simp [mapO] at h;subst h;rfl
 | z :: xs,ys,s,h=>by
  rw [mapO] at h
  obtain ⟨y,h1,h⟩:=zz30.1 h
  obtain ⟨zs,h2,h⟩:=zz30.1 h
  injection h with h
  subst h
  rw [List.foldl_cons,List.foldl_cons,h1,Option.getD_some]
  exact mapO_fold d g _ h2

def impl_compareParties.f (k:Nat) (a0_0:Int) (l0_1:List S70) (a1_0:Int) (l1_1:List S70):Option Int:=if l0_1.length≤9223372036854775807 then cmpL k l0_1 l1_1 else none
theorem impl_compareParties.mono:∀ a0 a1 a2 a3 k,LeO (impl_compareParties.f k a0 a1 a2 a3) (impl_compareParties.f (k+1) a0 a1 a2 a3):=fun _ _ _ _ k=>LeO.ite (cmpL_mono k _ _) (LeO.refl _)
namespace Up
set_option maxHeartbeats 4000000 in
set_option maxRecDepth 100000 in
theorem cmpPair_calls (k:Nat) (A0 A1:Option Addr) (c0 c1:Nat) (l0 l1:List S70) (r:Int) (w:World) (hr0:Kd.C k70 w A0 l0.length l0) (hr1:Kd.C k70 w A1 l1.length l1) (hb0:l0.length≤9223372036854775807) (h:cmpL k l0 l1=some r) :
  Calls Try.prog 64 #[.slice A0 l0.length c0,.slice A1 l1.length c1,.func (.func 65) #[] #[]] w fun e w'=>e=.returned (.int .i64 r)∧Below w.heap.size w w':=by
 have hu:=Try.underlying70
 have HR0:=zz31 hr0
 have HR1:=zz31 hr1
 have HH:=zz31 h
 clear hr0 hr1 h
 go_enter Try.func64,Try.ntmps64
 go_wp2
 go_loopg [13] l0.length (fun gg s13 wr=>∃ i:Nat,i≤l0.length∧l0.length - i≤gg∧s13=.int .i64 i∧Aside0 (Below w.heap.size w wr)∧Aside0 (cmpL k (l0.drop i) (l1.drop i)=some r))
 case atStart=>exact ⟨0,Nat.zero_le _,by omega,rfl,⟨by repeat first | exact Below.refl _ _ | apply zz0⟩,HH⟩
 case round =>
  obtain ⟨i,hi,hg,rfl,HB,HC⟩:=hrel
  by_cases hlt:i < l0.length
  ·have hltz:(i:Int) < (l0.length:Int):=by omega
   obtain ⟨ad,e0,hx0,hx1⟩:=at_T70 HR0.out (i:Int) (by omega) (by omega)
   cases e0
   replace hx0:=(HB.out.cell (World.block_lt_of_cell? w _ hx0)).trans hx0
   replace hx1:=(HB.out.cell (World.block_lt_of_cell? w _ hx1)).trans hx1
   simp only [Int.toNat_natCast] at hx0 hx1
   by_cases hlt1:i < l1.length
   ·have hltz1:¬ (i:Int) ≥ (l1.length:Int):=by omega
    have hltz2:¬ (l1.length:Int)≤(i:Int):=by omega
    have hltz3:(i:Int) < (l1.length:Int):=by omega
    obtain ⟨ad1,e1,hy0,hy1⟩:=at_T70 HR1.out (i:Int) (by omega) (by omega)
    cases e1
    replace hy0:=(HB.out.cell (World.block_lt_of_cell? w _ hy0)).trans hy0
    replace hy1:=(HB.out.cell (World.block_lt_of_cell? w _ hy1)).trans hy1
    simp only [Int.toNat_natCast] at hy0 hy1
    have HC':=HC.out
    rw [cmpL_lt k l0 l1 i hlt hlt1] at HC'
    rw [show l0.getD i z70=rd_T70 l0 (i:Int) from by unfold rd_T70;rw [Int.toNat_natCast],show l1.getD i z70=rd_T70 l1 (i:Int) from by unfold rd_T70;rw [Int.toNat_natCast]] at HC'
    obtain ⟨x,hx⟩:∃ x,x=rd_T70 l0 (i:Int):=⟨_,rfl⟩
    obtain ⟨y,hy⟩:∃ y,y=rd_T70 l1 (i:Int):=⟨_,rfl⟩
    rw [← hx] at hx0 hx1 HC'
    rw [← hy] at hy0 hy1 HC'
    clear hx hy
    obtain ⟨xa,xb⟩:=x
    obtain ⟨ya,yb⟩:=y
    obtain ⟨c,hc,hr⟩:=zz30.1 HC'
    have HP:=zz31 hc
    clear HC' hc
    have hz0:(wr.alloc (Obj.cells #[.int .i64 xa,.int .i64 xb] 70)).cell? (ad1.add (i * 2))=_:=(Below.cell (zz2 (Below.refl wr.heap.size wr) _) (World.block_lt_of_cell? wr _ hy0)).trans hy0
    have hz1:(wr.alloc (Obj.cells #[.int .i64 xa,.int .i64 xb] 70)).cell? ⟨(ad1.add (i * 2)).block,(ad1.add (i * 2)).off+1,none⟩=_:=(Below.cell (zz2 (Below.refl wr.heap.size wr) _) (World.block_lt_of_cell? wr _ hy1)).trans hy1
    by_cases hcz:c=0
    ·rw [if_pos hcz] at hr
     subst hcz
     have HN:=zz31 hr
     clear hr
     go_wp2_with (first | (go_at_call 65; refine (impl_comparePairs.calls k xa xb ya yb 0 _ HP.out).mono ?_; rintro e w2 ⟨rfl, hb⟩; have HB2 := zz31 (zz4 (w := w) (by repeat first | exact HB.out | apply zz0 | apply zz3 | apply zz2) hb); clear hb) | (fail "no arm"))
     go_roundg (l0.length - (i+1))
     case measure=>omega
     case rel=>exact ⟨i+1,by omega,by omega,by go_num,⟨by repeat first | exact HB2.out | apply zz0⟩,HN⟩
    ·rw [if_neg hcz] at hr
     injection hr with hr
     subst hr
     have hcb:(c == 0)=false:=beq_eq_false_iff_ne.2 hcz
     go_wp2_with (first | (go_at_call 65; refine (impl_comparePairs.calls k xa xb ya yb c _ HP.out).mono ?_; rintro e w2 ⟨rfl, hb⟩; have HB2 := zz31 (zz4 (w := w) (by repeat first | exact HB.out | apply zz0 | apply zz3 | apply zz2) hb); clear hb) | (fail "no arm"))
     go_ret
     exact ⟨rfl,by repeat first | exact HB2.out | apply zz0⟩
   ·have hltz1:(i:Int) ≥ (l1.length:Int):=by omega
    have hltz2:(l1.length:Int)≤(i:Int):=by omega
    have HC':=(Option.some.inj ((cmpL_gt k l0 l1 i hlt (by omega)).symm.trans HC.out))
    subst HC'
    go_wp2
    go_ret
    exact ⟨rfl,by repeat first | exact HB.out | apply zz0 | apply zz2 | apply zz3⟩
  ·have hltz:¬ (i:Int) < (l0.length:Int):=by omega
   obtain rfl:i=l0.length:=by omega
   have HC':=HC.out
   rw [cmpL_end] at HC'
   by_cases hlt1:l0.length < l1.length
   ·have hl1:(l0.length:Int) < (l1.length:Int):=by omega
    rw [if_pos hlt1] at HC'
    injection HC' with HC'
    subst HC'
    go_wp2
    go_ret
    exact ⟨rfl,by repeat first | exact HB.out | apply zz0⟩
   ·have hl1:¬ (l0.length:Int) < (l1.length:Int):=by omega
    rw [if_neg hlt1] at HC'
    injection HC' with HC'
    subst HC'
    go_wp2
    go_ret
    exact ⟨rfl,by repeat first | exact HB.out | apply zz0⟩
set_option maxHeartbeats 4000000 in
set_option maxRecDepth 100000 in
theorem impl_compareParties.calls (k:Nat) (a0_0:Int) (A0_1:Option Addr) (c0_1:Nat) (l0_1:List (S70)) (a1_0:Int) (A1_1:Option Addr) (c1_1:Nat) (l1_1:List (S70)) (r:Int) (w:World) (hr0_1:Kd.C k70 w A0_1 l0_1.length l0_1) (hc0_1:l0_1.length≤c0_1) (hr1_1:Kd.C k70 w A1_1 l1_1.length l1_1) (hc1_1:l1_1.length≤c1_1) (h:impl_compareParties.f k a0_0 l0_1 a1_0 l1_1=some r) :
  Calls Try.prog 35 #[.agg #[.int .i64 a0_0,.slice A0_1 l0_1.length c0_1],.agg #[.int .i64 a1_0,.slice A1_1 l1_1.length c1_1]] w fun e w'=>e=.returned (.int .i64 r)∧Below w.heap.size w w':=by
 have hu:=Try.underlying30
 unfold impl_compareParties.f at h
 by_cases hb:l0_1.length≤9223372036854775807
 case neg=>rw [if_neg hb] at h;exact absurd h (by simp)
 rw [if_pos hb] at h
 have HH:=zz31 h
 have HR0:=zz31 hr0_1
 have HR1:=zz31 hr1_1
 clear h hr0_1 hr1_1
 go_enter Try.func35,Try.ntmps35
 go_wp2_with (first | (go_at_call 64; refine (cmpPair_calls k A0_1 A1_1 c0_1 c1_1 l0_1 l1_1 r _ ?_ ?_ hb HH.out).mono ?_; (repeat (first | exact HR0.out | (with_reducible refine zz18 ?_ _) | (with_reducible refine zz19 ?_ _) | (with_reducible refine zz20 ?_))); (repeat (first | exact HR1.out | (with_reducible refine zz18 ?_ _) | (with_reducible refine zz19 ?_ _) | (with_reducible refine zz20 ?_))); rintro e w2 ⟨rfl, hb⟩; have HB2 := zz31 (zz4 (w := w) (by repeat first | exact Below.refl _ _ | apply zz0 | apply zz3 | apply zz2) hb); clear hb) | (fail "no arm"))
 go_ret
 exact ⟨rfl,by repeat first | exact HB2.out | apply zz0⟩
end Up

/-! ### impl_within: function 89 -/
def impl_within.f (a0:Int) (a1:Int) (a2:Int):Option (Bool):=if a1≤a0 then (some (decide (a0≤a2))) else (some false)
set_option maxHeartbeats 8000000 in
set_option maxRecDepth 100000 in
theorem impl_within.calls (a0:Int) (a1:Int) (a2:Int) (r:Bool) (w:World) (h:impl_within.f a0 a1 a2=some r) :
  Calls Try.prog 89 #[.int .i64 a0,.int .i64 a1,.int .i64 a2] w fun e w'=>e=.returned (.bool r)∧Drawn0 w w':=by
 have H:(if a1≤a0 then (some (decide (a0≤a2))) else (some false))=some r:=h
 clear h
 by_cases c4:a1≤a0
 ·rw [if_pos c4] at H
  have c4b0:decide (a1≤a0)=true:=decide_eq_true c4
  clear c4
  obtain rfl:=Option.some.inj H
  go_enter Try.func89,Try.ntmps89
  go_wp2
  go_ret
  exact ⟨by first | rfl | (simp;done) | (simp [*];done),by repeat (first | exact Drawn0.refl _ | apply Drawn0.step)⟩
 ·rw [if_neg c4] at H
  have c4b0:decide (a1≤a0)=false:=decide_eq_false c4
  clear c4
  obtain rfl:=Option.some.inj H
  go_enter Try.func89,Try.ntmps89
  go_wp2
  go_ret
  exact ⟨by first | rfl | (simp;done) | (simp [*];done),by repeat (first | exact Drawn0.refl _ | apply Drawn0.step)⟩

/-! ### impl_areCrowd: function 76 -/
def impl_areCrowd.f (a0:Int):Option (Bool):=(impl_within.f a0 0 12).bind fun t264=>(some t264)
set_option maxHeartbeats 8000000 in
set_option maxRecDepth 100000 in
theorem impl_areCrowd.calls (a0:Int) (r:Bool) (w:World) (h:impl_areCrowd.f a0=some r) :
  Calls Try.prog 76 #[.int .i64 a0] w fun e w'=>e=.returned (.bool r)∧Drawn0 w w':=by
 have H:((impl_within.f a0 0 12).bind fun t264=>(some t264))=some r:=h
 clear h
 replace H:=zz30.mp H
 obtain ⟨t264,A20,H⟩:=H
 replace H:(some t264)=some r:=H
 have A2:=zz31 A20
 clear A20
 obtain rfl:=Option.some.inj H
 go_enter Try.func76,Try.ntmps76
 go_wp2_with (first | ((with_reducible refine gate_callee (f:=89) rfl ?_);refine goesL_ (some 4) rfl rfl Try.func89 (by kernel_rfl) rfl #[.int .i64 a0,.int .i64 0,.int .i64 12] rfl (by (try simp only [zz26,zz27,zz28]);first | done | rfl | (simp only [zz24,zz25];rfl)) ?_;(with_reducible refine (impl_within.calls a0 0 12 t264 _ A2.out).mono ?_);rintro e w' ⟨rfl,⟨nd,rfl⟩⟩;refine ⟨_,rfl,?_⟩))
 go_ret
 exact ⟨by first | rfl | (simp;done) | (simp [*];done),by repeat (first | exact Drawn0.refl _ | apply Drawn0.step)⟩

end Go.Proofs.Ytoedkkoafidalaa.P
