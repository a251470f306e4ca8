-- PRINTED by print.py (a twelfth state) out of the translation. Not trusted: Lean checks it.
import Derived.Test.YtoedkkoafidalaaPx0
import Derived.Test.YtoedkkoafidalaaPx6
namespace Go.Proofs.Ytoedkkoafidalaa.P
open Go.RowKit Go.Proofs.YtoedkkoafidalaaW.PrintWords Go.Proofs.YtoedkkoafidalaaW.PrintLast Go.Proofs.YtoedkkoafidalaaW.PrintMore
open Bool renaming true → T, false → F
attribute [local go_sem] max2_int min2_int max_two min_two max_three min_three max_four min_four   -- for this text's walks alone
set_option linter.unusedVariables false
set_option linter.unusedSimpArgs false

/-! ### impl_renamed: function 41 -/
def impl_renamed.l0:Nat→List Int→List Int→List (S70)→Int→Int→Option (Int × (List (S70)))
 | 0,_,_,_,_,_=>none
 | k+1,x1,x5,x12,x13,x14=>if x14 < x13 then (if 0≤x14 then (if x14 < (x12.length:Int) then (if 0≤((rd_T70 x12 x14).f0) then (if ((rd_T70 x12 x14).f0) < (x1.length:Int) then (if 0≤((rd_T70 x12 x14).f1) then (if ((rd_T70 x12 x14).f1) < (x1.length:Int) then ((impl_table_put.f x5 (rd x1 ((rd_T70 x12 x14).f0)) (rd x1 ((rd_T70 x12 x14).f1))).bind fun t273=>(impl_renamed.l0 k x1 t273 x12 x13 (wrap64 (x14+1)))) else (none)) else (none)) else (none)) else (none)) else (none)) else (none)) else ((impl_table_party.f k x5).bind fun bt274=>(some (bt274.1,bt274.2)))
def impl_renamed.f (k:Nat) (a0_0:Int) (l0_1:List (S70)) (l1:List Int):Option (Int × (List (S70))):=if 0≤a0_0 then (if (a0_0:Int).toNat≤140737488355328 then (impl_renamed.l0 k l1 (List.replicate (a0_0:Int).toNat 0) l0_1 (l0_1.length:Int) 0) else (none)) else (none)
theorem impl_renamed.mono_l:∀ k,(∀ y0 y1 y2 y3 y4,LeO (impl_renamed.l0 k y0 y1 y2 y3 y4) (impl_renamed.l0 (k+1) y0 y1 y2 y3 y4))
 | 0=>fun _ _ _ _ _ r h=>by simp [impl_renamed.l0] at h
 | k+1=>by
  have ih0:=impl_renamed.mono_l k
  ·intro y0 y1 y2 y3 y4
   unfold impl_renamed.l0
   repeat' first
   | (with_reducible exact ih0 _ _ _ _ _)
   | (with_reducible exact impl_table_party.mono _ _)
   | (with_reducible exact LeO.refl _)
   | (with_reducible exact LeO.none _)
   | (with_reducible refine LeO.ite ?_ ?_)
   | (with_reducible refine LeO.bind ?_ (fun _=>?_))
   | exact ih0 _ _ _ _ _
   | exact impl_table_party.mono _ _
   | exact LeO.none _
   | refine LeO.ite ?_ ?_
   | refine LeO.bind ?_ (fun _=>?_)
theorem impl_renamed.mono:∀ a0 a1 a2 k,LeO (impl_renamed.f k a0 a1 a2) (impl_renamed.f (k+1) a0 a1 a2):=by
 intro a0 a1 a2 k
 have ih0:=impl_renamed.mono_l k
 unfold impl_renamed.f
 repeat' first
   | (with_reducible exact ih0 _ _ _ _ _)
   | (with_reducible exact impl_table_party.mono _ _)
   | (with_reducible exact LeO.refl _)
   | (with_reducible exact LeO.none _)
   | (with_reducible refine LeO.ite ?_ ?_)
   | (with_reducible refine LeO.bind ?_ (fun _=>?_))
   | exact ih0 _ _ _ _ _
   | exact impl_table_party.mono _ _
   | exact LeO.none _
   | refine LeO.ite ?_ ?_
   | refine LeO.bind ?_ (fun _=>?_)
def impl_renamed.T5:Bool × List (List Nat × List Nat):=(true,[([],[]),([],[]),([],[]),([2],[2]),([1,3],[1,3]),([4],[4]),([],[]),([],[]),([7],[7]),([6,8],[6,8]),([9],[9]),([0,5,10],[0,5,10])])
def impl_renamed.B5:List Nat:=[0,0,0,4,14,30,0,0,128,448,960,2047]
theorem impl_renamed.tab5:rtab .any (opsOf Try.f41 5)=impl_renamed.T5:=by kernel_rfl
theorem impl_renamed.bits5:waitsOk impl_renamed.T5.2 impl_renamed.B5=true:=by kernel_rfl
set_option maxHeartbeats 8000000 in
set_option maxRecDepth 100000 in
theorem impl_renamed.calls (k:Nat) (a0_0:Int) (A0_1:Option Addr) (c0_1:Nat) (l0_1:List (S70)) (A1:Option Addr) (c1:Nat) (l1:List Int) (r1:Int) (r2:List (S70)) (w:World) (hr0_1:Kd.C k70 w A0_1 l0_1.length l0_1) (hc0_1:l0_1.length≤c0_1) (hr1:Kd.C (Kd.int .i64) w A1 l1.length l1) (hc1:l1.length≤c1) (h:impl_renamed.f k a0_0 l0_1 l1=some (r1,r2)) :
  Calls Try.prog 41 #[.agg #[.int .i64 a0_0,.slice A0_1 l0_1.length c0_1],.slice A1 l1.length c1] w fun e w'=>∃ v1_:Value,e=.returned (.agg #[.int .i64 r1,v1_])∧Kd.R k70 70 w' w.heap.size (fun _=>True) v1_ r2∧Below w.heap.size w w':=by
 have hu30:=Try.underlying30
 have hu70:=Try.underlying70
 have HR0_1:=zz31 hr0_1
 have HC0_1:=zz31 hc0_1
 clear hr0_1 hc0_1
 have HR1:=zz31 hr1
 have HC1:=zz31 hc1
 clear hr1 hc1
 have HB:=zz31 (Below.refl w.heap.size w)
 have H:(if 0≤a0_0 then (if (a0_0:Int).toNat≤140737488355328 then (impl_renamed.l0 k l1 (List.replicate (a0_0:Int).toNat 0) l0_1 (l0_1.length:Int) 0) else (none)) else (none))=some (r1,r2):=h
 clear h
 by_cases c3:0≤a0_0
 ·rw [if_pos c3] at H
  have c3b0:=eq_true c3
  have c3b1:decide (0≤a0_0)=true:=decide_eq_true c3
  clear c3
  by_cases c4:(a0_0:Int).toNat≤140737488355328
  ·rw [if_pos c4] at H
   have c4b0:=eq_true c4
   have c4b1:decide ((a0_0:Int).toNat≤140737488355328)=true:=decide_eq_true c4
   clear c4
   obtain ⟨y266,hy266⟩:∃ y_:List Int,y_=(List.replicate (a0_0:Int).toNat 0):=⟨_,rfl⟩
   replace H:(impl_renamed.l0 k l1 y266 l0_1 (l0_1.length:Int) 0)=some (r1,r2):=by first | (rw [hy266];with_reducible exact H) | (have H2_:=(Option.bind_some _ _).symm.trans H;rw [hy266];with_reducible exact H2_) | (have H2_:=(Option.bind_some _ _).symm.trans H;with_reducible exact H2_) | with_reducible exact H | (rw [hy266];exact H) | exact H
   have Ny266:=zz31 hy266
   clear hy266
   have H':=zz31 H
   clear H
   go_enter Try.func41,Try.ntmps41
   go_wp2_with (first | ((with_reducible refine gate_dst (N:=2) rfl ?_);refine box_event ?hg (N:=2) ?hd (cs:=#[.int .i64 a0_0,.slice A0_1 l0_1.length c0_1]) (t:=30) ?hr ?_;(case hd=>rfl);(case hg=>rfl);(case hr=>first | (go_simp;done) | (go_simp;rfl));intro gb264 hg w5 hbox hb;have n0_:=zz31 (zz4 (by repeat first | exact HB.out | apply zz2 | apply zz0 | apply zz1) hb);have n1_:=zz31 (hbox);have n2_:=zz31 ((by rw [hg];exact (zz5 (by repeat first | exact HB.out | apply zz2 | apply zz0 | apply zz1)):w.heap.size≤gb264));have n3_:=zz31 ((by rw [hg];exact (zz5 (by repeat first | exact HB.out | apply zz2 | apply zz0 | apply zz1)):w.heap.size≤gb264));clear HB;have HB:=n0_;have BK264:=n1_;have GW264:=n2_;have GE264:=n3_;clear n0_ n1_ n2_ n3_;clear hb hbox hg) | ((with_reducible refine gate_dst (N:=4) rfl ?_);refine box_event ?hg (N:=4) ?hd (cs:=#[.int .i64 0,.slice none 0 0]) (t:=30) ?hr ?_;(case hd=>rfl);(case hg=>rfl);(case hr=>first | (go_simp;done) | (go_simp;rfl));intro gb265 hg w6 hbox hb;have n0_:=zz31 (zz11 (g:=gb264) (o:=.cells #[.int .i64 a0_0,.slice A0_1 l0_1.length c0_1] 30 (0,0)) (by (with_reducible repeat (first | refine zz6 ?_ _ | refine zz7 ?_ | refine zz8 ?_ _));exact BK264.out) hb);have n1_:=zz31 (zz4 (by repeat first | exact HB.out | apply zz2 | apply zz0 | apply zz1 | refine zz3 ?_ GE264.out) hb);have n2_:=zz31 (hbox);have n3_:=zz31 ((by rw [hg];exact (zz5 (by repeat first | exact HB.out | apply zz2 | apply zz0 | apply zz1 | refine zz3 ?_ GE264.out)):w.heap.size≤gb265));have n4_:=zz31 ((by rw [hg];exact (zz5 (by repeat first | exact HB.out | apply zz2 | apply zz0 | apply zz1 | refine zz3 ?_ GE264.out)):w.heap.size≤gb265));have n5_:=zz31 ((by rw [hg];exact Nat.ne_of_lt (blk_lt (g:=gb264) (o:=.cells #[.int .i64 a0_0,.slice A0_1 l0_1.length c0_1] 30 (0,0)) (by (with_reducible repeat (first | refine zz6 ?_ _ | refine zz7 ?_ | refine zz8 ?_ _));exact BK264.out)):gb264 ≠ gb265));have n6_:=zz31 ((by rw [hg];exact Nat.ne_of_gt (blk_lt (g:=gb264) (o:=.cells #[.int .i64 a0_0,.slice A0_1 l0_1.length c0_1] 30 (0,0)) (by (with_reducible repeat (first | refine zz6 ?_ _ | refine zz7 ?_ | refine zz8 ?_ _));exact BK264.out)):gb265 ≠ gb264));clear BK264;clear HB;have BK264:=n0_;have HB:=n1_;have BK265:=n2_;have GW265:=n3_;have GE265:=n4_;have NB264_265:=n5_;have NB265_264:=n6_;clear n0_ n1_ n2_ n3_ n4_ n5_ n6_;clear hb hbox hg;have hnb7:=NB264_265.out;have hnc7:=NB265_264.out;have hcz8_0:w6.cell? ⟨gb264,0,none⟩=some (.int .i64 a0_0):=(zz9 BK264.out 0).trans rfl;have hcz8_1:w6.cell? ⟨gb264,1,none⟩=some (.slice A0_1 l0_1.length c0_1):=(zz9 BK264.out 1).trans rfl;have hfz8_0:=zz10 BK264.out 0;have hfz8_1:=zz10 BK264.out 1) | ((with_reducible refine gate_dst (N:=10) rfl ?_);refine Kd.R_make (Kd.int .u16) _ 100 rfl (N:=10) rfl 74 _ _ rfl a0_0 rfl rfl Try.underlying74 (.int .u16 0) 2 info100 rfl (by decide) (by omega) 0 (ok:=fun _=>True) (okp:=fun _=>True) rfl (fun _ hk=>hk) trivial (zz29 (by first | (with_reducible assumption) | assumption)) (Nat.le_trans (Nat.mul_le_mul_right _ (zz29 (by first | (with_reducible assumption) | assumption):a0_0.toNat≤140737488355328)) (by omega)) (Below.refl _ _) (Nat.le_refl _) ?_;intro v267 w9 ho10 hb hg_ hnew_;clear hg_ hnew_;(first | rw [← Ny266.out] at ho10 | (simp only [Int.reduceToNat] at ho10;rw [← Ny266.out] at ho10));have n0_:=zz31 (Kd.R_lower ho10 (zz5 (by repeat first | exact HB.out | apply zz2 | apply zz0 | apply zz1 | refine zz3 ?_ GE264.out | refine zz3 ?_ GE265.out)));have n1_:=zz31 (zz11 (g:=gb264) (o:=.cells #[.int .i64 a0_0,.slice A0_1 l0_1.length c0_1] 30 (0,0)) (by (with_reducible repeat (first | refine zz6 ?_ _ | refine zz7 ?_ | refine zz8 ?_ _));exact BK264.out) hb);have n2_:=zz31 (zz11 (g:=gb265) (o:=.cells #[.int .i64 0,.slice none 0 0] 30 (0,0)) (by (with_reducible repeat (first | refine zz6 ?_ _ | refine zz7 ?_ | refine zz8 ?_ _));exact BK265.out) hb);have n3_:=zz31 (zz4 (by repeat first | exact HB.out | apply zz2 | apply zz0 | apply zz1 | refine zz3 ?_ GE264.out | refine zz3 ?_ GE265.out) hb);clear BK264;clear BK265;clear HB;have HO268:=n0_;have BK264:=n1_;have BK265:=n2_;have HB:=n3_;clear n0_ n1_ n2_ n3_;clear hb ho10;have hcz11_0:w9.cell? ⟨gb264,0,none⟩=some (.int .i64 a0_0):=(zz9 BK264.out 0).trans rfl;have hcz11_1:w9.cell? ⟨gb264,1,none⟩=some (.slice A0_1 l0_1.length c0_1):=(zz9 BK264.out 1).trans rfl;have hfz11_0:=zz10 BK264.out 0;have hfz11_1:=zz10 BK264.out 1))
   go_loopg [14] k (fun kq v14 w'=>∃ (x5_1:List Int) (x14_1:Int),v14=.int .i64 x14_1∧Aside0 (impl_renamed.l0 kq l1 x5_1 l0_1 (l0_1.length:Int) x14_1=some (r1,r2))∧Aside0 (kq≤k)∧Aside0 (Kd.R (Kd.int .u16) 100 w' w.heap.size (fun _=>True) v267 x5_1)∧Aside0 (w'.heap[gb264]?=some (.cells #[.int .i64 a0_0,(.slice A0_1 l0_1.length c0_1)] 30 (0,0)))∧Aside0 (w'.heap[gb265]?=some (.cells #[.int .i64 0,(.slice none 0 0)] 30 (0,0)))∧Aside0 (Below w.heap.size w w'))
   case atStart=>exact ⟨(y266),(0),(by first | rfl | (simp;done) | (simp [*];done)),H',⟨Nat.le_refl _⟩,⟨by (with_reducible repeat (first | apply zz12 | apply zz13 | apply zz14));exact HO268.out⟩,⟨by (with_reducible repeat (first | refine zz6 ?_ _ | refine zz7 ?_ | refine zz8 ?_ _));exact BK264.out⟩,⟨by (with_reducible repeat (first | refine zz6 ?_ _ | refine zz7 ?_ | refine zz8 ?_ _));exact BK265.out⟩,⟨by repeat first | exact HB.out | apply zz2 | apply zz0 | apply zz1 | refine zz3 ?_ GE264.out | refine zz3 ?_ GE265.out⟩⟩
   case round =>
    clear H'
    try clear c1
    try clear p2
    try clear c3
    try clear c3b0
    try clear c3b1
    try clear c4
    try clear c4b0
    try clear c4b1
    try clear c7
    try clear hcz11_0
    try clear hcz11_1
    try clear hcz8_0
    try clear hcz8_1
    try clear hfz11_0
    try clear hfz11_1
    try clear hfz8_0
    try clear hfz8_1
    obtain ⟨x5_1,x14_1,rfl,HA,HK1,HO_5,BK264,BK265,HB⟩:=hrel
    cases gk with
    | zero=>exact absurd HA.out (by simp [impl_renamed.l0])
    | succ k1 =>
     have H:=HA.out
     clear HA
     simp only [impl_renamed.l0] at H
     by_cases c12:x14_1 < (l0_1.length:Int)
     ·rw [if_pos c12] at H
      have c12b0:decide (x14_1 < (l0_1.length:Int))=true:=decide_eq_true c12
      clear c12
      by_cases c13:0≤x14_1
      ·rw [if_pos c13] at H
       have c13b0:decide (0≤x14_1)=true:=decide_eq_true c13
       clear c13
       by_cases c14:x14_1 < (l0_1.length:Int)
       ·rw [if_pos c14] at H
        have c14b0:decide (x14_1 < (l0_1.length:Int))=true:=decide_eq_true c14
        clear c14
        by_cases c15:0≤((rd_T70 l0_1 x14_1).f0)
        ·rw [if_pos c15] at H
         have c15b0:decide (0≤((rd_T70 l0_1 x14_1).f0))=true:=decide_eq_true c15
         clear c15
         by_cases c16:((rd_T70 l0_1 x14_1).f0) < (l1.length:Int)
         ·rw [if_pos c16] at H
          have c16b0:decide (((rd_T70 l0_1 x14_1).f0) < (l1.length:Int))=true:=decide_eq_true c16
          clear c16
          by_cases c17:0≤((rd_T70 l0_1 x14_1).f1)
          ·rw [if_pos c17] at H
           have c17b0:decide (0≤((rd_T70 l0_1 x14_1).f1))=true:=decide_eq_true c17
           clear c17
           by_cases c18:((rd_T70 l0_1 x14_1).f1) < (l1.length:Int)
           ·rw [if_pos c18] at H
            have c18b0:decide (((rd_T70 l0_1 x14_1).f1) < (l1.length:Int))=true:=decide_eq_true c18
            clear c18
            replace H:=zz30.mp H
            obtain ⟨t273,A190,H⟩:=H
            replace H:(impl_renamed.l0 k1 l1 t273 l0_1 (l0_1.length:Int) (wrap64 (x14_1+1)))=some (r1,r2):=H
            have A19:=zz31 A190
            clear A190
            have H':=zz31 H
            clear H
            have p269:0≤(x14_1:Int):=zz29 (by first | (with_reducible assumption) | assumption)
            have q269:x14_1 < (l0_1.length:Int):=zz29 (by first | (with_reducible assumption) | assumption)
            obtain ⟨ad269,e269,hx269_0,hx269_1⟩:=at_T70 HR0_1.out x14_1 p269 q269
            cases e269
            try replace hx269_0:=(HB.out.cell (World.block_lt_of_cell? w _ hx269_0)).trans hx269_0
            try replace hx269_1:=(HB.out.cell (World.block_lt_of_cell? w _ hx269_1)).trans hx269_1
            replace p269:=eq_true p269
            replace q269:=eq_true q269
            try go_wp2_with (first | ((with_reducible refine gate_dst (N:=7) rfl ?_);refine box_event ?hg (N:=7) ?hd (cs:=#[.int .i64 0,.int .i64 0]) (t:=70) ?hr ?_;(case hd=>rfl);(case hg=>rfl);(case hr=>first | (go_simp;done) | (go_simp;rfl));intro gb270 hg w20 hbox hb;have n0_:=zz31 (Kd.R_below (by (with_reducible repeat (first | apply zz12 | apply zz13 | apply zz14));exact HO_5.out) hb);have n1_:=zz31 (zz11 (g:=gb264) (o:=.cells #[.int .i64 a0_0,.slice (some ad269) l0_1.length c0_1] 30 (0,0)) (by (with_reducible repeat (first | refine zz6 ?_ _ | refine zz7 ?_ | refine zz8 ?_ _));exact BK264.out) hb);have n2_:=zz31 (zz11 (g:=gb265) (o:=.cells #[.int .i64 0,.slice none 0 0] 30 (0,0)) (by (with_reducible repeat (first | refine zz6 ?_ _ | refine zz7 ?_ | refine zz8 ?_ _));exact BK265.out) hb);have n3_:=zz31 (zz4 (by repeat first | exact HB.out | apply zz2 | apply zz0 | apply zz1 | refine zz3 ?_ GE264.out | refine zz3 ?_ GE265.out) hb);have n4_:=zz31 (hbox);have n5_:=zz31 ((by rw [hg];exact (zz5 (by repeat first | exact HB.out | apply zz2 | apply zz0 | apply zz1 | refine zz3 ?_ GE264.out | refine zz3 ?_ GE265.out)):w.heap.size≤gb270));have n6_:=zz31 ((by rw [hg];exact (zz5 (by repeat first | exact HB.out | apply zz2 | apply zz0 | apply zz1 | refine zz3 ?_ GE264.out | refine zz3 ?_ GE265.out)):w.heap.size≤gb270));have n7_:=zz31 ((by rw [hg];exact Nat.ne_of_lt (blk_lt (g:=gb264) (o:=.cells #[.int .i64 a0_0,.slice (some ad269) l0_1.length c0_1] 30 (0,0)) (by (with_reducible repeat (first | refine zz6 ?_ _ | refine zz7 ?_ | refine zz8 ?_ _));exact BK264.out)):gb264 ≠ gb270));have n8_:=zz31 ((by rw [hg];exact Nat.ne_of_gt (blk_lt (g:=gb264) (o:=.cells #[.int .i64 a0_0,.slice (some ad269) l0_1.length c0_1] 30 (0,0)) (by (with_reducible repeat (first | refine zz6 ?_ _ | refine zz7 ?_ | refine zz8 ?_ _));exact BK264.out)):gb270 ≠ gb264));have n9_:=zz31 ((by rw [hg];exact Nat.ne_of_lt (blk_lt (g:=gb265) (o:=.cells #[.int .i64 0,.slice none 0 0] 30 (0,0)) (by (with_reducible repeat (first | refine zz6 ?_ _ | refine zz7 ?_ | refine zz8 ?_ _));exact BK265.out)):gb265 ≠ gb270));have n10_:=zz31 ((by rw [hg];exact Nat.ne_of_gt (blk_lt (g:=gb265) (o:=.cells #[.int .i64 0,.slice none 0 0] 30 (0,0)) (by (with_reducible repeat (first | refine zz6 ?_ _ | refine zz7 ?_ | refine zz8 ?_ _));exact BK265.out)):gb270 ≠ gb265));clear HO_5;clear BK264;clear BK265;clear HB;have HO_5:=n0_;have BK264:=n1_;have BK265:=n2_;have HB:=n3_;have BK270:=n4_;have GW270:=n5_;have GE270:=n6_;have NB264_270:=n7_;have NB270_264:=n8_;have NB265_270:=n9_;have NB270_265:=n10_;clear n0_ n1_ n2_ n3_ n4_ n5_ n6_ n7_ n8_ n9_ n10_;clear hb hbox hg;have hnb21:=NB270_264.out;have hnc21:=NB264_270.out;have hnb22:=NB270_265.out;have hnc22:=NB265_270.out;have hcz23_0:w20.cell? ⟨gb270,0,none⟩=some (.int .i64 0):=(zz9 BK270.out 0).trans rfl;have hcz23_1:w20.cell? ⟨gb270,1,none⟩=some (.int .i64 0):=(zz9 BK270.out 1).trans rfl;have hfz23_0:=zz10 BK270.out 0;have hfz23_1:=zz10 BK270.out 1))
            have n0_:Aside0 (Kd.R (Kd.int .u16) 100 ((w20.setCell ⟨gb270,0,none⟩ (.int .i64 ((rd_T70 l0_1 x14_1).f0))).setCell ⟨gb270,1,none⟩ (.int .i64 ((rd_T70 l0_1 x14_1).f1))) w.heap.size (fun _=>True) v267 x5_1):=⟨by (with_reducible repeat (first | apply zz12 | apply zz13 | apply zz14));exact Kd.R_mono (Kd.R_far (p:=⟨gb270,1,none⟩) (Kd.R_far (p:=⟨gb270,0,none⟩) (Kd.R_types HO_5.out BK270.out (by decide)) (fun _ hk=>hk.2) (.int .i64 ((rd_T70 l0_1 x14_1).f0))) (fun _ hk=>hk.2) (.int .i64 ((rd_T70 l0_1 x14_1).f1))) (fun _ hk=>trivial)⟩
            have n1_:Aside0 (((w20.setCell ⟨gb270,0,none⟩ (.int .i64 ((rd_T70 l0_1 x14_1).f0))).setCell ⟨gb270,1,none⟩ (.int .i64 ((rd_T70 l0_1 x14_1).f1))).heap[gb264]?=some (.cells #[.int .i64 a0_0,.slice (some ad269) l0_1.length c0_1] 30 (0,0))):=⟨by (with_reducible repeat (first | refine zz6 ?_ _ | refine zz7 ?_ | refine zz8 ?_ _));refine blk_far ?_ NB264_270.out _;(with_reducible repeat (first | refine zz6 ?_ _ | refine zz7 ?_ | refine zz8 ?_ _));refine blk_far ?_ NB264_270.out _;(with_reducible repeat (first | refine zz6 ?_ _ | refine zz7 ?_ | refine zz8 ?_ _));exact BK264.out⟩
            have n2_:Aside0 (((w20.setCell ⟨gb270,0,none⟩ (.int .i64 ((rd_T70 l0_1 x14_1).f0))).setCell ⟨gb270,1,none⟩ (.int .i64 ((rd_T70 l0_1 x14_1).f1))).heap[gb265]?=some (.cells #[.int .i64 0,.slice none 0 0] 30 (0,0))):=⟨by (with_reducible repeat (first | refine zz6 ?_ _ | refine zz7 ?_ | refine zz8 ?_ _));refine blk_far ?_ NB265_270.out _;(with_reducible repeat (first | refine zz6 ?_ _ | refine zz7 ?_ | refine zz8 ?_ _));refine blk_far ?_ NB265_270.out _;(with_reducible repeat (first | refine zz6 ?_ _ | refine zz7 ?_ | refine zz8 ?_ _));exact BK265.out⟩
            have n3_:Aside0 (((w20.setCell ⟨gb270,0,none⟩ (.int .i64 ((rd_T70 l0_1 x14_1).f0))).setCell ⟨gb270,1,none⟩ (.int .i64 ((rd_T70 l0_1 x14_1).f1))).heap[gb270]?=some (.cells #[.int .i64 ((rd_T70 l0_1 x14_1).f0),.int .i64 ((rd_T70 l0_1 x14_1).f1)] 70 (0,0))):=⟨by (with_reducible repeat (first | refine zz6 ?_ _ | refine zz7 ?_ | refine zz8 ?_ _));refine blk_put (cs:=#[.int .i64 ((rd_T70 l0_1 x14_1).f0),.int .i64 0]) ?_ 1 _ rfl;(with_reducible repeat (first | refine zz6 ?_ _ | refine zz7 ?_ | refine zz8 ?_ _));refine blk_put (cs:=#[.int .i64 0,.int .i64 0]) ?_ 0 _ rfl;(with_reducible repeat (first | refine zz6 ?_ _ | refine zz7 ?_ | refine zz8 ?_ _));exact BK270.out⟩
            have n4_:Aside0 (Below w.heap.size w ((w20.setCell ⟨gb270,0,none⟩ (.int .i64 ((rd_T70 l0_1 x14_1).f0))).setCell ⟨gb270,1,none⟩ (.int .i64 ((rd_T70 l0_1 x14_1).f1)))):=⟨by repeat first | exact HB.out | apply zz2 | apply zz0 | apply zz1 | refine zz3 ?_ GE264.out | refine zz3 ?_ GE265.out | refine zz3 ?_ GE270.out⟩
            (try clear HO_5)
            (try clear BK264)
            (try clear BK265)
            (try clear BK270)
            (try clear HB)
            generalize ((w20.setCell ⟨gb270,0,none⟩ (.int .i64 ((rd_T70 l0_1 x14_1).f0))).setCell ⟨gb270,1,none⟩ (.int .i64 ((rd_T70 l0_1 x14_1).f1)))=w24 at n0_ n1_ n2_ n3_ n4_ ⊢
            have HO_5:=n0_
            have BK264:=n1_
            have BK265:=n2_
            have BK270:=n3_
            have HB:=n4_
            clear n0_ n1_ n2_ n3_ n4_
            have n0_:=zz31 (zz14 HO_5.out)
            have n1_:=zz31 (zz7 BK264.out)
            have n2_:=zz31 (zz7 BK265.out)
            have n3_:=zz31 (zz7 BK270.out)
            have n4_:=zz31 (zz1 HB.out)
            clear HO_5
            clear BK264
            clear BK265
            clear BK270
            clear HB
            have HO_5:=n0_
            have BK264:=n1_
            have BK265:=n2_
            have BK270:=n3_
            have HB:=n4_
            clear n0_ n1_ n2_ n3_ n4_
            have p271:0≤(((rd_T70 l0_1 x14_1).f0):Int):=zz29 (by first | (with_reducible assumption) | assumption)
            have q271:((rd_T70 l0_1 x14_1).f0) < (l1.length:Int):=zz29 (by first | (with_reducible assumption) | assumption)
            obtain ⟨ad271,e271,hx271_0⟩:=Kd.at_int HR1.out ((rd_T70 l0_1 x14_1).f0) p271 q271
            have hw271_0:=hx271_0
            cases e271
            try replace hx271_0:=(HB.out.cell (World.block_lt_of_cell? w _ hx271_0)).trans hx271_0
            replace p271:=eq_true p271
            replace q271:=eq_true q271
            have p272:0≤(((rd_T70 l0_1 x14_1).f1):Int):=zz29 (by first | (with_reducible assumption) | assumption)
            have q272:((rd_T70 l0_1 x14_1).f1) < (l1.length:Int):=zz29 (by first | (with_reducible assumption) | assumption)
            obtain ⟨ad272,e272,hx272_0⟩:=Kd.at_int HR1.out ((rd_T70 l0_1 x14_1).f1) p272 q272
            have hw272_0:=hx272_0
            obtain rfl:ad271=ad272:=(by injection e272)
            try replace hx272_0:=(HB.out.cell (World.block_lt_of_cell? w _ hx272_0)).trans hx272_0
            replace p272:=eq_true p272
            replace q272:=eq_true q272
            obtain ⟨Ao26,co26,eo26⟩:=Kd.R_slice HO_5.out
            (first | subst eo26 | (injection eo26 with f1_ f2_ f3_;have f4_:=f1_.symm;have f5_:=f3_.symm;clear f1_ f2_ f3_;subst f4_;subst f5_))
            refine start_ (n:=12) (S:=fun w'=>w'.cell? ⟨gb270,0,none⟩=some (.int .i64 ((rd_T70 l0_1 x14_1).f0))∧w'.cell? ⟨gb270,1,none⟩=some (.int .i64 ((rd_T70 l0_1 x14_1).f1))∧w'.cell? (ad271.add (((rd_T70 l0_1 x14_1).f0)).toNat)=some (.int .i64 (rd l1 ((rd_T70 l0_1 x14_1).f0)))∧w'.cell? (ad271.add (((rd_T70 l0_1 x14_1).f1)).toNat)=some (.int .i64 (rd l1 ((rd_T70 l0_1 x14_1).f1)))) (ds:=[]) #[F,F,F,F,F,F,F,F,F,F,F,F] (by kernel_rfl) rfl rfl ⟨(zz9 BK270.out 0).trans rfl,(zz9 BK270.out 1).trans rfl,((HB.out.cell (World.block_lt_of_cell? w _ hw271_0)).trans hw271_0),((HB.out.cell (World.block_lt_of_cell? w _ hw272_0)).trans hw272_0)⟩ (fun hHeld=>?_);refine with_tabW impl_renamed.tab5 impl_renamed.bits5 (fun HT_ HW_=>?_)
            generalize w24.drew=w25 at HO_5 BK264 BK265 BK270 HB hx271_0 hx272_0 hHeld ⊢
            refine pure_ (i:=0) (N:=some 18) (v:=?_) (a':=?_) #[T,F,F,F,F,F,F,F,F,F,F,F] rfl rfl (any_of HT_.out (by kernel_rfl)) (fun _ _ _ h=>h) (Or.inl ⟨by rfl,?_⟩) ?_ ?_
            rotate_left
            ·intro w'
             go_simp
             with_reducible rfl
            rotate_left
            ·simp only [Act.put,zz21,zz22,zz23,i64_w,i32_w]
             rfl
            refine pure_ (i:=1) (N:=some 19) (v:=?_) (a':=?_) #[T,T,F,F,F,F,F,F,F,F,F,F] rfl rfl (any_of HT_.out (by kernel_rfl)) (fun _ _ _ h=>h) (Or.inl ⟨by rfl,?_⟩) ?_ ?_
            rotate_left
            ·intro w'
             go_simp
             with_reducible rfl
            rotate_left
            ·simp only [Act.put,zz21,zz22,zz23,i64_w,i32_w]
             rfl
            refine pure_ (i:=2) (N:=some 20) (v:=?_) (a':=?_) #[T,T,T,F,F,F,F,F,F,F,F,F] rfl rfl (any_of HT_.out (by kernel_rfl)) (fun _ _ _ h=>h) (Or.inl ⟨by rfl,?_⟩) ?_ ?_
            rotate_left
            ·intro w'
             go_simp
             with_reducible rfl
            rotate_left
            ·simp only [Act.put,zz21,zz22,zz23,i64_w,i32_w]
             rfl
            refine pure_ (i:=6) (N:=some 24) (v:=?_) (a':=?_) #[T,T,T,F,F,F,T,F,F,F,F,F] rfl rfl (any_of HT_.out (by kernel_rfl)) (fun _ _ _ h=>h) (Or.inl ⟨by rfl,?_⟩) ?_ ?_
            rotate_left
            ·intro w'
             go_simp
             with_reducible rfl
            rotate_left
            ·simp only [Act.put,zz21,zz22,zz23,i64_w,i32_w]
             rfl
            refine pure_ (i:=7) (N:=some 25) (v:=?_) (a':=?_) #[T,T,T,F,F,F,T,T,F,F,F,F] rfl rfl (any_of HT_.out (by kernel_rfl)) (fun _ _ _ h=>h) (Or.inl ⟨by rfl,?_⟩) ?_ ?_
            rotate_left
            ·intro w'
             go_simp
             with_reducible rfl
            rotate_left
            ·simp only [Act.put,zz21,zz22,zz23,i64_w,i32_w]
             rfl
            refine take_ (i:=3) (N:=some 21) (v:=?_) (a':=?_) #[T,T,T,T,F,F,T,T,F,F,F,F] rfl rfl (take_ofW HT_.out HW_.out (by kernel_rfl)) (fun _ _ _ h=>h) (Or.inl ⟨by rfl,?_⟩) hHeld ?_ ?_
            rotate_left
            ·rintro w' ⟨s0,s1,s2,s3⟩
             go_simp
             with_reducible rfl
            rotate_left
            ·simp only [Act.put,zz21,zz22,zz23,i64_w,i32_w]
             rfl
            refine pure_ (i:=4) (N:=some 22) (v:=?_) (a':=?_) #[T,T,T,T,T,F,T,T,F,F,F,F] rfl rfl (any_of HT_.out (by kernel_rfl)) (fun _ _ _ h=>h) (Or.inl ⟨by rfl,?_⟩) ?_ ?_
            rotate_left
            ·intro w'
             go_simp
             with_reducible rfl
            rotate_left
            ·simp only [Act.put,zz21,zz22,zz23,i64_w,i32_w]
             rfl
            refine take_ (i:=5) (N:=some 23) (v:=?_) (a':=?_) #[T,T,T,T,T,T,T,T,F,F,F,F] rfl rfl (take_ofW HT_.out HW_.out (by kernel_rfl)) (fun _ _ _ h=>h) (Or.inl ⟨by rfl,?_⟩) hHeld ?_ ?_
            rotate_left
            ·rintro w' ⟨s0,s1,s2,s3⟩
             go_simp
             with_reducible rfl
            rotate_left
            ·simp only [Act.put,zz21,zz22,zz23,i64_w,i32_w]
             rfl
            refine take_ (i:=8) (N:=some 26) (v:=?_) (a':=?_) #[T,T,T,T,T,T,T,T,T,F,F,F] rfl rfl (take_ofW HT_.out HW_.out (by kernel_rfl)) (fun _ _ _ h=>h) (Or.inl ⟨by rfl,?_⟩) hHeld ?_ ?_
            rotate_left
            ·rintro w' ⟨s0,s1,s2,s3⟩
             go_simp
             with_reducible rfl
            rotate_left
            ·simp only [Act.put,zz21,zz22,zz23,i64_w,i32_w]
             rfl
            refine pure_ (i:=9) (N:=some 27) (v:=?_) (a':=?_) #[T,T,T,T,T,T,T,T,T,T,F,F] rfl rfl (any_of HT_.out (by kernel_rfl)) (fun _ _ _ h=>h) (Or.inl ⟨by rfl,?_⟩) ?_ ?_
            rotate_left
            ·intro w'
             go_simp
             with_reducible rfl
            rotate_left
            ·simp only [Act.put,zz21,zz22,zz23,i64_w,i32_w]
             rfl
            refine take_ (i:=10) (N:=some 28) (v:=?_) (a':=?_) #[T,T,T,T,T,T,T,T,T,T,T,F] rfl rfl (take_ofW HT_.out HW_.out (by kernel_rfl)) (fun _ _ _ h=>h) (Or.inl ⟨by rfl,?_⟩) hHeld ?_ ?_
            rotate_left
            ·rintro w' ⟨s0,s1,s2,s3⟩
             go_simp
             with_reducible rfl
            rotate_left
            ·simp only [Act.put,zz21,zz22,zz23,i64_w,i32_w]
             rfl
            refine one_ (i:=11) (N:=some 29) #[T,T,T,T,T,T,T,T,T,T,T,T] rfl rfl (one_of HT_.out (by kernel_rfl)) (by decide) (fun K hK=>?_)
            refine goes_ Try.func72 (by kernel_rfl) rfl #[.slice Ao26 x5_1.length co26,.int .i64 (rd l1 ((rd_T70 l0_1 x14_1).f0)),.int .i64 (rd l1 ((rd_T70 l0_1 x14_1).f1))] (by rfl) rfl rfl (by (try simp only [zz26,zz27,zz28]);first | done | rfl | (simp only [zz24,zz25];rfl)) ?_
            with_reducible refine (impl_table_put.calls (fun k_=>some k_=(.slice Ao26 x5_1.length co26:Value).ownBlock) (.slice Ao26 x5_1.length co26) x5_1 (rd l1 ((rd_T70 l0_1 x14_1).f0)) (rd l1 ((rd_T70 l0_1 x14_1).f1)) t273 w _ ?side1 ?side2 A19.out).mono ?_
            (case side1=>repeat first | exact HB.out | apply zz2 | apply zz0 | apply zz1 | refine zz3 ?_ GE264.out | refine zz3 ?_ GE265.out | refine zz3 ?_ GE270.out)
            (case side2=>exact Kd.R_tight rfl HO_5.out)
            rintro e w27 ⟨rfl,hy0,hb,hkp⟩
            refine ⟨_,rfl,?_⟩
            have n0_:=zz31 (Kd.R_reok rfl hy0 (fun k_ e_=>HO_5.out.1 k_ e_))
            (first | have n1_:=zz31 (blk_kept BK264.out hkp (fun hs_=>(fun e_=>(Kd.R_ne HO_5.out BK264.out (by decide)) e_) hs_)) | have n1_:=zz31 (blk_kept (by (with_reducible repeat (first | refine zz6 ?_ _ | refine zz7 ?_ | refine zz8 ?_ _));exact BK264.out) hkp (fun hs_=>(fun e_=>(Kd.R_ne HO_5.out BK264.out (by decide)) e_) hs_)))
            (first | have n2_:=zz31 (blk_kept BK265.out hkp (fun hs_=>(fun e_=>(Kd.R_ne HO_5.out BK265.out (by decide)) e_) hs_)) | have n2_:=zz31 (blk_kept (by (with_reducible repeat (first | refine zz6 ?_ _ | refine zz7 ?_ | refine zz8 ?_ _));exact BK265.out) hkp (fun hs_=>(fun e_=>(Kd.R_ne HO_5.out BK265.out (by decide)) e_) hs_)))
            (first | have n3_:=zz31 (blk_kept BK270.out hkp (fun hs_=>(fun e_=>(Kd.R_ne HO_5.out BK270.out (by decide)) e_) hs_)) | have n3_:=zz31 (blk_kept (by (with_reducible repeat (first | refine zz6 ?_ _ | refine zz7 ?_ | refine zz8 ?_ _));exact BK270.out) hkp (fun hs_=>(fun e_=>(Kd.R_ne HO_5.out BK270.out (by decide)) e_) hs_)))
            have n4_:=zz31 (hb)
            clear HO_5
            clear BK264
            clear BK265
            clear BK270
            clear HB
            have HO_5:=n0_
            have BK264:=n1_
            have BK265:=n2_
            have BK270:=n3_
            have HB:=n4_
            clear n0_ n1_ n2_ n3_ n4_
            (try clear hb)
            (try clear hkp)
            (try clear hy0)
            refine hK.out _ _ ⟨(zz9 BK270.out 0).trans rfl,(zz9 BK270.out 1).trans rfl,((HB.out.cell (World.block_lt_of_cell? w _ hw271_0)).trans hw271_0),((HB.out.cell (World.block_lt_of_cell? w _ hw272_0)).trans hw272_0)⟩ (fun hHeld=>?_)
            clear hK K
            refine norm_ (a':=?_) ?_ ?_
            rotate_left
            ·show Act.put _ (some 29) _=_
             simp only [Act.put,zz21,zz22,zz23,i64_w,i32_w]
             rfl
            refine done_ (done_of HT_.out (by kernel_rfl)) ?_
            try go_wp2
            go_roundg k1
            case measure=>have:=HK1.out;omega
            case rel=>exact ⟨(t273),(wrap64 (x14_1+1)),(by first | rfl | (simp;done) | (simp [*];done)),H',⟨by have:=HK1.out;omega⟩,⟨by (with_reducible repeat (first | apply zz12 | apply zz13 | apply zz14));exact HO_5.out⟩,⟨by (with_reducible repeat (first | refine zz6 ?_ _ | refine zz7 ?_ | refine zz8 ?_ _));exact BK264.out⟩,⟨by (with_reducible repeat (first | refine zz6 ?_ _ | refine zz7 ?_ | refine zz8 ?_ _));exact BK265.out⟩,⟨by repeat first | exact HB.out | apply zz2 | apply zz0 | apply zz1 | refine zz3 ?_ GE264.out | refine zz3 ?_ GE265.out | refine zz3 ?_ GE270.out⟩⟩
           ·rw [if_neg c18] at H
            exact absurd H (by simp)
          ·rw [if_neg c17] at H
           exact absurd H (by simp)
         ·rw [if_neg c16] at H
          exact absurd H (by simp)
        ·rw [if_neg c15] at H
         exact absurd H (by simp)
       ·rw [if_neg c14] at H
        exact absurd H (by simp)
      ·rw [if_neg c13] at H
       exact absurd H (by simp)
     ·rw [if_neg c12] at H
      have c12b0:decide (x14_1 < (l0_1.length:Int))=false:=decide_eq_false c12
      clear c12
      replace H:=zz30.mp H
      obtain ⟨⟨t274,t275⟩,A280,H⟩:=H
      replace H:(some (t274,t275))=some (r1,r2):=H
      have A28:=zz31 A280
      clear A280
      simp only [Option.some.injEq,Prod.mk.injEq] at H
      obtain ⟨rfl,rfl⟩:=H
      obtain ⟨Ao29,co29,eo29⟩:=Kd.R_slice HO_5.out
      subst eo29
      go_wp2_with (first | ((with_reducible refine gate_callee (f:=57) rfl ?_);refine goesL_ (some 32) rfl rfl Try.func57 (by kernel_rfl) rfl #[.slice Ao29 x5_1.length co29] rfl (by (try simp only [zz26,zz27,zz28]);first | done | rfl | (simp only [zz24,zz25];rfl)) ?_;(with_reducible refine (impl_table_party.calls k1 _ _ x5_1 t274 t275 _ ?side1 ?side2 A28.out).mono ?_);(case side1=>repeat (first | exact (Kd.R_reads' HO_5.out).2.2 | (with_reducible refine zz18 ?_ _) | (with_reducible refine zz19 ?_ _) | (with_reducible refine zz20 ?_)));(case side2=>exact (Kd.R_reads' HO_5.out).2.1);rintro e w30 ⟨v276,rfl,ho0,hb⟩;refine ⟨_,rfl,?_⟩;have n0_:=zz31 (Kd.R_below (by (with_reducible repeat (first | apply zz12 | apply zz13 | apply zz14));exact HO_5.out) hb);have n1_:=zz31 (Kd.R_lower ho0 (zz5 (by repeat first | exact HB.out | apply zz2 | apply zz0 | apply zz1 | refine zz3 ?_ GE264.out | refine zz3 ?_ GE265.out)));have n2_:=zz31 (zz11 (g:=gb264) (o:=.cells #[.int .i64 a0_0,.slice A0_1 l0_1.length c0_1] 30 (0,0)) (by (with_reducible repeat (first | refine zz6 ?_ _ | refine zz7 ?_ | refine zz8 ?_ _));exact BK264.out) hb);have n3_:=zz31 (zz11 (g:=gb265) (o:=.cells #[.int .i64 0,.slice none 0 0] 30 (0,0)) (by (with_reducible repeat (first | refine zz6 ?_ _ | refine zz7 ?_ | refine zz8 ?_ _));exact BK265.out) hb);have n4_:=zz31 (zz4 (by repeat first | exact HB.out | apply zz2 | apply zz0 | apply zz1 | refine zz3 ?_ GE264.out | refine zz3 ?_ GE265.out) hb);clear HO_5;clear BK264;clear BK265;clear HB;have HO_5:=n0_;have HO277:=n1_;have BK264:=n2_;have BK265:=n3_;have HB:=n4_;clear n0_ n1_ n2_ n3_ n4_;(try clear hb);(try clear hb2);(try clear hk);(try clear hi);(try clear ho0);have hnb31:=NB265_264.out;have hnc31:=NB264_265.out;have hcz32_0:w30.cell? ⟨gb265,0,none⟩=some (.int .i64 0):=(zz9 BK265.out 0).trans rfl;have hcz32_1:w30.cell? ⟨gb265,1,none⟩=some (.slice none 0 0):=(zz9 BK265.out 1).trans rfl;have hfz32_0:=zz10 BK265.out 0;have hfz32_1:=zz10 BK265.out 1;obtain ⟨Ao33,co33,eo33⟩:=Kd.R_slice HO277.out;subst eo33))
      refine bodyPost_ret (results_cell_row rfl _ _ gb265 30 #[.int .i64 t274,.slice Ao33 t275.length co33] (0,0) _ rfl (by (with_reducible repeat (first | refine zz6 ?_ _ | refine zz7 ?_ | refine zz8 ?_ _));refine blk_put (cs:=#[.int .i64 t274,.slice none 0 0]) ?_ 1 _ rfl;(with_reducible repeat (first | refine zz6 ?_ _ | refine zz7 ?_ | refine zz8 ?_ _));refine blk_put (cs:=#[.int .i64 0,.slice none 0 0]) ?_ 0 _ rfl;(with_reducible repeat (first | refine zz6 ?_ _ | refine zz7 ?_ | refine zz8 ?_ _));exact BK265.out) Try.underlying30 rfl (by kernel_rfl)) rfl ?_
      exact ⟨_,by first | rfl | (simp [errW_none,errW_some] <;> rfl) | (simp [*,errW_none,errW_some] <;> rfl),by (with_reducible repeat (first | apply zz12 | apply zz13 | apply zz14));exact Kd.R_mono (Kd.R_far (p:=⟨gb265,1,none⟩) (Kd.R_far (p:=⟨gb265,0,none⟩) (Kd.R_types HO277.out BK265.out (by decide)) (fun _ hk=>hk.2) (.int .i64 t274)) (fun _ hk=>hk.2) (.slice Ao33 t275.length co33)) (fun _ hk=>trivial),by repeat first | exact HB.out | apply zz2 | apply zz0 | apply zz1 | refine zz3 ?_ GE264.out | refine zz3 ?_ GE265.out⟩
  ·rw [if_neg c4] at H
   exact absurd H (by simp)
 ·rw [if_neg c3] at H
  exact absurd H (by simp)

end Go.Proofs.Ytoedkkoafidalaa.P
