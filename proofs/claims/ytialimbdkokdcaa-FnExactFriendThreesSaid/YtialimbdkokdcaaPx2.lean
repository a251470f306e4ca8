-- PRINTED by print.py (a twelfth state) out of the translation. Not trusted: Lean checks it.
import Derived.Test.YtialimbdkokdcaaPx0
import Derived.Test.YtialimbdkokdcaaPx1
import Derived.Test.YtialimbdkokdcaaPx3
import Derived.Test.YtialimbdkokdcaaPx4
import Derived.Test.YtialimbdkokdcaaPx5
namespace Go.Proofs.Ytialimbdkokdcaa.P
open Go.RowKit Go.Proofs.YtialimbdkokdcaaW.PrintWords Go.Proofs.YtialimbdkokdcaaW.PrintLast Go.Proofs.YtialimbdkokdcaaW.PrintMore
open Bool renaming true → T, false → F
attribute [local go_sem] max2_int min2_int max_two min_two max_three min_three max_four min_four   -- for this text's walks alone
set_option linter.unusedVariables false
set_option linter.unusedSimpArgs false

/-! ### spec_trThrees: function 43 -/
mutual
def spec_trThrees.l0:Nat→List (List Bool)→List Int→Int→Int→Option (List Int)
 | 0,_,_,_,_=>none
 | k+1,x3,x4,x15,x16=>if x16 < x15 then (spec_trThrees.l1 k x3 x4 x16 (wrap64 (x16+1)) x15 x16) else (some x4)
def spec_trThrees.l1:Nat→List (List Bool)→List Int→Int→Int→Int→Int→Option (List Int)
 | 0,_,_,_,_,_,_=>none
 | k+1,x3,x4,x5,x6,x15,x16=>if x6 < (x3.length:Int) then (spec_trThrees.l2 k x3 x4 x5 x6 (wrap64 (x6+1)) x15 x16) else (spec_trThrees.l0 k x3 x4 x15 (wrap64 (x16+1)))
def spec_trThrees.l2:Nat→List (List Bool)→List Int→Int→Int→Int→Int→Int→Option (List Int)
 | 0,_,_,_,_,_,_,_=>none
 | k+1,x3,x4,x5,x6,x7,x15,x16=>if x7 < (x3.length:Int) then (if 0≤x5 then (if x5 < (x3.length:Int) then (if 0≤x6 then (if x6 < ((rd_L4 x3 x5).length:Int) then (if 0≤x7 then (if x7 < ((rd_L4 x3 x5).length:Int) then (if x6 < (x3.length:Int) then (if x7 < ((rd_L4 x3 x6).length:Int) then ((some (([rdOf false (rd_L4 x3 x5) x6,rdOf false (rd_L4 x3 x5) x7,rdOf false (rd_L4 x3 x6) x7]:List Bool):List Bool)).bind fun y144=>(spec_trThrees.l3 k x3 x4 x5 x6 x7 0 x15 x16 y144 (y144.length:Int) 0)) else (none)) else (none)) else (none)) else (none)) else (none)) else (none)) else (none)) else (none)) else (spec_trThrees.l1 k x3 x4 x5 (wrap64 (x6+1)) x15 x16)
def spec_trThrees.l3:Nat→List (List Bool)→List Int→Int→Int→Int→Int→Int→Int→List Bool→Int→Int→Option (List Int)
 | 0,_,_,_,_,_,_,_,_,_,_,_=>none
 | k+1,x3,x4,x5,x6,x7,x8,x15,x16,x56,x57,x58=>if x58 < x57 then (if 0≤x58 then (if x58 < (x56.length:Int) then (if rdOf false x56 x58=true then (spec_trThrees.l3 k x3 x4 x5 x6 x7 (wrap64 (x8+1)) x15 x16 x56 x57 (wrap64 (x58+1))) else (spec_trThrees.l3 k x3 x4 x5 x6 x7 x8 x15 x16 x56 x57 (wrap64 (x58+1)))) else (none)) else (none)) else (if 0≤x8 then (if x8 < (x4.length:Int) then (spec_trThrees.l2 k x3 (x4.set (x8:Int).toNat (wrap64 ((rd x4 x8)+1))) x5 x6 (wrap64 (x7+1)) x15 x16) else (none)) else (none))
end
def spec_trThrees.f (k:Nat) (a0_0:Int) (l0_1:List (S80)):Option (List Int):=(spec_paTable.f k a0_0 l0_1).bind fun t132=>(if 4≤35184372088832 then (spec_trThrees.l0 k t132 (List.replicate 4 0) (t132.length:Int) 0) else (none))
theorem spec_trThrees.mono_l:∀ k,(∀ y0 y1 y2 y3,LeO (spec_trThrees.l0 k y0 y1 y2 y3) (spec_trThrees.l0 (k+1) y0 y1 y2 y3))∧(∀ y0 y1 y2 y3 y4 y5,LeO (spec_trThrees.l1 k y0 y1 y2 y3 y4 y5) (spec_trThrees.l1 (k+1) y0 y1 y2 y3 y4 y5))∧(∀ y0 y1 y2 y3 y4 y5 y6,LeO (spec_trThrees.l2 k y0 y1 y2 y3 y4 y5 y6) (spec_trThrees.l2 (k+1) y0 y1 y2 y3 y4 y5 y6))∧(∀ y0 y1 y2 y3 y4 y5 y6 y7 y8 y9 y10,LeO (spec_trThrees.l3 k y0 y1 y2 y3 y4 y5 y6 y7 y8 y9 y10) (spec_trThrees.l3 (k+1) y0 y1 y2 y3 y4 y5 y6 y7 y8 y9 y10))
 | 0=>⟨fun _ _ _ _ r h=>by simp [spec_trThrees.l0] at h,fun _ _ _ _ _ _ r h=>by simp [spec_trThrees.l1] at h,fun _ _ _ _ _ _ _ r h=>by simp [spec_trThrees.l2] at h,fun _ _ _ _ _ _ _ _ _ _ _ r h=>by simp [spec_trThrees.l3] at h⟩
 | k+1=>by
  obtain ⟨ih0,ih1,ih2,ih3⟩:=spec_trThrees.mono_l k
  refine ⟨?_,?_,?_,?_⟩
  ·intro y0 y1 y2 y3
   unfold spec_trThrees.l0
   repeat' first
   | (with_reducible exact ih0 _ _ _ _)
   | (with_reducible exact ih1 _ _ _ _ _ _)
   | (with_reducible exact ih2 _ _ _ _ _ _ _)
   | (with_reducible exact ih3 _ _ _ _ _ _ _ _ _ _ _)
   | (with_reducible exact spec_paTable.mono _ _ _)
   | (with_reducible exact LeO.refl _)
   | (with_reducible exact LeO.none _)
   | (with_reducible refine LeO.ite ?_ ?_)
   | (with_reducible refine LeO.bind ?_ (fun _=>?_))
   | exact ih0 _ _ _ _
   | exact ih1 _ _ _ _ _ _
   | exact ih2 _ _ _ _ _ _ _
   | exact ih3 _ _ _ _ _ _ _ _ _ _ _
   | exact spec_paTable.mono _ _ _
   | exact LeO.none _
   | refine LeO.ite ?_ ?_
   | refine LeO.bind ?_ (fun _=>?_)
  ·intro y0 y1 y2 y3 y4 y5
   unfold spec_trThrees.l1
   repeat' first
   | (with_reducible exact ih0 _ _ _ _)
   | (with_reducible exact ih1 _ _ _ _ _ _)
   | (with_reducible exact ih2 _ _ _ _ _ _ _)
   | (with_reducible exact ih3 _ _ _ _ _ _ _ _ _ _ _)
   | (with_reducible exact spec_paTable.mono _ _ _)
   | (with_reducible exact LeO.refl _)
   | (with_reducible exact LeO.none _)
   | (with_reducible refine LeO.ite ?_ ?_)
   | (with_reducible refine LeO.bind ?_ (fun _=>?_))
   | exact ih0 _ _ _ _
   | exact ih1 _ _ _ _ _ _
   | exact ih2 _ _ _ _ _ _ _
   | exact ih3 _ _ _ _ _ _ _ _ _ _ _
   | exact spec_paTable.mono _ _ _
   | exact LeO.none _
   | refine LeO.ite ?_ ?_
   | refine LeO.bind ?_ (fun _=>?_)
  ·intro y0 y1 y2 y3 y4 y5 y6
   unfold spec_trThrees.l2
   repeat' first
   | (with_reducible exact ih0 _ _ _ _)
   | (with_reducible exact ih1 _ _ _ _ _ _)
   | (with_reducible exact ih2 _ _ _ _ _ _ _)
   | (with_reducible exact ih3 _ _ _ _ _ _ _ _ _ _ _)
   | (with_reducible exact spec_paTable.mono _ _ _)
   | (with_reducible exact LeO.refl _)
   | (with_reducible exact LeO.none _)
   | (with_reducible refine LeO.ite ?_ ?_)
   | (with_reducible refine LeO.bind ?_ (fun _=>?_))
   | exact ih0 _ _ _ _
   | exact ih1 _ _ _ _ _ _
   | exact ih2 _ _ _ _ _ _ _
   | exact ih3 _ _ _ _ _ _ _ _ _ _ _
   | exact spec_paTable.mono _ _ _
   | exact LeO.none _
   | refine LeO.ite ?_ ?_
   | refine LeO.bind ?_ (fun _=>?_)
  ·intro y0 y1 y2 y3 y4 y5 y6 y7 y8 y9 y10
   unfold spec_trThrees.l3
   repeat' first
   | (with_reducible exact ih0 _ _ _ _)
   | (with_reducible exact ih1 _ _ _ _ _ _)
   | (with_reducible exact ih2 _ _ _ _ _ _ _)
   | (with_reducible exact ih3 _ _ _ _ _ _ _ _ _ _ _)
   | (with_reducible exact spec_paTable.mono _ _ _)
   | (with_reducible exact LeO.refl _)
   | (with_reducible exact LeO.none _)
   | (with_reducible refine LeO.ite ?_ ?_)
   | (with_reducible refine LeO.bind ?_ (fun _=>?_))
   | exact ih0 _ _ _ _
   | exact ih1 _ _ _ _ _ _
   | exact ih2 _ _ _ _ _ _ _
   | exact ih3 _ _ _ _ _ _ _ _ _ _ _
   | exact spec_paTable.mono _ _ _
   | exact LeO.none _
   | refine LeO.ite ?_ ?_
   | refine LeO.bind ?_ (fun _=>?_)
theorem spec_trThrees.mono:∀ a0 a1 k,LeO (spec_trThrees.f k a0 a1) (spec_trThrees.f (k+1) a0 a1):=by
 intro a0 a1 k
 obtain ⟨ih0,ih1,ih2,ih3⟩:=spec_trThrees.mono_l k
 unfold spec_trThrees.f
 repeat' first
   | (with_reducible exact ih0 _ _ _ _)
   | (with_reducible exact ih1 _ _ _ _ _ _)
   | (with_reducible exact ih2 _ _ _ _ _ _ _)
   | (with_reducible exact ih3 _ _ _ _ _ _ _ _ _ _ _)
   | (with_reducible exact spec_paTable.mono _ _ _)
   | (with_reducible exact LeO.refl _)
   | (with_reducible exact LeO.none _)
   | (with_reducible refine LeO.ite ?_ ?_)
   | (with_reducible refine LeO.bind ?_ (fun _=>?_))
   | exact ih0 _ _ _ _
   | exact ih1 _ _ _ _ _ _
   | exact ih2 _ _ _ _ _ _ _
   | exact ih3 _ _ _ _ _ _ _ _ _ _ _
   | exact spec_paTable.mono _ _ _
   | exact LeO.none _
   | refine LeO.ite ?_ ?_
   | refine LeO.bind ?_ (fun _=>?_)
def spec_trThrees.T13:Bool × List (List Nat × List Nat):=(true,[([],[]),([],[]),([0,1],[0,1]),([2],[2]),([],[]),([3,4],[3,4]),([5],[5]),([],[]),([],[]),([7,8],[7,8]),([9],[9]),([],[]),([10,11],[10,11]),([12],[12]),([],[]),([],[]),([14,15],[14,15]),([16],[16]),([],[]),([17,18],[17,18]),([19],[19]),([6,13,20],[6,13,20]),([21],[21]),([],[])])
def spec_trThrees.B13:List Nat:=[0,0,3,7,0,31,63,0,0,384,896,0,3968,8064,0,0,49152,114688,0,507904,1032192,2097151,4194303,0]
theorem spec_trThrees.tab13:rtab .any (opsOf Try.f43 13)=spec_trThrees.T13:=by kernel_rfl
theorem spec_trThrees.bits13:waitsOk spec_trThrees.T13.2 spec_trThrees.B13=true:=by kernel_rfl
set_option maxHeartbeats 8000000 in
set_option maxRecDepth 100000 in
theorem spec_trThrees.calls (k:Nat) (a0_0:Int) (A0_1:Option Addr) (c0_1:Nat) (l0_1:List (S80)) (r:List Int) (w:World) (hr0_1:Kd.C k80 w A0_1 l0_1.length l0_1) (hc0_1:l0_1.length≤c0_1) (h:spec_trThrees.f k a0_0 l0_1=some r) :
  Calls Try.prog 43 #[.agg #[.int .i64 a0_0,.slice A0_1 l0_1.length c0_1]] w fun e w'=>∃ v0_:Value,e=.returned (v0_)∧Kd.R (Kd.int .i64) 3 w' w.heap.size (fun _=>True) v0_ r∧Below w.heap.size w w':=by
 have hu30:=Try.underlying30
 have HR0_1:=zz31 hr0_1
 have HC0_1:=zz31 hc0_1
 clear hr0_1 hc0_1
 have HB:=zz31 (Below.refl w.heap.size w)
 have H:((spec_paTable.f k a0_0 l0_1).bind fun t132=>(if 4≤35184372088832 then (spec_trThrees.l0 k t132 (List.replicate 4 0) (t132.length:Int) 0) else (none)))=some r:=h
 clear h
 replace H:=zz30.mp H
 obtain ⟨t132,A20,H⟩:=H
 replace H:(if 4≤35184372088832 then (spec_trThrees.l0 k t132 (List.replicate 4 0) (t132.length:Int) 0) else (none))=some r:=H
 have A2:=zz31 A20
 clear A20
 by_cases c3:4≤35184372088832
 ·rw [if_pos c3] at H
  have c3b0:=eq_true c3
  have c3b1:decide (4≤35184372088832)=true:=decide_eq_true c3
  clear c3
  obtain ⟨y135,hy135⟩:∃ y_:List Int,y_=(List.replicate 4 0):=⟨_,rfl⟩
  replace H:(spec_trThrees.l0 k t132 y135 (t132.length:Int) 0)=some r:=by first | (rw [hy135];with_reducible exact H) | (have H2_:=(Option.bind_some _ _).symm.trans H;rw [hy135];with_reducible exact H2_) | (have H2_:=(Option.bind_some _ _).symm.trans H;with_reducible exact H2_) | with_reducible exact H | (rw [hy135];exact H) | exact H
  have Ny135:=zz31 hy135
  clear hy135
  have H':=zz31 H
  clear H
  go_enter Try.func43,Try.ntmps43
  go_wp2_with (first | ((with_reducible refine gate_dst (N:=1) rfl ?_);refine box_event ?hg (N:=1) ?hd (cs:=#[.int .i64 a0_0,.slice A0_1 l0_1.length c0_1]) (t:=30) ?hr ?_;(case hd=>rfl);(case hg=>rfl);(case hr=>first | (go_simp;done) | (go_simp;rfl));intro gb131 hg w4 hbox hb;have n0_:=zz31 (zz4 (by repeat first | exact HB.out | apply zz2 | apply zz0 | apply zz1) hb);have n1_:=zz31 (hbox);have n2_:=zz31 ((by rw [hg];exact (zz5 (by repeat first | exact HB.out | apply zz2 | apply zz0 | apply zz1)):w.heap.size≤gb131));have n3_:=zz31 ((by rw [hg];exact (zz5 (by repeat first | exact HB.out | apply zz2 | apply zz0 | apply zz1)):w.heap.size≤gb131));clear HB;have HB:=n0_;have BK131:=n1_;have GW131:=n2_;have GE131:=n3_;clear n0_ n1_ n2_ n3_;clear hb hbox hg;have hcz5_0:w4.cell? ⟨gb131,0,none⟩=some (.int .i64 a0_0):=(zz9 BK131.out 0).trans rfl;have hcz5_1:w4.cell? ⟨gb131,1,none⟩=some (.slice A0_1 l0_1.length c0_1):=(zz9 BK131.out 1).trans rfl;have hfz5_0:=zz10 BK131.out 0;have hfz5_1:=zz10 BK131.out 1) | ((with_reducible refine gate_callee (f:=53) rfl ?_);refine goesL_ (some 12) rfl rfl Try.func53 (by kernel_rfl) rfl #[.agg #[.int .i64 a0_0,.slice A0_1 l0_1.length c0_1]] rfl (by (try simp only [zz26,zz27,zz28]);first | done | rfl | (simp only [zz24,zz25];rfl)) ?_;(with_reducible refine (spec_paTable.calls k a0_0 _ _ l0_1 t132 _ ?side1 ?side2 A2.out).mono ?_);(case side1=>repeat (first | exact (Kd.C_below HR0_1.out HB.out) | (with_reducible refine zz18 ?_ _) | (with_reducible refine zz19 ?_ _) | (with_reducible refine zz20 ?_)));(case side2=>exact HC0_1.out);rintro e w6 ⟨v133,rfl,ho0,hb⟩;refine ⟨_,rfl,?_⟩;have n0_:=zz31 (Kd.S_lower ho0 (zz5 (by repeat first | exact HB.out | apply zz2 | apply zz0 | apply zz1 | refine zz3 ?_ GE131.out)));have n1_:=zz31 (zz11 (g:=gb131) (o:=.cells #[.int .i64 a0_0,.slice A0_1 l0_1.length c0_1] 30 (0,0)) (by (with_reducible repeat (first | refine zz6 ?_ _ | refine zz7 ?_ | refine zz8 ?_ _));exact BK131.out) hb);have n2_:=zz31 (zz4 (by repeat first | exact HB.out | apply zz2 | apply zz0 | apply zz1 | refine zz3 ?_ GE131.out) hb);clear BK131;clear HB;have HO134:=n0_;have BK131:=n1_;have HB:=n2_;clear n0_ n1_ n2_;(try clear hb);(try clear hb2);(try clear hk);(try clear hi);(try clear ho0)) | ((with_reducible refine gate_dst (N:=13) rfl ?_);refine Kd.R_make (Kd.int .i64) _ 3 rfl (N:=13) rfl 40 _ _ rfl 4 rfl rfl Try.underlying40 (.int .i64 0) 8 info3 rfl (by decide) (by omega) 0 (ok:=fun _=>True) (okp:=fun _=>True) rfl (fun _ hk=>hk) trivial (by omega) (by omega) (Below.refl _ _) (Nat.le_refl _) ?_;intro v136 w7 ho8 hb hg_ hnew_;clear hg_ hnew_;(first | rw [← Ny135.out] at ho8 | (simp only [Int.reduceToNat] at ho8;rw [← Ny135.out] at ho8));have n0_:=zz31 (Kd.S_below (by (with_reducible repeat (first | apply zz15 | apply zz16 | apply zz17));exact HO134.out) hb);have n1_:=zz31 (Kd.R_lower ho8 (zz5 (by repeat first | exact HB.out | apply zz2 | apply zz0 | apply zz1 | refine zz3 ?_ GE131.out)));have n2_:=zz31 (zz11 (g:=gb131) (o:=.cells #[.int .i64 a0_0,.slice A0_1 l0_1.length c0_1] 30 (0,0)) (by (with_reducible repeat (first | refine zz6 ?_ _ | refine zz7 ?_ | refine zz8 ?_ _));exact BK131.out) hb);have n3_:=zz31 (zz4 (by repeat first | exact HB.out | apply zz2 | apply zz0 | apply zz1 | refine zz3 ?_ GE131.out) hb);clear HO134;clear BK131;clear HB;have HO134:=n0_;have HO137:=n1_;have BK131:=n2_;have HB:=n3_;clear n0_ n1_ n2_ n3_;clear hb ho8;obtain ⟨Ao9,co9,eo9⟩:=Kd.S_slice HO134.out;subst eo9))
  go_loopg [16] k (fun kq v16 w'=>∃ (x4_1:List Int) (x16_1:Int),v16=.int .i64 x16_1∧Aside0 (spec_trThrees.l0 kq t132 x4_1 (t132.length:Int) x16_1=some r)∧Aside0 (kq≤k)∧Aside0 (Kd.S (Kd.slice 4 Kd.bool) 92 w' w.heap.size (fun _=>True) (.slice Ao9 t132.length co9) t132)∧Aside0 (Kd.R (Kd.int .i64) 3 w' w.heap.size (fun _=>True) v136 x4_1)∧Aside0 (w'.heap[gb131]?=some (.cells #[.int .i64 a0_0,(.slice A0_1 l0_1.length c0_1)] 30 (0,0)))∧Aside0 (Below w.heap.size w w'))
  case atStart=>exact ⟨(y135),(0),(by first | rfl | (simp;done) | (simp [*];done)),H',⟨Nat.le_refl _⟩,⟨by (with_reducible repeat (first | apply zz15 | apply zz16 | apply zz17));exact HO134.out⟩,⟨by (with_reducible repeat (first | apply zz12 | apply zz13 | apply zz14));exact HO137.out⟩,⟨by (with_reducible repeat (first | refine zz6 ?_ _ | refine zz7 ?_ | refine zz8 ?_ _));exact BK131.out⟩,⟨by repeat first | exact HB.out | apply zz2 | apply zz0 | apply zz1 | refine zz3 ?_ GE131.out⟩⟩
  case round =>
   clear H'
   try clear p2
   try clear c3
   try clear c3b0
   try clear c3b1
   try clear c4
   try clear c5
   try clear hcz5_0
   try clear hcz5_1
   try clear hfz5_0
   try clear hfz5_1
   obtain ⟨x4_1,x16_1,rfl,HA,HK1,HO_3,HO_4,BK131,HB⟩:=hrel
   cases gk with
   | zero=>exact absurd HA.out (by simp [spec_trThrees.l0])
   | succ k1 =>
    have H:=HA.out
    clear HA
    simp only [spec_trThrees.l0] at H
    by_cases c10:x16_1 < (t132.length:Int)
    ·rw [if_pos c10] at H
     have c10b0:decide (x16_1 < (t132.length:Int))=true:=decide_eq_true c10
     clear c10
     have H':=zz31 H
     clear H
     go_wp2
     go_loopg [6] k1 (fun kq v6 w'=>∃ (x4_2:List Int) (x6_2:Int),v6=.int .i64 x6_2∧Aside0 (spec_trThrees.l1 kq t132 x4_2 x16_1 x6_2 (t132.length:Int) x16_1=some r)∧Aside0 (kq≤k1)∧Aside0 (Kd.S (Kd.slice 4 Kd.bool) 92 w' w.heap.size (fun _=>True) (.slice Ao9 t132.length co9) t132)∧Aside0 (Kd.R (Kd.int .i64) 3 w' w.heap.size (fun _=>True) v136 x4_2)∧Aside0 (w'.heap[gb131]?=some (.cells #[.int .i64 a0_0,(.slice A0_1 l0_1.length c0_1)] 30 (0,0)))∧Aside0 (Below w.heap.size w w'))
     case atStart=>exact ⟨(x4_1),(wrap64 (x16_1+1)),(by first | rfl | (simp;done) | (simp [*];done)),H',⟨Nat.le_refl _⟩,⟨by (with_reducible repeat (first | apply zz15 | apply zz16 | apply zz17));exact HO_3.out⟩,⟨by (with_reducible repeat (first | apply zz12 | apply zz13 | apply zz14));exact HO_4.out⟩,⟨by (with_reducible repeat (first | refine zz6 ?_ _ | refine zz7 ?_ | refine zz8 ?_ _));exact BK131.out⟩,⟨by repeat first | exact HB.out | apply zz2 | apply zz0 | apply zz1 | refine zz3 ?_ GE131.out⟩⟩
     case round =>
      clear H'
      try clear c1
      try clear p2
      try clear c3
      try clear c3b0
      try clear c3b1
      try clear c4
      try clear c5
      try clear p6
      try clear c10
      try clear c10b0
      try clear hcz5_0
      try clear hcz5_1
      try clear hfz5_0
      try clear hfz5_1
      try clear p2
      obtain ⟨x4_2,x6_2,rfl,HA,HK2,HO_3,HO_4,BK131,HB⟩:=hrel
      cases gk with
      | zero=>exact absurd HA.out (by simp [spec_trThrees.l1])
      | succ k2 =>
       have H:=HA.out
       clear HA
       simp only [spec_trThrees.l1] at H
       by_cases c11:x6_2 < (t132.length:Int)
       ·rw [if_pos c11] at H
        have c11b0:decide (x6_2 < (t132.length:Int))=true:=decide_eq_true c11
        clear c11
        have H':=zz31 H
        clear H
        go_wp2
        go_loopg [7] k2 (fun kq v7 w'=>∃ (x4_3:List Int) (x7_3:Int),v7=.int .i64 x7_3∧Aside0 (spec_trThrees.l2 kq t132 x4_3 x16_1 x6_2 x7_3 (t132.length:Int) x16_1=some r)∧Aside0 (kq≤k2)∧Aside0 (Kd.S (Kd.slice 4 Kd.bool) 92 w' w.heap.size (fun _=>True) (.slice Ao9 t132.length co9) t132)∧Aside0 (Kd.R (Kd.int .i64) 3 w' w.heap.size (fun _=>True) v136 x4_3)∧Aside0 (w'.heap[gb131]?=some (.cells #[.int .i64 a0_0,(.slice A0_1 l0_1.length c0_1)] 30 (0,0)))∧Aside0 (Below w.heap.size w w'))
        case atStart=>exact ⟨(x4_2),(wrap64 (x6_2+1)),(by first | rfl | (simp;done) | (simp [*];done)),H',⟨Nat.le_refl _⟩,⟨by (with_reducible repeat (first | apply zz15 | apply zz16 | apply zz17));exact HO_3.out⟩,⟨by (with_reducible repeat (first | apply zz12 | apply zz13 | apply zz14));exact HO_4.out⟩,⟨by (with_reducible repeat (first | refine zz6 ?_ _ | refine zz7 ?_ | refine zz8 ?_ _));exact BK131.out⟩,⟨by repeat first | exact HB.out | apply zz2 | apply zz0 | apply zz1 | refine zz3 ?_ GE131.out⟩⟩
        case round =>
         clear H'
         try clear c1
         try clear p2
         try clear c3
         try clear c3b0
         try clear c3b1
         try clear c4
         try clear c5
         try clear p6
         try clear c10
         try clear c10b0
         try clear c11
         try clear c11b0
         try clear hcz5_0
         try clear hcz5_1
         try clear hfz5_0
         try clear hfz5_1
         try clear p2
         try clear p6
         obtain ⟨x4_3,x7_3,rfl,HA,HK3,HO_3,HO_4,BK131,HB⟩:=hrel
         cases gk with
         | zero=>exact absurd HA.out (by simp [spec_trThrees.l2])
         | succ k3 =>
          have H:=HA.out
          clear HA
          simp only [spec_trThrees.l2] at H
          by_cases c12:x7_3 < (t132.length:Int)
          ·rw [if_pos c12] at H
           have c12b0:decide (x7_3 < (t132.length:Int))=true:=decide_eq_true c12
           clear c12
           by_cases c13:0≤x16_1
           ·rw [if_pos c13] at H
            have c13b0:decide (0≤x16_1)=true:=decide_eq_true c13
            clear c13
            by_cases c14:x16_1 < (t132.length:Int)
            ·rw [if_pos c14] at H
             have c14b0:decide (x16_1 < (t132.length:Int))=true:=decide_eq_true c14
             clear c14
             by_cases c15:0≤x6_2
             ·rw [if_pos c15] at H
              have c15b0:decide (0≤x6_2)=true:=decide_eq_true c15
              clear c15
              by_cases c16:x6_2 < ((rd_L4 t132 x16_1).length:Int)
              ·rw [if_pos c16] at H
               have c16b0:decide (x6_2 < ((rd_L4 t132 x16_1).length:Int))=true:=decide_eq_true c16
               clear c16
               by_cases c17:0≤x7_3
               ·rw [if_pos c17] at H
                have c17b0:decide (0≤x7_3)=true:=decide_eq_true c17
                clear c17
                by_cases c18:x7_3 < ((rd_L4 t132 x16_1).length:Int)
                ·rw [if_pos c18] at H
                 have c18b0:decide (x7_3 < ((rd_L4 t132 x16_1).length:Int))=true:=decide_eq_true c18
                 clear c18
                 by_cases c19:x6_2 < (t132.length:Int)
                 ·rw [if_pos c19] at H
                  have c19b0:decide (x6_2 < (t132.length:Int))=true:=decide_eq_true c19
                  clear c19
                  by_cases c20:x7_3 < ((rd_L4 t132 x6_2).length:Int)
                  ·rw [if_pos c20] at H
                   have c20b0:decide (x7_3 < ((rd_L4 t132 x6_2).length:Int))=true:=decide_eq_true c20
                   clear c20
                   obtain ⟨y144,hy144⟩:∃ y_:List Bool,y_=(([rdOf false (rd_L4 t132 x16_1) x6_2,rdOf false (rd_L4 t132 x16_1) x7_3,rdOf false (rd_L4 t132 x6_2) x7_3]:List Bool)):=⟨_,rfl⟩
                   replace H:(spec_trThrees.l3 k3 t132 x4_3 x16_1 x6_2 x7_3 0 (t132.length:Int) x16_1 y144 (y144.length:Int) 0)=some r:=by first | (rw [hy144];with_reducible exact H) | (have H2_:=(Option.bind_some _ _).symm.trans H;rw [hy144];with_reducible exact H2_) | (have H2_:=(Option.bind_some _ _).symm.trans H;with_reducible exact H2_) | with_reducible exact H | (rw [hy144];exact H) | exact H
                   have Ny144:=zz31 hy144
                   clear hy144
                   have H':=zz31 H
                   clear H
                   try go_wp2
                   have n0_:=zz31 (zz17 HO_3.out)
                   have n1_:=zz31 (zz14 HO_4.out)
                   have n2_:=zz31 (zz7 BK131.out)
                   have n3_:=zz31 (zz1 HB.out)
                   clear HO_3
                   clear HO_4
                   clear BK131
                   clear HB
                   have HO_3:=n0_
                   have HO_4:=n1_
                   have BK131:=n2_
                   have HB:=n3_
                   clear n0_ n1_ n2_ n3_
                   have p138:0≤(x16_1:Int):=zz29 (by first | (with_reducible assumption) | assumption)
                   have q138:x16_1 < (t132.length:Int):=zz29 (by first | (with_reducible assumption) | assumption)
                   obtain ⟨ad138,A138_0,c138_0,e138,hx138_0,hl138_0,hi138_0⟩:=at_L4 (Kd.S_reads' HO_3.out).2.2 x16_1 p138 q138
                   cases e138
                   obtain ⟨ce138,hce138,hMe138,hcc138⟩:=Kd.S_get HO_3.out [] x16_1 p138 (by first | exact q138 | exact zz29 (by first | (with_reducible assumption) | assumption) | (have e_:=(Kd.S_reads' HO_3.out).1;omega))
                   obtain ⟨ve138_0,rfl,ge138_0⟩:=hMe138
                   have hv138_0:=hcc138 0 _ rfl
                   rw [Nat.add_zero,show ((Kd.slice 4 Kd.bool)).sz=1 from rfl,Nat.mul_one] at hv138_0
                   replace hv138_0:=Option.some.inj (hv138_0.symm.trans hx138_0)
                   rw [hv138_0] at ge138_0
                   have HL138_0:=zz31 (show Kd.R Kd.bool 4 _ _ _ _ (rd_L4 t132 x16_1) from ge138_0)
                   clear hv138_0 ge138_0
                   clear hcc138 hce138
                   have HR138_0:=zz31 hi138_0
                   have HC138_0:=zz31 hl138_0
                   clear hi138_0 hl138_0
                   replace p138:=eq_true p138
                   replace q138:=eq_true q138
                   have p139:0≤(x6_2:Int):=zz29 (by first | (with_reducible assumption) | assumption)
                   have q139:x6_2 < ((rd_L4 t132 x16_1).length:Int):=zz29 (by first | (with_reducible assumption) | assumption)
                   obtain ⟨ad139,e139,hx139_0⟩:=Kd.at_bool (by repeat (first | (with_reducible exact HR138_0.out) | (with_reducible refine zz18 ?_ _) | (with_reducible refine zz19 ?_ _) | (with_reducible refine zz20 ?_) | exact HR138_0.out)) x6_2 p139 q139
                   cases e139
                   replace p139:=eq_true p139
                   replace q139:=eq_true q139
                   have p140:0≤(x16_1:Int):=zz29 (by first | (with_reducible assumption) | assumption)
                   have q140:x16_1 < (t132.length:Int):=zz29 (by first | (with_reducible assumption) | assumption)
                   obtain ⟨ad140,A140_0,c140_0,e140,hx140_0,hl140_0,hi140_0⟩:=at_L4 (Kd.S_reads' HO_3.out).2.2 x16_1 p140 q140
                   obtain rfl:ad138=ad140:=(by injection e140)
                   obtain ⟨ce140,hce140,hMe140,hcc140⟩:=Kd.S_get HO_3.out [] x16_1 p140 (by first | exact q140 | exact zz29 (by first | (with_reducible assumption) | assumption) | (have e_:=(Kd.S_reads' HO_3.out).1;omega))
                   obtain ⟨ve140_0,rfl,ge140_0⟩:=hMe140
                   have hv140_0:=hcc140 0 _ rfl
                   rw [Nat.add_zero,show ((Kd.slice 4 Kd.bool)).sz=1 from rfl,Nat.mul_one] at hv140_0
                   replace hv140_0:=Option.some.inj (hv140_0.symm.trans hx140_0)
                   rw [hv140_0] at ge140_0
                   have HL140_0:=zz31 (show Kd.R Kd.bool 4 _ _ _ _ (rd_L4 t132 x16_1) from ge140_0)
                   clear hv140_0 ge140_0
                   clear hcc140 hce140
                   have HR140_0:=zz31 hi140_0
                   have HC140_0:=zz31 hl140_0
                   clear hi140_0 hl140_0
                   replace p140:=eq_true p140
                   replace q140:=eq_true q140
                   have ea_:=Option.some.inj (hx138_0.symm.trans hx140_0)
                   injection ea_ with ea_ en_ ec_
                   subst ea_
                   subst ec_
                   clear en_
                   have p141:0≤(x7_3:Int):=zz29 (by first | (with_reducible assumption) | assumption)
                   have q141:x7_3 < ((rd_L4 t132 x16_1).length:Int):=zz29 (by first | (with_reducible assumption) | assumption)
                   obtain ⟨ad141,e141,hx141_0⟩:=Kd.at_bool (by repeat (first | (with_reducible exact HR140_0.out) | (with_reducible refine zz18 ?_ _) | (with_reducible refine zz19 ?_ _) | (with_reducible refine zz20 ?_) | exact HR140_0.out)) x7_3 p141 q141
                   cases e141
                   replace p141:=eq_true p141
                   replace q141:=eq_true q141
                   have p142:0≤(x6_2:Int):=zz29 (by first | (with_reducible assumption) | assumption)
                   have q142:x6_2 < (t132.length:Int):=zz29 (by first | (with_reducible assumption) | assumption)
                   obtain ⟨ad142,A142_0,c142_0,e142,hx142_0,hl142_0,hi142_0⟩:=at_L4 (Kd.S_reads' HO_3.out).2.2 x6_2 p142 q142
                   obtain rfl:ad138=ad142:=(by injection e142)
                   obtain ⟨ce142,hce142,hMe142,hcc142⟩:=Kd.S_get HO_3.out [] x6_2 p142 (by first | exact q142 | exact zz29 (by first | (with_reducible assumption) | assumption) | (have e_:=(Kd.S_reads' HO_3.out).1;omega))
                   obtain ⟨ve142_0,rfl,ge142_0⟩:=hMe142
                   have hv142_0:=hcc142 0 _ rfl
                   rw [Nat.add_zero,show ((Kd.slice 4 Kd.bool)).sz=1 from rfl,Nat.mul_one] at hv142_0
                   replace hv142_0:=Option.some.inj (hv142_0.symm.trans hx142_0)
                   rw [hv142_0] at ge142_0
                   have HL142_0:=zz31 (show Kd.R Kd.bool 4 _ _ _ _ (rd_L4 t132 x6_2) from ge142_0)
                   clear hv142_0 ge142_0
                   clear hcc142 hce142
                   have HR142_0:=zz31 hi142_0
                   have HC142_0:=zz31 hl142_0
                   clear hi142_0 hl142_0
                   replace p142:=eq_true p142
                   replace q142:=eq_true q142
                   have p143:0≤(x7_3:Int):=zz29 (by first | (with_reducible assumption) | assumption)
                   have q143:x7_3 < ((rd_L4 t132 x6_2).length:Int):=zz29 (by first | (with_reducible assumption) | assumption)
                   obtain ⟨ad143,e143,hx143_0⟩:=Kd.at_bool (by repeat (first | (with_reducible exact HR142_0.out) | (with_reducible refine zz18 ?_ _) | (with_reducible refine zz19 ?_ _) | (with_reducible refine zz20 ?_) | exact HR142_0.out)) x7_3 p143 q143
                   cases e143
                   replace p143:=eq_true p143
                   replace q143:=eq_true q143
                   refine start_ (n:=24) (S:=fun w'=>w'.cell? (ad138.add (x16_1).toNat)=some (.slice (some ad139) (rd_L4 t132 x16_1).length c138_0)∧w'.cell? (ad139.add (x6_2).toNat)=some (.bool (rdOf false (rd_L4 t132 x16_1) x6_2))∧w'.cell? (ad138.add (x16_1).toNat)=some (.slice (some ad139) (rd_L4 t132 x16_1).length c138_0)∧w'.cell? (ad139.add (x7_3).toNat)=some (.bool (rdOf false (rd_L4 t132 x16_1) x7_3))∧w'.cell? (ad138.add (x6_2).toNat)=some (.slice (some ad143) (rd_L4 t132 x6_2).length c142_0)∧w'.cell? (ad143.add (x7_3).toNat)=some (.bool (rdOf false (rd_L4 t132 x6_2) x7_3))) (ds:=[]) #[F,F,F,F,F,F,F,F,F,F,F,F,F,F,F,F,F,F,F,F,F,F,F,F] (by kernel_rfl) rfl rfl ⟨hx138_0,hx139_0,hx140_0,hx141_0,hx142_0,hx143_0⟩ (fun hHeld=>?_);refine with_tabW spec_trThrees.tab13 spec_trThrees.bits13 (fun HT_ HW_=>?_)
                   generalize wr.drew=w21 at HO_3 HO_4 BK131 HB HL138_0 HL140_0 HL142_0 HR138_0 HR140_0 HR142_0 hx138_0 hx139_0 hx140_0 hx141_0 hx142_0 hx143_0 hHeld ⊢
                   refine pure_ (i:=0) (N:=some 35) (v:=?_) (a':=?_) #[T,F,F,F,F,F,F,F,F,F,F,F,F,F,F,F,F,F,F,F,F,F,F,F] rfl rfl (any_of HT_.out (by kernel_rfl)) (fun _ _ _ h=>h) (Or.inl ⟨by rfl,?_⟩) ?_ ?_
                   rotate_left
                   ·intro w'
                    go_simp
                    with_reducible rfl
                   rotate_left
                   ·simp only [Act.put,zz21,zz22,zz23,i64_w,i32_w]
                    rfl
                   refine pure_ (i:=1) (N:=some 36) (v:=?_) (a':=?_) #[T,T,F,F,F,F,F,F,F,F,F,F,F,F,F,F,F,F,F,F,F,F,F,F] rfl rfl (any_of HT_.out (by kernel_rfl)) (fun _ _ _ h=>h) (Or.inl ⟨by rfl,?_⟩) ?_ ?_
                   rotate_left
                   ·intro w'
                    go_simp
                    with_reducible rfl
                   rotate_left
                   ·simp only [Act.put,zz21,zz22,zz23,i64_w,i32_w]
                    rfl
                   refine pure_ (i:=2) (N:=some 37) (v:=?_) (a':=?_) #[T,T,T,F,F,F,F,F,F,F,F,F,F,F,F,F,F,F,F,F,F,F,F,F] rfl rfl (any_of HT_.out (by kernel_rfl)) (fun _ _ _ h=>h) (Or.inl ⟨by rfl,?_⟩) ?_ ?_
                   rotate_left
                   ·intro w'
                    go_simp
                    with_reducible rfl
                   rotate_left
                   ·simp only [Act.put,zz21,zz22,zz23,i64_w,i32_w]
                    rfl
                   refine pure_ (i:=4) (N:=some 39) (v:=?_) (a':=?_) #[T,T,T,F,T,F,F,F,F,F,F,F,F,F,F,F,F,F,F,F,F,F,F,F] rfl rfl (any_of HT_.out (by kernel_rfl)) (fun _ _ _ h=>h) (Or.inl ⟨by rfl,?_⟩) ?_ ?_
                   rotate_left
                   ·intro w'
                    go_simp
                    with_reducible rfl
                   rotate_left
                   ·simp only [Act.put,zz21,zz22,zz23,i64_w,i32_w]
                    rfl
                   refine pure_ (i:=7) (N:=some 42) (v:=?_) (a':=?_) #[T,T,T,F,T,F,F,T,F,F,F,F,F,F,F,F,F,F,F,F,F,F,F,F] rfl rfl (any_of HT_.out (by kernel_rfl)) (fun _ _ _ h=>h) (Or.inl ⟨by rfl,?_⟩) ?_ ?_
                   rotate_left
                   ·intro w'
                    go_simp
                    with_reducible rfl
                   rotate_left
                   ·simp only [Act.put,zz21,zz22,zz23,i64_w,i32_w]
                    rfl
                   refine pure_ (i:=8) (N:=some 43) (v:=?_) (a':=?_) #[T,T,T,F,T,F,F,T,T,F,F,F,F,F,F,F,F,F,F,F,F,F,F,F] rfl rfl (any_of HT_.out (by kernel_rfl)) (fun _ _ _ h=>h) (Or.inl ⟨by rfl,?_⟩) ?_ ?_
                   rotate_left
                   ·intro w'
                    go_simp
                    with_reducible rfl
                   rotate_left
                   ·simp only [Act.put,zz21,zz22,zz23,i64_w,i32_w]
                    rfl
                   refine pure_ (i:=9) (N:=some 44) (v:=?_) (a':=?_) #[T,T,T,F,T,F,F,T,T,T,F,F,F,F,F,F,F,F,F,F,F,F,F,F] rfl rfl (any_of HT_.out (by kernel_rfl)) (fun _ _ _ h=>h) (Or.inl ⟨by rfl,?_⟩) ?_ ?_
                   rotate_left
                   ·intro w'
                    go_simp
                    with_reducible rfl
                   rotate_left
                   ·simp only [Act.put,zz21,zz22,zz23,i64_w,i32_w]
                    rfl
                   refine pure_ (i:=11) (N:=some 46) (v:=?_) (a':=?_) #[T,T,T,F,T,F,F,T,T,T,F,T,F,F,F,F,F,F,F,F,F,F,F,F] rfl rfl (any_of HT_.out (by kernel_rfl)) (fun _ _ _ h=>h) (Or.inl ⟨by rfl,?_⟩) ?_ ?_
                   rotate_left
                   ·intro w'
                    go_simp
                    with_reducible rfl
                   rotate_left
                   ·simp only [Act.put,zz21,zz22,zz23,i64_w,i32_w]
                    rfl
                   refine pure_ (i:=14) (N:=some 49) (v:=?_) (a':=?_) #[T,T,T,F,T,F,F,T,T,T,F,T,F,F,T,F,F,F,F,F,F,F,F,F] rfl rfl (any_of HT_.out (by kernel_rfl)) (fun _ _ _ h=>h) (Or.inl ⟨by rfl,?_⟩) ?_ ?_
                   rotate_left
                   ·intro w'
                    go_simp
                    with_reducible rfl
                   rotate_left
                   ·simp only [Act.put,zz21,zz22,zz23,i64_w,i32_w]
                    rfl
                   refine pure_ (i:=15) (N:=some 50) (v:=?_) (a':=?_) #[T,T,T,F,T,F,F,T,T,T,F,T,F,F,T,T,F,F,F,F,F,F,F,F] rfl rfl (any_of HT_.out (by kernel_rfl)) (fun _ _ _ h=>h) (Or.inl ⟨by rfl,?_⟩) ?_ ?_
                   rotate_left
                   ·intro w'
                    go_simp
                    with_reducible rfl
                   rotate_left
                   ·simp only [Act.put,zz21,zz22,zz23,i64_w,i32_w]
                    rfl
                   refine pure_ (i:=16) (N:=some 51) (v:=?_) (a':=?_) #[T,T,T,F,T,F,F,T,T,T,F,T,F,F,T,T,T,F,F,F,F,F,F,F] rfl rfl (any_of HT_.out (by kernel_rfl)) (fun _ _ _ h=>h) (Or.inl ⟨by rfl,?_⟩) ?_ ?_
                   rotate_left
                   ·intro w'
                    go_simp
                    with_reducible rfl
                   rotate_left
                   ·simp only [Act.put,zz21,zz22,zz23,i64_w,i32_w]
                    rfl
                   refine pure_ (i:=18) (N:=some 53) (v:=?_) (a':=?_) #[T,T,T,F,T,F,F,T,T,T,F,T,F,F,T,T,T,F,T,F,F,F,F,F] rfl rfl (any_of HT_.out (by kernel_rfl)) (fun _ _ _ h=>h) (Or.inl ⟨by rfl,?_⟩) ?_ ?_
                   rotate_left
                   ·intro w'
                    go_simp
                    with_reducible rfl
                   rotate_left
                   ·simp only [Act.put,zz21,zz22,zz23,i64_w,i32_w]
                    rfl
                   refine pure_ (i:=23) (N:=some 58) (v:=?_) (a':=?_) #[T,T,T,F,T,F,F,T,T,T,F,T,F,F,T,T,T,F,T,F,F,F,F,T] rfl rfl (any_of HT_.out (by kernel_rfl)) (fun _ _ _ h=>h) (Or.inl ⟨by rfl,?_⟩) ?_ ?_
                   rotate_left
                   ·intro w'
                    go_simp
                    with_reducible rfl
                   rotate_left
                   ·simp only [Act.put,zz21,zz22,zz23,i64_w,i32_w]
                    rfl
                   refine take_ (i:=3) (N:=some 38) (v:=?_) (a':=?_) #[T,T,T,T,T,F,F,T,T,T,F,T,F,F,T,T,T,F,T,F,F,F,F,T] rfl rfl (take_ofW HT_.out HW_.out (by kernel_rfl)) (fun _ _ _ h=>h) (Or.inl ⟨by rfl,?_⟩) hHeld ?_ ?_
                   rotate_left
                   ·rintro w' ⟨s0,s1,s2,s3,s4,s5⟩
                    go_simp
                    with_reducible rfl
                   rotate_left
                   ·simp only [Act.put,zz21,zz22,zz23,i64_w,i32_w]
                    rfl
                   refine pure_ (i:=5) (N:=some 40) (v:=?_) (a':=?_) #[T,T,T,T,T,T,F,T,T,T,F,T,F,F,T,T,T,F,T,F,F,F,F,T] rfl rfl (any_of HT_.out (by kernel_rfl)) (fun _ _ _ h=>h) (Or.inl ⟨by rfl,?_⟩) ?_ ?_
                   rotate_left
                   ·intro w'
                    go_simp
                    with_reducible rfl
                   rotate_left
                   ·simp only [Act.put,zz21,zz22,zz23,i64_w,i32_w]
                    rfl
                   refine take_ (i:=6) (N:=some 41) (v:=?_) (a':=?_) #[T,T,T,T,T,T,T,T,T,T,F,T,F,F,T,T,T,F,T,F,F,F,F,T] rfl rfl (take_ofW HT_.out HW_.out (by kernel_rfl)) (fun _ _ _ h=>h) (Or.inl ⟨by rfl,?_⟩) hHeld ?_ ?_
                   rotate_left
                   ·rintro w' ⟨s0,s1,s2,s3,s4,s5⟩
                    go_simp
                    with_reducible rfl
                   rotate_left
                   ·simp only [Act.put,zz21,zz22,zz23,i64_w,i32_w]
                    rfl
                   refine take_ (i:=10) (N:=some 45) (v:=?_) (a':=?_) #[T,T,T,T,T,T,T,T,T,T,T,T,F,F,T,T,T,F,T,F,F,F,F,T] rfl rfl (take_ofW HT_.out HW_.out (by kernel_rfl)) (fun _ _ _ h=>h) (Or.inl ⟨by rfl,?_⟩) hHeld ?_ ?_
                   rotate_left
                   ·rintro w' ⟨s0,s1,s2,s3,s4,s5⟩
                    go_simp
                    with_reducible rfl
                   rotate_left
                   ·simp only [Act.put,zz21,zz22,zz23,i64_w,i32_w]
                    rfl
                   refine pure_ (i:=12) (N:=some 47) (v:=?_) (a':=?_) #[T,T,T,T,T,T,T,T,T,T,T,T,T,F,T,T,T,F,T,F,F,F,F,T] rfl rfl (any_of HT_.out (by kernel_rfl)) (fun _ _ _ h=>h) (Or.inl ⟨by rfl,?_⟩) ?_ ?_
                   rotate_left
                   ·intro w'
                    go_simp
                    with_reducible rfl
                   rotate_left
                   ·simp only [Act.put,zz21,zz22,zz23,i64_w,i32_w]
                    rfl
                   refine take_ (i:=13) (N:=some 48) (v:=?_) (a':=?_) #[T,T,T,T,T,T,T,T,T,T,T,T,T,T,T,T,T,F,T,F,F,F,F,T] rfl rfl (take_ofW HT_.out HW_.out (by kernel_rfl)) (fun _ _ _ h=>h) (Or.inl ⟨by rfl,?_⟩) hHeld ?_ ?_
                   rotate_left
                   ·rintro w' ⟨s0,s1,s2,s3,s4,s5⟩
                    go_simp
                    with_reducible rfl
                   rotate_left
                   ·simp only [Act.put,zz21,zz22,zz23,i64_w,i32_w]
                    rfl
                   refine take_ (i:=17) (N:=some 52) (v:=?_) (a':=?_) #[T,T,T,T,T,T,T,T,T,T,T,T,T,T,T,T,T,T,T,F,F,F,F,T] rfl rfl (take_ofW HT_.out HW_.out (by kernel_rfl)) (fun _ _ _ h=>h) (Or.inl ⟨by rfl,?_⟩) hHeld ?_ ?_
                   rotate_left
                   ·rintro w' ⟨s0,s1,s2,s3,s4,s5⟩
                    go_simp
                    with_reducible rfl
                   rotate_left
                   ·simp only [Act.put,zz21,zz22,zz23,i64_w,i32_w]
                    rfl
                   refine pure_ (i:=19) (N:=some 54) (v:=?_) (a':=?_) #[T,T,T,T,T,T,T,T,T,T,T,T,T,T,T,T,T,T,T,T,F,F,F,T] rfl rfl (any_of HT_.out (by kernel_rfl)) (fun _ _ _ h=>h) (Or.inl ⟨by rfl,?_⟩) ?_ ?_
                   rotate_left
                   ·intro w'
                    go_simp
                    with_reducible rfl
                   rotate_left
                   ·simp only [Act.put,zz21,zz22,zz23,i64_w,i32_w]
                    rfl
                   refine take_ (i:=20) (N:=some 55) (v:=?_) (a':=?_) #[T,T,T,T,T,T,T,T,T,T,T,T,T,T,T,T,T,T,T,T,T,F,F,T] rfl rfl (take_ofW HT_.out HW_.out (by kernel_rfl)) (fun _ _ _ h=>h) (Or.inl ⟨by rfl,?_⟩) hHeld ?_ ?_
                   rotate_left
                   ·rintro w' ⟨s0,s1,s2,s3,s4,s5⟩
                    go_simp
                    with_reducible rfl
                   rotate_left
                   ·simp only [Act.put,zz21,zz22,zz23,i64_w,i32_w]
                    rfl
                   refine one_ (i:=21) (N:=some 56) #[T,T,T,T,T,T,T,T,T,T,T,T,T,T,T,T,T,T,T,T,T,T,F,T] rfl rfl (one_of HT_.out (by kernel_rfl)) (by decide) (fun K hK=>?_)
                   refine Kd.R_lit_step Kd.bool _ 4 ?hg (N:=56) ?hd (xs:=([rdOf false (rd_L4 t132 x16_1) x6_2,rdOf false (rd_L4 t132 x16_1) x7_3,rdOf false (rd_L4 t132 x6_2) x7_3]:List Bool)) (inner:=[.bool (rdOf false (rd_L4 t132 x16_1) x6_2),.bool (rdOf false (rd_L4 t132 x16_1) x7_3),.bool (rdOf false (rd_L4 t132 x6_2) x7_3)]) (ok:=fun _=>True) (okp:=fun _=>True) ?hr ?hp (fun _ hk=>hk) trivial (Below.refl _ _) (Nat.le_refl _) (by simp) ?_;(case hd=>rfl);(case hg=>rfl);(case hr=>first | (go_simp;done) | (go_simp;rfl));(case hp=>exact (Reps.one (show Kd.M Kd.bool _ _ _ (rdOf false (rd_L4 t132 x16_1) x6_2) [.bool (rdOf false (rd_L4 t132 x16_1) x6_2)] from rfl) (Reps.one (show Kd.M Kd.bool _ _ _ (rdOf false (rd_L4 t132 x16_1) x7_3) [.bool (rdOf false (rd_L4 t132 x16_1) x7_3)] from rfl) (Reps.one (show Kd.M Kd.bool _ _ _ (rdOf false (rd_L4 t132 x6_2) x7_3) [.bool (rdOf false (rd_L4 t132 x6_2) x7_3)] from rfl) (Reps.none _ _)))))
                   intro v145 w22 ho23 hb hg_ hnew_
                   have HS0_:=(hb.cell (World.block_lt_of_cell? _ _ (hHeld.1))).trans (hHeld.1)
                   have HS1_:=(hb.cell (World.block_lt_of_cell? _ _ (hHeld.2.1))).trans (hHeld.2.1)
                   have HS2_:=(hb.cell (World.block_lt_of_cell? _ _ (hHeld.2.2.1))).trans (hHeld.2.2.1)
                   have HS3_:=(hb.cell (World.block_lt_of_cell? _ _ (hHeld.2.2.2.1))).trans (hHeld.2.2.2.1)
                   have HS4_:=(hb.cell (World.block_lt_of_cell? _ _ (hHeld.2.2.2.2.1))).trans (hHeld.2.2.2.2.1)
                   have HS5_:=(hb.cell (World.block_lt_of_cell? _ _ (hHeld.2.2.2.2.2))).trans (hHeld.2.2.2.2.2)
                   clear hg_ hnew_
                   (first | rw [← Ny144.out] at ho23 | (simp only [Int.reduceToNat] at ho23;rw [← Ny144.out] at ho23))
                   have n0_:=zz31 (Kd.S_elder' (by (with_reducible repeat (first | apply zz15 | apply zz16 | apply zz17));exact HO_3.out) (Kd.R_base ho23) hb)
                   have n1_:=zz31 (Kd.R_below (by (with_reducible repeat (first | apply zz12 | apply zz13 | apply zz14));exact HO_4.out) hb)
                   have n2_:=zz31 (Kd.R_elder' (by (with_reducible repeat (first | apply zz12 | apply zz13 | apply zz14));exact HL138_0.out) (Kd.R_base ho23) hb)
                   have n3_:=zz31 (Kd.R_elder' (by (with_reducible repeat (first | apply zz12 | apply zz13 | apply zz14));exact HL140_0.out) (Kd.R_base ho23) hb)
                   have n4_:=zz31 (Kd.R_elder' (by (with_reducible repeat (first | apply zz12 | apply zz13 | apply zz14));exact HL142_0.out) (Kd.R_base ho23) hb)
                   have n5_:=zz31 (Kd.R_lower (Kd.R_new' (Kd.R_new' (Kd.R_new' ho23 (Kd.R_lt (by (with_reducible repeat (first | apply zz12 | apply zz13 | apply zz14));exact HL138_0.out))) (Kd.R_lt (by (with_reducible repeat (first | apply zz12 | apply zz13 | apply zz14));exact HL140_0.out))) (Kd.R_lt (by (with_reducible repeat (first | apply zz12 | apply zz13 | apply zz14));exact HL142_0.out))) (zz5 (by repeat first | exact HB.out | apply zz2 | apply zz0 | apply zz1 | refine zz3 ?_ GE131.out)))
                   have n6_:=zz31 (zz11 (g:=gb131) (o:=.cells #[.int .i64 a0_0,.slice A0_1 l0_1.length c0_1] 30 (0,0)) (by (with_reducible repeat (first | refine zz6 ?_ _ | refine zz7 ?_ | refine zz8 ?_ _));exact BK131.out) hb)
                   have n7_:=zz31 (Kd.C_below (by repeat (first | (with_reducible exact HR138_0.out) | (with_reducible refine zz18 ?_ _) | (with_reducible refine zz19 ?_ _) | (with_reducible refine zz20 ?_) | exact HR138_0.out)) hb)
                   have n8_:=zz31 (Kd.C_below (by repeat (first | (with_reducible exact HR140_0.out) | (with_reducible refine zz18 ?_ _) | (with_reducible refine zz19 ?_ _) | (with_reducible refine zz20 ?_) | exact HR140_0.out)) hb)
                   have n9_:=zz31 (Kd.C_below (by repeat (first | (with_reducible exact HR142_0.out) | (with_reducible refine zz18 ?_ _) | (with_reducible refine zz19 ?_ _) | (with_reducible refine zz20 ?_) | exact HR142_0.out)) hb)
                   have n10_:=zz31 (zz4 (by repeat first | exact HB.out | apply zz2 | apply zz0 | apply zz1 | refine zz3 ?_ GE131.out) hb)
                   clear HO_3
                   clear HO_4
                   clear HL138_0
                   clear HL140_0
                   clear HL142_0
                   clear BK131
                   clear HR138_0
                   clear HR140_0
                   clear HR142_0
                   clear HB
                   have HO_3:=n0_
                   have HO_4:=n1_
                   have HL138_0:=n2_
                   have HL140_0:=n3_
                   have HL142_0:=n4_
                   have HO146:=n5_
                   have BK131:=n6_
                   have HR138_0:=n7_
                   have HR140_0:=n8_
                   have HR142_0:=n9_
                   have HB:=n10_
                   clear n0_ n1_ n2_ n3_ n4_ n5_ n6_ n7_ n8_ n9_ n10_
                   clear hb ho23
                   obtain ⟨Ao24,co24,eo24⟩:=Kd.R_slice HO146.out
                   (first | subst eo24 | (injection eo24 with f1_ f2_ f3_;have f4_:=f1_.symm;have f5_:=f3_.symm;clear f1_ f2_ f3_;subst f4_;subst f5_))
                   refine hK.out _ _ ⟨HS0_,HS1_,HS2_,HS3_,HS4_,HS5_⟩ (fun hHeld=>?_)
                   clear hK K
                   refine norm_ (a':=?_) ?_ ?_
                   rotate_left
                   ·show Act.put _ (some 56) _=_
                    simp only [Act.put,zz21,zz22,zz23,i64_w,i32_w]
                    rfl
                   refine pure_ (i:=22) (N:=some 57) (v:=?_) (a':=?_) #[T,T,T,T,T,T,T,T,T,T,T,T,T,T,T,T,T,T,T,T,T,T,T,T] rfl rfl (any_of HT_.out (by kernel_rfl)) (fun _ _ _ h=>h) (Or.inl ⟨by rfl,?_⟩) ?_ ?_
                   rotate_left
                   ·intro w'
                    go_simp
                    with_reducible rfl
                   rotate_left
                   ·simp only [Act.put,zz21,zz22,zz23,i64_w,i32_w]
                    rfl
                   refine done_ (done_of HT_.out (by kernel_rfl)) ?_
                   try go_wp2
                   go_loopg [8,58] k3 (fun kq v8 v58 w'=>∃ (x8_4:Int) (x58_4:Int),v8=.int .i64 x8_4∧v58=.int .i64 x58_4∧Aside0 (spec_trThrees.l3 kq t132 x4_3 x16_1 x6_2 x7_3 x8_4 (t132.length:Int) x16_1 y144 (y144.length:Int) x58_4=some r)∧Aside0 (kq≤k3)∧Aside0 (Kd.S (Kd.slice 4 Kd.bool) 92 w' w.heap.size (fun k_=>some k_ ≠ ((.slice Ao24 y144.length co24):Value).ownBlock) (.slice (some ad138) t132.length co9) t132)∧Aside0 (Kd.R (Kd.int .i64) 3 w' w.heap.size (fun _=>True) v136 x4_3)∧Aside0 (Kd.R Kd.bool 4 w' w.heap.size (fun _=>True) (.slice Ao24 y144.length co24) y144)∧Aside0 (w'.heap[gb131]?=some (.cells #[.int .i64 a0_0,(.slice A0_1 l0_1.length c0_1)] 30 (0,0)))∧Aside0 (Kd.C Kd.bool w' (some ad139) (rd_L4 t132 x16_1).length (rd_L4 t132 x16_1))∧Aside0 (Kd.C Kd.bool w' (some ad139) (rd_L4 t132 x16_1).length (rd_L4 t132 x16_1))∧Aside0 (Kd.C Kd.bool w' (some ad143) (rd_L4 t132 x6_2).length (rd_L4 t132 x6_2))∧Aside0 (Below w.heap.size w w'))
                   case atStart=>exact ⟨(0),(0),(by first | rfl | (simp;done) | (simp [*];done)),(by first | rfl | (simp;done) | (simp [*];done)),H',⟨Nat.le_refl _⟩,⟨by (with_reducible repeat (first | apply zz15 | apply zz16 | apply zz17));exact Kd.S_mono HO_3.out (fun _ hk=>hk.2)⟩,⟨by (with_reducible repeat (first | apply zz12 | apply zz13 | apply zz14));exact HO_4.out⟩,⟨by (with_reducible repeat (first | apply zz12 | apply zz13 | apply zz14));exact Kd.R_mono HO146.out (fun _ hk=>trivial)⟩,⟨by (with_reducible repeat (first | refine zz6 ?_ _ | refine zz7 ?_ | refine zz8 ?_ _));exact BK131.out⟩,⟨by repeat (first | (with_reducible exact HR138_0.out) | (with_reducible refine zz18 ?_ _) | (with_reducible refine zz19 ?_ _) | (with_reducible refine zz20 ?_) | exact HR138_0.out)⟩,⟨by repeat (first | (with_reducible exact HR140_0.out) | (with_reducible refine zz18 ?_ _) | (with_reducible refine zz19 ?_ _) | (with_reducible refine zz20 ?_) | exact HR140_0.out)⟩,⟨by repeat (first | (with_reducible exact HR142_0.out) | (with_reducible refine zz18 ?_ _) | (with_reducible refine zz19 ?_ _) | (with_reducible refine zz20 ?_) | exact HR142_0.out)⟩,⟨by repeat first | exact HB.out | apply zz2 | apply zz0 | apply zz1 | refine zz3 ?_ GE131.out⟩⟩
                   case round =>
                    clear H'
                    try clear c1
                    try clear p1
                    try clear q1
                    try clear hx1
                    try clear c2
                    try clear p2
                    try clear c3
                    try clear c3b0
                    try clear c3b1
                    try clear c4
                    try clear c5
                    try clear p6
                    try clear c10
                    try clear c10b0
                    try clear c11
                    try clear c11b0
                    try clear c12
                    try clear c12b0
                    try clear c13
                    try clear c13b0
                    try clear p13
                    try clear q13
                    try clear hx13
                    try clear c14
                    try clear c14b0
                    try clear p14
                    try clear q14
                    try clear hx14
                    try clear c15
                    try clear c15b0
                    try clear c16
                    try clear c16b0
                    try clear c17
                    try clear c17b0
                    try clear c18
                    try clear c18b0
                    try clear c19
                    try clear c19b0
                    try clear c20
                    try clear c20b0
                    try clear hcz5_0
                    try clear hcz5_1
                    try clear hfz5_0
                    try clear hfz5_1
                    try clear hx138_0
                    try clear hx139_0
                    try clear hx140_0
                    try clear hx141_0
                    try clear hx142_0
                    try clear hx143_0
                    try clear p138
                    try clear p139
                    try clear p140
                    try clear p141
                    try clear p142
                    try clear p143
                    try clear p2
                    try clear p6
                    try clear q138
                    try clear q139
                    try clear q140
                    try clear q141
                    try clear q142
                    try clear q143
                    obtain ⟨x8_4,x58_4,rfl,rfl,HA,HK4,HO_3,HO_4,HO_56,BK131,HR138_0,HR140_0,HR142_0,HB⟩:=hrel
                    cases gk with
                    | zero=>exact absurd HA.out (by simp [spec_trThrees.l3])
                    | succ k4 =>
                     have H:=HA.out
                     clear HA
                     simp only [spec_trThrees.l3] at H
                     by_cases c25:x58_4 < (y144.length:Int)
                     ·rw [if_pos c25] at H
                      have c25b0:decide (x58_4 < (y144.length:Int))=true:=decide_eq_true c25
                      clear c25
                      by_cases c26:0≤x58_4
                      ·rw [if_pos c26] at H
                       have c26b0:decide (0≤x58_4)=true:=decide_eq_true c26
                       clear c26
                       by_cases c27:x58_4 < (y144.length:Int)
                       ·rw [if_pos c27] at H
                        have c27b0:decide (x58_4 < (y144.length:Int))=true:=decide_eq_true c27
                        clear c27
                        obtain ⟨bq28,hbq28⟩:∃ b_:Bool,b_=(rdOf false y144 x58_4):=⟨_,rfl⟩
                        replace H:(if bq28=true then (spec_trThrees.l3 k4 t132 x4_3 x16_1 x6_2 x7_3 (wrap64 (x8_4+1)) (t132.length:Int) x16_1 y144 (y144.length:Int) (wrap64 (x58_4+1))) else (spec_trThrees.l3 k4 t132 x4_3 x16_1 x6_2 x7_3 x8_4 (t132.length:Int) x16_1 y144 (y144.length:Int) (wrap64 (x58_4+1))))=some r:=by rw [← hbq28] at H;exact H
                        have Nbq28:=zz31 hbq28
                        clear hbq28
                        by_cases c29:bq28=true
                        ·subst c29
                         have H1:(spec_trThrees.l3 k4 t132 x4_3 x16_1 x6_2 x7_3 (wrap64 (x8_4+1)) (t132.length:Int) x16_1 y144 (y144.length:Int) (wrap64 (x58_4+1)))=some r:=by rw [if_pos rfl] at H;exact H
                         clear H
                         have H:=H1
                         clear H1
                         have H':=zz31 H
                         clear H
                         have p147:0≤(x58_4:Int):=zz29 (by first | (with_reducible assumption) | assumption)
                         have q147:x58_4 < (y144.length:Int):=zz29 (by first | (with_reducible assumption) | assumption)
                         obtain ⟨ad147,e147,hx147_0⟩:=Kd.at_bool (Kd.R_reads' HO_56.out).2.2 x58_4 p147 q147
                         (try rw [← Nbq28.out] at hx147_0)
                         cases e147
                         replace p147:=eq_true p147
                         replace q147:=eq_true q147
                         go_wp2
                         go_roundg k4
                         case measure=>have:=HK1.out;have:=HK2.out;have:=HK3.out;have:=HK4.out;omega
                         case rel=>exact ⟨(wrap64 (x8_4+1)),(wrap64 (x58_4+1)),(by first | rfl | (simp;done) | (simp [*];done)),(by first | rfl | (simp;done) | (simp [*];done)),H',⟨by have:=HK1.out;have:=HK2.out;have:=HK3.out;have:=HK4.out;omega⟩,⟨by (with_reducible repeat (first | apply zz15 | apply zz16 | apply zz17));exact HO_3.out⟩,⟨by (with_reducible repeat (first | apply zz12 | apply zz13 | apply zz14));exact HO_4.out⟩,⟨by (with_reducible repeat (first | apply zz12 | apply zz13 | apply zz14));exact HO_56.out⟩,⟨by (with_reducible repeat (first | refine zz6 ?_ _ | refine zz7 ?_ | refine zz8 ?_ _));exact BK131.out⟩,⟨by repeat (first | (with_reducible exact HR138_0.out) | (with_reducible refine zz18 ?_ _) | (with_reducible refine zz19 ?_ _) | (with_reducible refine zz20 ?_) | exact HR138_0.out)⟩,⟨by repeat (first | (with_reducible exact HR140_0.out) | (with_reducible refine zz18 ?_ _) | (with_reducible refine zz19 ?_ _) | (with_reducible refine zz20 ?_) | exact HR140_0.out)⟩,⟨by repeat (first | (with_reducible exact HR142_0.out) | (with_reducible refine zz18 ?_ _) | (with_reducible refine zz19 ?_ _) | (with_reducible refine zz20 ?_) | exact HR142_0.out)⟩,⟨by repeat first | exact HB.out | apply zz2 | apply zz0 | apply zz1 | refine zz3 ?_ GE131.out⟩⟩
                        ·replace c29:=Bool.eq_false_iff.mpr c29
                         subst c29
                         have H1:(spec_trThrees.l3 k4 t132 x4_3 x16_1 x6_2 x7_3 x8_4 (t132.length:Int) x16_1 y144 (y144.length:Int) (wrap64 (x58_4+1)))=some r:=by rw [if_neg (show ¬ (false=true) by decide)] at H;exact H
                         clear H
                         have H:=H1
                         clear H1
                         have H':=zz31 H
                         clear H
                         have p147:0≤(x58_4:Int):=zz29 (by first | (with_reducible assumption) | assumption)
                         have q147:x58_4 < (y144.length:Int):=zz29 (by first | (with_reducible assumption) | assumption)
                         obtain ⟨ad147,e147,hx147_0⟩:=Kd.at_bool (Kd.R_reads' HO_56.out).2.2 x58_4 p147 q147
                         (try rw [← Nbq28.out] at hx147_0)
                         cases e147
                         replace p147:=eq_true p147
                         replace q147:=eq_true q147
                         go_wp2
                         go_roundg k4
                         case measure=>have:=HK1.out;have:=HK2.out;have:=HK3.out;have:=HK4.out;omega
                         case rel=>exact ⟨(x8_4),(wrap64 (x58_4+1)),(by first | rfl | (simp;done) | (simp [*];done)),(by first | rfl | (simp;done) | (simp [*];done)),H',⟨by have:=HK1.out;have:=HK2.out;have:=HK3.out;have:=HK4.out;omega⟩,⟨by (with_reducible repeat (first | apply zz15 | apply zz16 | apply zz17));exact HO_3.out⟩,⟨by (with_reducible repeat (first | apply zz12 | apply zz13 | apply zz14));exact HO_4.out⟩,⟨by (with_reducible repeat (first | apply zz12 | apply zz13 | apply zz14));exact HO_56.out⟩,⟨by (with_reducible repeat (first | refine zz6 ?_ _ | refine zz7 ?_ | refine zz8 ?_ _));exact BK131.out⟩,⟨by repeat (first | (with_reducible exact HR138_0.out) | (with_reducible refine zz18 ?_ _) | (with_reducible refine zz19 ?_ _) | (with_reducible refine zz20 ?_) | exact HR138_0.out)⟩,⟨by repeat (first | (with_reducible exact HR140_0.out) | (with_reducible refine zz18 ?_ _) | (with_reducible refine zz19 ?_ _) | (with_reducible refine zz20 ?_) | exact HR140_0.out)⟩,⟨by repeat (first | (with_reducible exact HR142_0.out) | (with_reducible refine zz18 ?_ _) | (with_reducible refine zz19 ?_ _) | (with_reducible refine zz20 ?_) | exact HR142_0.out)⟩,⟨by repeat first | exact HB.out | apply zz2 | apply zz0 | apply zz1 | refine zz3 ?_ GE131.out⟩⟩
                       ·rw [if_neg c27] at H
                        exact absurd H (by simp)
                      ·rw [if_neg c26] at H
                       exact absurd H (by simp)
                     ·rw [if_neg c25] at H
                      have c25b0:decide (x58_4 < (y144.length:Int))=false:=decide_eq_false c25
                      clear c25
                      by_cases c30:0≤x8_4
                      ·rw [if_pos c30] at H
                       have c30b0:decide (0≤x8_4)=true:=decide_eq_true c30
                       clear c30
                       by_cases c31:x8_4 < (x4_3.length:Int)
                       ·rw [if_pos c31] at H
                        have c31b0:decide (x8_4 < (x4_3.length:Int))=true:=decide_eq_true c31
                        clear c31
                        obtain ⟨y149,hy149⟩:∃ y_:List Int,y_=(x4_3.set (x8_4:Int).toNat (wrap64 ((rd x4_3 x8_4)+1))):=⟨_,rfl⟩
                        replace H:(spec_trThrees.l2 k4 t132 y149 x16_1 x6_2 (wrap64 (x7_3+1)) (t132.length:Int) x16_1)=some r:=by first | (rw [hy149];with_reducible exact H) | (have H2_:=(Option.bind_some _ _).symm.trans H;rw [hy149];with_reducible exact H2_) | (have H2_:=(Option.bind_some _ _).symm.trans H;with_reducible exact H2_) | with_reducible exact H | (rw [hy149];exact H) | exact H
                        have Ny149:=zz31 hy149
                        clear hy149
                        have H':=zz31 H
                        clear H
                        obtain ⟨Ao33,co33,eo33⟩:=Kd.R_slice HO_4.out
                        subst eo33
                        have p148:0≤(x8_4:Int):=zz29 (by first | (with_reducible assumption) | assumption)
                        have q148:x8_4 < (x4_3.length:Int):=zz29 (by first | (with_reducible assumption) | assumption)
                        obtain ⟨ad148,e148,hx148_0⟩:=Kd.at_int (Kd.R_reads' HO_4.out).2.2 x8_4 p148 q148
                        cases e148
                        replace p148:=eq_true p148
                        replace q148:=eq_true q148
                        have p32:0≤(x8_4:Int):=zz29 (by first | (with_reducible assumption) | assumption)
                        have q32:(x8_4:Int) < ((x4_3.length:Int):Int):=zz29 (by first | (with_reducible assumption) | assumption)
                        obtain ⟨go32,co32,eo32,gb32,gl32,cl32,HG32⟩:=Kd.R_form HO_4.out (by omega)
                        (first | cases eo32 | (injection eo32 with ea_ en_ ec_;(first | subst ea_ | (injection ea_ with ea_;subst ea_));subst ec_;clear en_))
                        have GB32:=zz31 gb32
                        have GG32:=zz31 HG32
                        clear gb32 gl32 HG32
                        (first | simp only [add_plain] at hx148_0 | skip)
                        obtain ⟨hx32_0,hf32_0⟩:=Kd.R_celln 0 HO_4.out (x8_4:Int) p32 q32
                        replace p32:=eq_true p32
                        replace q32:=eq_true q32
                        have HP34:=Kd.R_putg HO_4.out (x8_4:Int) (wrap64 ((rd x4_3 x8_4)+1))
                        go_wp2_with (first | ((with_reducible refine gate_store (t:=3) (p:=71) rfl ?_);refine store_event (t:=3) (p:=71) (v:=?vo_w35) (w1:=(wr.setCell ⟨go32,(x8_4:Int).toNat,none⟩ (.int .i64 (wrap64 ((rd x4_3 x8_4)+1))))) ?hg ?ho ?hn ?hr ?_;(case ho=>rfl);(case hg=>rfl);(case hn=>rfl);(case hr=>first | (go_simp;done) | (go_simp;rfl));intro w35 hw;have hg:wr.grownBy w35 (some go32):=(by rw [hw];exact HP34.2);have hp_:Kd.R (Kd.int .i64) 3 w35 w.heap.size (fun _=>True) (.slice (some ⟨go32,0,none⟩) x4_3.length co33) y149:=(by rw [hw,Ny149.out];exact HP34.1);clear HP34;have n0_:=zz31 (Kd.S_over' (v:=(.slice (some ⟨go32,0,none⟩) x4_3.length co33)) (by (with_reducible repeat (first | apply zz15 | apply zz16 | apply zz17));exact HO_3.out) (Kd.R_typed HO_4.out) (by decide) hg);have n1_:=zz31 (hp_);have n2_:=zz31 (Kd.R_over' (v:=(.slice (some ⟨go32,0,none⟩) x4_3.length co33)) (by (with_reducible repeat (first | apply zz12 | apply zz13 | apply zz14));exact HO_56.out) (Kd.R_typed HO_4.out) (by decide) hg);have n3_:=zz31 (blk_grown (g:=gb131) (o:=.cells #[.int .i64 a0_0,.slice A0_1 l0_1.length c0_1] 30 (0,0)) (by (with_reducible repeat (first | refine zz6 ?_ _ | refine zz7 ?_ | refine zz8 ?_ _));exact BK131.out) hg (Kd.R_ne HO_4.out BK131.out (by decide)));have n4_:=zz31 ((by rw [hw];exact zz3 (HB.out) GB32.out:Below w.heap.size w w35));clear HO_3;clear HO_4;clear HO_56;clear BK131;clear HB;have HO_3:=n0_;have HO_4:=n1_;have HO_56:=n2_;have BK131:=n3_;have HB:=n4_;clear n0_ n1_ n2_ n3_ n4_;clear hg hw hp_))
                        go_roundg k4
                        case measure=>have:=HK1.out;have:=HK2.out;have:=HK3.out;have:=HK4.out;omega
                        case rel=>exact ⟨(y149),(wrap64 (x7_3+1)),(by first | rfl | (simp;done) | (simp [*];done)),H',⟨by have:=HK1.out;have:=HK2.out;have:=HK3.out;have:=HK4.out;omega⟩,⟨by (with_reducible repeat (first | apply zz15 | apply zz16 | apply zz17));exact Kd.S_mono HO_3.out (fun _ hk=>trivial)⟩,⟨by (with_reducible repeat (first | apply zz12 | apply zz13 | apply zz14));exact HO_4.out⟩,⟨by (with_reducible repeat (first | refine zz6 ?_ _ | refine zz7 ?_ | refine zz8 ?_ _));exact BK131.out⟩,⟨by repeat first | exact HB.out | apply zz2 | apply zz0 | apply zz1 | refine zz3 ?_ GE131.out⟩⟩
                       ·rw [if_neg c31] at H
                        exact absurd H (by simp)
                      ·rw [if_neg c30] at H
                       exact absurd H (by simp)
                  ·rw [if_neg c20] at H
                   exact absurd H (by simp)
                 ·rw [if_neg c19] at H
                  exact absurd H (by simp)
                ·rw [if_neg c18] at H
                 exact absurd H (by simp)
               ·rw [if_neg c17] at H
                exact absurd H (by simp)
              ·rw [if_neg c16] at H
               exact absurd H (by simp)
             ·rw [if_neg c15] at H
              exact absurd H (by simp)
            ·rw [if_neg c14] at H
             exact absurd H (by simp)
           ·rw [if_neg c13] at H
            exact absurd H (by simp)
          ·rw [if_neg c12] at H
           have c12b0:decide (x7_3 < (t132.length:Int))=false:=decide_eq_false c12
           clear c12
           have H':=zz31 H
           clear H
           go_wp2
           go_roundg k3
           case measure=>have:=HK1.out;have:=HK2.out;have:=HK3.out;omega
           case rel=>exact ⟨(x4_3),(wrap64 (x6_2+1)),(by first | rfl | (simp;done) | (simp [*];done)),H',⟨by have:=HK1.out;have:=HK2.out;have:=HK3.out;omega⟩,⟨by (with_reducible repeat (first | apply zz15 | apply zz16 | apply zz17));exact HO_3.out⟩,⟨by (with_reducible repeat (first | apply zz12 | apply zz13 | apply zz14));exact HO_4.out⟩,⟨by (with_reducible repeat (first | refine zz6 ?_ _ | refine zz7 ?_ | refine zz8 ?_ _));exact BK131.out⟩,⟨by repeat first | exact HB.out | apply zz2 | apply zz0 | apply zz1 | refine zz3 ?_ GE131.out⟩⟩
       ·rw [if_neg c11] at H
        have c11b0:decide (x6_2 < (t132.length:Int))=false:=decide_eq_false c11
        clear c11
        have H':=zz31 H
        clear H
        go_wp2
        go_roundg k2
        case measure=>have:=HK1.out;have:=HK2.out;omega
        case rel=>exact ⟨(x4_2),(wrap64 (x16_1+1)),(by first | rfl | (simp;done) | (simp [*];done)),H',⟨by have:=HK1.out;have:=HK2.out;omega⟩,⟨by (with_reducible repeat (first | apply zz15 | apply zz16 | apply zz17));exact HO_3.out⟩,⟨by (with_reducible repeat (first | apply zz12 | apply zz13 | apply zz14));exact HO_4.out⟩,⟨by (with_reducible repeat (first | refine zz6 ?_ _ | refine zz7 ?_ | refine zz8 ?_ _));exact BK131.out⟩,⟨by repeat first | exact HB.out | apply zz2 | apply zz0 | apply zz1 | refine zz3 ?_ GE131.out⟩⟩
    ·rw [if_neg c10] at H
     have c10b0:decide (x16_1 < (t132.length:Int))=false:=decide_eq_false c10
     clear c10
     obtain rfl:=Option.some.inj H
     go_wp2
     go_ret
     exact ⟨_,by first | rfl | (simp [errW_none,errW_some] <;> rfl) | (simp [*,errW_none,errW_some] <;> rfl),by (with_reducible repeat (first | apply zz12 | apply zz13 | apply zz14));exact HO_4.out,by repeat first | exact HB.out | apply zz2 | apply zz0 | apply zz1 | refine zz3 ?_ GE131.out⟩
 ·rw [if_neg c3] at H
  exact absurd H (by simp)

/-! ### spec_CountThrees: function 13 -/
def spec_CountThrees.f (k:Nat) (a0_0:Int) (l0_1:List (S80)):Option (Int × Int × Int × Bool):=(spec_paGood.f k a0_0 l0_1).bind fun t151=>(if t151=true then ((spec_trThrees.f k a0_0 l0_1).bind fun t152=>(if 3 < (t152.length:Int) then (if 0 < (t152.length:Int) then (if 1 < (t152.length:Int) then (if 2 < (t152.length:Int) then (some (rd t152 3,rd t152 0,wrap64 ((rd t152 1)+(rd t152 2)),true)) else (none)) else (none)) else (none)) else (none))) else (some (0,0,0,false)))
theorem spec_CountThrees.mono:∀ a0 a1 k,LeO (spec_CountThrees.f k a0 a1) (spec_CountThrees.f (k+1) a0 a1):=by
 intro a0 a1 k
 unfold spec_CountThrees.f
 repeat' first
   | (with_reducible exact spec_paGood.mono _ _ _)
   | (with_reducible exact spec_trThrees.mono _ _ _)
   | (with_reducible exact LeO.refl _)
   | (with_reducible exact LeO.none _)
   | (with_reducible refine LeO.ite ?_ ?_)
   | (with_reducible refine LeO.bind ?_ (fun _=>?_))
   | exact spec_paGood.mono _ _ _
   | exact spec_trThrees.mono _ _ _
   | exact LeO.none _
   | refine LeO.ite ?_ ?_
   | refine LeO.bind ?_ (fun _=>?_)
set_option maxHeartbeats 8000000 in
set_option maxRecDepth 100000 in
theorem spec_CountThrees.calls (k:Nat) (a0_0:Int) (A0_1:Option Addr) (c0_1:Nat) (l0_1:List (S80)) (r1:Int) (r2:Int) (r3:Int) (r4:Bool) (w:World) (hr0_1:Kd.C k80 w A0_1 l0_1.length l0_1) (hc0_1:l0_1.length≤c0_1) (h:spec_CountThrees.f k a0_0 l0_1=some (r1,r2,r3,r4)) :
  Calls Try.prog 13 #[.agg #[.int .i64 a0_0,.slice A0_1 l0_1.length c0_1]] w fun e w'=>e=.returned (.tuple #[.int .i64 r1,.int .i64 r2,.int .i64 r3,.bool r4])∧Below w.heap.size w w':=by
 have hu30:=Try.underlying30
 have HR0_1:=zz31 hr0_1
 have HC0_1:=zz31 hc0_1
 clear hr0_1 hc0_1
 have HB:=zz31 (Below.refl w.heap.size w)
 have H:((spec_paGood.f k a0_0 l0_1).bind fun t151=>(if t151=true then ((spec_trThrees.f k a0_0 l0_1).bind fun t152=>(if 3 < (t152.length:Int) then (if 0 < (t152.length:Int) then (if 1 < (t152.length:Int) then (if 2 < (t152.length:Int) then (some (rd t152 3,rd t152 0,wrap64 ((rd t152 1)+(rd t152 2)),true)) else (none)) else (none)) else (none)) else (none))) else (some (0,0,0,false))))=some (r1,r2,r3,r4):=h
 clear h
 replace H:=zz30.mp H
 obtain ⟨t151,A20,H⟩:=H
 replace H:(if t151=true then ((spec_trThrees.f k a0_0 l0_1).bind fun t152=>(if 3 < (t152.length:Int) then (if 0 < (t152.length:Int) then (if 1 < (t152.length:Int) then (if 2 < (t152.length:Int) then (some (rd t152 3,rd t152 0,wrap64 ((rd t152 1)+(rd t152 2)),true)) else (none)) else (none)) else (none)) else (none))) else (some (0,0,0,false)))=some (r1,r2,r3,r4):=H
 have A2:=zz31 A20
 clear A20
 by_cases c3:t151=true
 ·subst c3
  have H1:((spec_trThrees.f k a0_0 l0_1).bind fun t152=>(if 3 < (t152.length:Int) then (if 0 < (t152.length:Int) then (if 1 < (t152.length:Int) then (if 2 < (t152.length:Int) then (some (rd t152 3,rd t152 0,wrap64 ((rd t152 1)+(rd t152 2)),true)) else (none)) else (none)) else (none)) else (none)))=some (r1,r2,r3,r4):=by rw [if_pos rfl] at H;exact H
  clear H
  have H:=H1
  clear H1
  replace H:=zz30.mp H
  obtain ⟨t152,A40,H⟩:=H
  replace H:(if 3 < (t152.length:Int) then (if 0 < (t152.length:Int) then (if 1 < (t152.length:Int) then (if 2 < (t152.length:Int) then (some (rd t152 3,rd t152 0,wrap64 ((rd t152 1)+(rd t152 2)),true)) else (none)) else (none)) else (none)) else (none))=some (r1,r2,r3,r4):=H
  have A4:=zz31 A40
  clear A40
  by_cases c5:3 < (t152.length:Int)
  ·rw [if_pos c5] at H
   have c5b0:decide (3 < (t152.length:Int))=true:=decide_eq_true c5
   have c5b1:decide (3 < t152.length)=true:=decide_eq_true (by omega)
   clear c5
   by_cases c6:0 < (t152.length:Int)
   ·rw [if_pos c6] at H
    have c6b0:decide (0 < (t152.length:Int))=true:=decide_eq_true c6
    have c6n0:decide (0 < t152.length)=true:=by have:=c6b0;simpa using this
    have c6p0:0 < t152.length:=zz29 c6n0
    have c6q0:(0 < t152.length)=True:=eq_true c6p0
    have c6b1:decide (0 < t152.length)=true:=decide_eq_true (by omega)
    clear c6
    by_cases c7:1 < (t152.length:Int)
    ·rw [if_pos c7] at H
     have c7b0:decide (1 < (t152.length:Int))=true:=decide_eq_true c7
     have c7b1:decide (1 < t152.length)=true:=decide_eq_true (by omega)
     clear c7
     by_cases c8:2 < (t152.length:Int)
     ·rw [if_pos c8] at H
      have c8b0:decide (2 < (t152.length:Int))=true:=decide_eq_true c8
      have c8b1:decide (2 < t152.length)=true:=decide_eq_true (by omega)
      clear c8
      simp only [Option.some.injEq,Prod.mk.injEq] at H
      obtain ⟨rfl,rfl,rfl,rfl⟩:=H
      go_enter Try.func13,Try.ntmps13
      go_wp2_with (first | ((with_reducible refine gate_dst (N:=1) rfl ?_);refine box_event ?hg (N:=1) ?hd (cs:=#[.int .i64 a0_0,.slice A0_1 l0_1.length c0_1]) (t:=30) ?hr ?_;(case hd=>rfl);(case hg=>rfl);(case hr=>first | (go_simp;done) | (go_simp;rfl));intro gb150 hg w9 hbox hb;have n0_:=zz31 (zz4 (by repeat first | exact HB.out | apply zz2 | apply zz0 | apply zz1) hb);have n1_:=zz31 (hbox);have n2_:=zz31 ((by rw [hg];exact (zz5 (by repeat first | exact HB.out | apply zz2 | apply zz0 | apply zz1)):w.heap.size≤gb150));have n3_:=zz31 ((by rw [hg];exact (zz5 (by repeat first | exact HB.out | apply zz2 | apply zz0 | apply zz1)):w.heap.size≤gb150));clear HB;have HB:=n0_;have BK150:=n1_;have GW150:=n2_;have GE150:=n3_;clear n0_ n1_ n2_ n3_;clear hb hbox hg;have hcz10_0:w9.cell? ⟨gb150,0,none⟩=some (.int .i64 a0_0):=(zz9 BK150.out 0).trans rfl;have hcz10_1:w9.cell? ⟨gb150,1,none⟩=some (.slice A0_1 l0_1.length c0_1):=(zz9 BK150.out 1).trans rfl;have hfz10_0:=zz10 BK150.out 0;have hfz10_1:=zz10 BK150.out 1) | (go_at_call 42;(with_reducible refine (spec_paGood.calls k a0_0 _ _ l0_1 true _ ?side1 ?side2 A2.out).mono ?_);(case side1=>repeat (first | exact (Kd.C_below HR0_1.out HB.out) | (with_reducible refine zz18 ?_ _) | (with_reducible refine zz19 ?_ _) | (with_reducible refine zz20 ?_)));(case side2=>exact HC0_1.out);rintro e w11 ⟨rfl,hb⟩;have n0_:=zz31 (zz11 (g:=gb150) (o:=.cells #[.int .i64 a0_0,.slice A0_1 l0_1.length c0_1] 30 (0,0)) (by (with_reducible repeat (first | refine zz6 ?_ _ | refine zz7 ?_ | refine zz8 ?_ _));exact BK150.out) hb);have n1_:=zz31 (zz4 (by repeat first | exact HB.out | apply zz2 | apply zz0 | apply zz1 | refine zz3 ?_ GE150.out) hb);clear BK150;clear HB;have BK150:=n0_;have HB:=n1_;clear n0_ n1_;(try clear hb);(try clear hb2);(try clear hk);(try clear hi);have hcz12_0:w11.cell? ⟨gb150,0,none⟩=some (.int .i64 a0_0):=(zz9 BK150.out 0).trans rfl;have hcz12_1:w11.cell? ⟨gb150,1,none⟩=some (.slice A0_1 l0_1.length c0_1):=(zz9 BK150.out 1).trans rfl;have hfz12_0:=zz10 BK150.out 0;have hfz12_1:=zz10 BK150.out 1) | (go_at_call 43;(with_reducible refine (spec_trThrees.calls k a0_0 _ _ l0_1 t152 _ ?side1 ?side2 A4.out).mono ?_);(case side1=>repeat (first | exact (Kd.C_below HR0_1.out HB.out) | (with_reducible refine zz18 ?_ _) | (with_reducible refine zz19 ?_ _) | (with_reducible refine zz20 ?_)));(case side2=>exact HC0_1.out);rintro e w13 ⟨v153,rfl,ho0,hb⟩;have n0_:=zz31 (Kd.R_lower ho0 (zz5 (by repeat first | exact HB.out | apply zz2 | apply zz0 | apply zz1 | refine zz3 ?_ GE150.out)));have n1_:=zz31 (zz11 (g:=gb150) (o:=.cells #[.int .i64 a0_0,.slice A0_1 l0_1.length c0_1] 30 (0,0)) (by (with_reducible repeat (first | refine zz6 ?_ _ | refine zz7 ?_ | refine zz8 ?_ _));exact BK150.out) hb);have n2_:=zz31 (zz4 (by repeat first | exact HB.out | apply zz2 | apply zz0 | apply zz1 | refine zz3 ?_ GE150.out) hb);clear BK150;clear HB;have HO154:=n0_;have BK150:=n1_;have HB:=n2_;clear n0_ n1_ n2_;(try clear hb);(try clear hb2);(try clear hk);(try clear hi);(try clear ho0);obtain ⟨Ao14,co14,eo14⟩:=Kd.R_slice HO154.out;subst eo14;have p155:0≤(3:Int):=(by omega);have q155:3 < (t152.length:Int):=zz29 (by first | (with_reducible assumption) | assumption);obtain ⟨ad155,e155,hx155_0⟩:=Kd.at_int (Kd.R_reads' HO154.out).2.2 3 p155 q155;cases e155;(try simp only [show (3:Int).toNat=3 from rfl,Nat.reduceMul,Nat.reduceEqDiff,Go.Addr.add,↓reduceIte] at hx155_0);have qi155:(3 < t152.length)=True:=eq_true (by omega);(try rw [show ((3:Int)).toNat=3 from rfl] at hx155_0);replace p155:=eq_true p155;replace q155:=eq_true q155;have p156:0≤(0:Int):=(by omega);have q156:0 < (t152.length:Int):=zz29 (by first | (with_reducible assumption) | assumption);obtain ⟨ad156,e156,hx156_0⟩:=Kd.at_int (Kd.R_reads' HO154.out).2.2 0 p156 q156;obtain rfl:ad155=ad156:=(by injection e156);have qi156:(0 < t152.length)=True:=eq_true (by omega);(try rw [show ((0:Int)).toNat=0 from rfl] at hx156_0);(try rw [Addr.add_zero'] at hx156_0);replace p156:=eq_true p156;replace q156:=eq_true q156;have p157:0≤(1:Int):=(by omega);have q157:1 < (t152.length:Int):=zz29 (by first | (with_reducible assumption) | assumption);obtain ⟨ad157,e157,hx157_0⟩:=Kd.at_int (Kd.R_reads' HO154.out).2.2 1 p157 q157;obtain rfl:ad155=ad157:=(by injection e157);(try simp only [show (1:Int).toNat=1 from rfl,Nat.reduceMul,Nat.reduceEqDiff,Go.Addr.add,↓reduceIte] at hx157_0);have qi157:(1 < t152.length)=True:=eq_true (by omega);(try rw [show ((1:Int)).toNat=1 from rfl] at hx157_0);replace p157:=eq_true p157;replace q157:=eq_true q157;have p158:0≤(2:Int):=(by omega);have q158:2 < (t152.length:Int):=zz29 (by first | (with_reducible assumption) | assumption);obtain ⟨ad158,e158,hx158_0⟩:=Kd.at_int (Kd.R_reads' HO154.out).2.2 2 p158 q158;obtain rfl:ad155=ad158:=(by injection e158);(try simp only [show (2:Int).toNat=2 from rfl,Nat.reduceMul,Nat.reduceEqDiff,Go.Addr.add,↓reduceIte] at hx158_0);have qi158:(2 < t152.length)=True:=eq_true (by omega);(try rw [show ((2:Int)).toNat=2 from rfl] at hx158_0);replace p158:=eq_true p158;replace q158:=eq_true q158))
      repeat (go_quiet (first | ((with_reducible refine gate_dst (N:=1) rfl ?_);refine box_event ?hg (N:=1) ?hd (cs:=#[.int .i64 a0_0,.slice A0_1 l0_1.length c0_1]) (t:=30) ?hr ?_;(case hd=>rfl);(case hg=>rfl);(case hr=>first | (go_simp;done) | (go_simp;rfl));intro gb150 hg w9 hbox hb;have n0_:=zz31 (zz4 (by repeat first | exact HB.out | apply zz2 | apply zz0 | apply zz1) hb);have n1_:=zz31 (hbox);have n2_:=zz31 ((by rw [hg];exact (zz5 (by repeat first | exact HB.out | apply zz2 | apply zz0 | apply zz1)):w.heap.size≤gb150));have n3_:=zz31 ((by rw [hg];exact (zz5 (by repeat first | exact HB.out | apply zz2 | apply zz0 | apply zz1)):w.heap.size≤gb150));clear HB;have HB:=n0_;have BK150:=n1_;have GW150:=n2_;have GE150:=n3_;clear n0_ n1_ n2_ n3_;clear hb hbox hg;have hcz10_0:w9.cell? ⟨gb150,0,none⟩=some (.int .i64 a0_0):=(zz9 BK150.out 0).trans rfl;have hcz10_1:w9.cell? ⟨gb150,1,none⟩=some (.slice A0_1 l0_1.length c0_1):=(zz9 BK150.out 1).trans rfl;have hfz10_0:=zz10 BK150.out 0;have hfz10_1:=zz10 BK150.out 1) | (go_at_call 42;(with_reducible refine (spec_paGood.calls k a0_0 _ _ l0_1 true _ ?side1 ?side2 A2.out).mono ?_);(case side1=>repeat (first | exact (Kd.C_below HR0_1.out HB.out) | (with_reducible refine zz18 ?_ _) | (with_reducible refine zz19 ?_ _) | (with_reducible refine zz20 ?_)));(case side2=>exact HC0_1.out);rintro e w11 ⟨rfl,hb⟩;have n0_:=zz31 (zz11 (g:=gb150) (o:=.cells #[.int .i64 a0_0,.slice A0_1 l0_1.length c0_1] 30 (0,0)) (by (with_reducible repeat (first | refine zz6 ?_ _ | refine zz7 ?_ | refine zz8 ?_ _));exact BK150.out) hb);have n1_:=zz31 (zz4 (by repeat first | exact HB.out | apply zz2 | apply zz0 | apply zz1 | refine zz3 ?_ GE150.out) hb);clear BK150;clear HB;have BK150:=n0_;have HB:=n1_;clear n0_ n1_;(try clear hb);(try clear hb2);(try clear hk);(try clear hi);have hcz12_0:w11.cell? ⟨gb150,0,none⟩=some (.int .i64 a0_0):=(zz9 BK150.out 0).trans rfl;have hcz12_1:w11.cell? ⟨gb150,1,none⟩=some (.slice A0_1 l0_1.length c0_1):=(zz9 BK150.out 1).trans rfl;have hfz12_0:=zz10 BK150.out 0;have hfz12_1:=zz10 BK150.out 1) | (go_at_call 43;(with_reducible refine (spec_trThrees.calls k a0_0 _ _ l0_1 t152 _ ?side1 ?side2 A4.out).mono ?_);(case side1=>repeat (first | exact (Kd.C_below HR0_1.out HB.out) | (with_reducible refine zz18 ?_ _) | (with_reducible refine zz19 ?_ _) | (with_reducible refine zz20 ?_)));(case side2=>exact HC0_1.out);rintro e w13 ⟨v153,rfl,ho0,hb⟩;have n0_:=zz31 (Kd.R_lower ho0 (zz5 (by repeat first | exact HB.out | apply zz2 | apply zz0 | apply zz1 | refine zz3 ?_ GE150.out)));have n1_:=zz31 (zz11 (g:=gb150) (o:=.cells #[.int .i64 a0_0,.slice A0_1 l0_1.length c0_1] 30 (0,0)) (by (with_reducible repeat (first | refine zz6 ?_ _ | refine zz7 ?_ | refine zz8 ?_ _));exact BK150.out) hb);have n2_:=zz31 (zz4 (by repeat first | exact HB.out | apply zz2 | apply zz0 | apply zz1 | refine zz3 ?_ GE150.out) hb);clear BK150;clear HB;have HO154:=n0_;have BK150:=n1_;have HB:=n2_;clear n0_ n1_ n2_;(try clear hb);(try clear hb2);(try clear hk);(try clear hi);(try clear ho0);obtain ⟨Ao14,co14,eo14⟩:=Kd.R_slice HO154.out;subst eo14;have p155:0≤(3:Int):=(by omega);have q155:3 < (t152.length:Int):=zz29 (by first | (with_reducible assumption) | assumption);obtain ⟨ad155,e155,hx155_0⟩:=Kd.at_int (Kd.R_reads' HO154.out).2.2 3 p155 q155;cases e155;(try simp only [show (3:Int).toNat=3 from rfl,Nat.reduceMul,Nat.reduceEqDiff,Go.Addr.add,↓reduceIte] at hx155_0);have qi155:(3 < t152.length)=True:=eq_true (by omega);(try rw [show ((3:Int)).toNat=3 from rfl] at hx155_0);replace p155:=eq_true p155;replace q155:=eq_true q155;have p156:0≤(0:Int):=(by omega);have q156:0 < (t152.length:Int):=zz29 (by first | (with_reducible assumption) | assumption);obtain ⟨ad156,e156,hx156_0⟩:=Kd.at_int (Kd.R_reads' HO154.out).2.2 0 p156 q156;obtain rfl:ad155=ad156:=(by injection e156);have qi156:(0 < t152.length)=True:=eq_true (by omega);(try rw [show ((0:Int)).toNat=0 from rfl] at hx156_0);(try rw [Addr.add_zero'] at hx156_0);replace p156:=eq_true p156;replace q156:=eq_true q156;have p157:0≤(1:Int):=(by omega);have q157:1 < (t152.length:Int):=zz29 (by first | (with_reducible assumption) | assumption);obtain ⟨ad157,e157,hx157_0⟩:=Kd.at_int (Kd.R_reads' HO154.out).2.2 1 p157 q157;obtain rfl:ad155=ad157:=(by injection e157);(try simp only [show (1:Int).toNat=1 from rfl,Nat.reduceMul,Nat.reduceEqDiff,Go.Addr.add,↓reduceIte] at hx157_0);have qi157:(1 < t152.length)=True:=eq_true (by omega);(try rw [show ((1:Int)).toNat=1 from rfl] at hx157_0);replace p157:=eq_true p157;replace q157:=eq_true q157;have p158:0≤(2:Int):=(by omega);have q158:2 < (t152.length:Int):=zz29 (by first | (with_reducible assumption) | assumption);obtain ⟨ad158,e158,hx158_0⟩:=Kd.at_int (Kd.R_reads' HO154.out).2.2 2 p158 q158;obtain rfl:ad155=ad158:=(by injection e158);(try simp only [show (2:Int).toNat=2 from rfl,Nat.reduceMul,Nat.reduceEqDiff,Go.Addr.add,↓reduceIte] at hx158_0);have qi158:(2 < t152.length)=True:=eq_true (by omega);(try rw [show ((2:Int)).toNat=2 from rfl] at hx158_0);replace p158:=eq_true p158;replace q158:=eq_true q158));try go_wp2_with (first | ((with_reducible refine gate_dst (N:=1) rfl ?_);refine box_event ?hg (N:=1) ?hd (cs:=#[.int .i64 a0_0,.slice A0_1 l0_1.length c0_1]) (t:=30) ?hr ?_;(case hd=>rfl);(case hg=>rfl);(case hr=>first | (go_simp;done) | (go_simp;rfl));intro gb150 hg w9 hbox hb;have n0_:=zz31 (zz4 (by repeat first | exact HB.out | apply zz2 | apply zz0 | apply zz1) hb);have n1_:=zz31 (hbox);have n2_:=zz31 ((by rw [hg];exact (zz5 (by repeat first | exact HB.out | apply zz2 | apply zz0 | apply zz1)):w.heap.size≤gb150));have n3_:=zz31 ((by rw [hg];exact (zz5 (by repeat first | exact HB.out | apply zz2 | apply zz0 | apply zz1)):w.heap.size≤gb150));clear HB;have HB:=n0_;have BK150:=n1_;have GW150:=n2_;have GE150:=n3_;clear n0_ n1_ n2_ n3_;clear hb hbox hg;have hcz10_0:w9.cell? ⟨gb150,0,none⟩=some (.int .i64 a0_0):=(zz9 BK150.out 0).trans rfl;have hcz10_1:w9.cell? ⟨gb150,1,none⟩=some (.slice A0_1 l0_1.length c0_1):=(zz9 BK150.out 1).trans rfl;have hfz10_0:=zz10 BK150.out 0;have hfz10_1:=zz10 BK150.out 1) | (go_at_call 42;(with_reducible refine (spec_paGood.calls k a0_0 _ _ l0_1 true _ ?side1 ?side2 A2.out).mono ?_);(case side1=>repeat (first | exact (Kd.C_below HR0_1.out HB.out) | (with_reducible refine zz18 ?_ _) | (with_reducible refine zz19 ?_ _) | (with_reducible refine zz20 ?_)));(case side2=>exact HC0_1.out);rintro e w11 ⟨rfl,hb⟩;have n0_:=zz31 (zz11 (g:=gb150) (o:=.cells #[.int .i64 a0_0,.slice A0_1 l0_1.length c0_1] 30 (0,0)) (by (with_reducible repeat (first | refine zz6 ?_ _ | refine zz7 ?_ | refine zz8 ?_ _));exact BK150.out) hb);have n1_:=zz31 (zz4 (by repeat first | exact HB.out | apply zz2 | apply zz0 | apply zz1 | refine zz3 ?_ GE150.out) hb);clear BK150;clear HB;have BK150:=n0_;have HB:=n1_;clear n0_ n1_;(try clear hb);(try clear hb2);(try clear hk);(try clear hi);have hcz12_0:w11.cell? ⟨gb150,0,none⟩=some (.int .i64 a0_0):=(zz9 BK150.out 0).trans rfl;have hcz12_1:w11.cell? ⟨gb150,1,none⟩=some (.slice A0_1 l0_1.length c0_1):=(zz9 BK150.out 1).trans rfl;have hfz12_0:=zz10 BK150.out 0;have hfz12_1:=zz10 BK150.out 1) | (go_at_call 43;(with_reducible refine (spec_trThrees.calls k a0_0 _ _ l0_1 t152 _ ?side1 ?side2 A4.out).mono ?_);(case side1=>repeat (first | exact (Kd.C_below HR0_1.out HB.out) | (with_reducible refine zz18 ?_ _) | (with_reducible refine zz19 ?_ _) | (with_reducible refine zz20 ?_)));(case side2=>exact HC0_1.out);rintro e w13 ⟨v153,rfl,ho0,hb⟩;have n0_:=zz31 (Kd.R_lower ho0 (zz5 (by repeat first | exact HB.out | apply zz2 | apply zz0 | apply zz1 | refine zz3 ?_ GE150.out)));have n1_:=zz31 (zz11 (g:=gb150) (o:=.cells #[.int .i64 a0_0,.slice A0_1 l0_1.length c0_1] 30 (0,0)) (by (with_reducible repeat (first | refine zz6 ?_ _ | refine zz7 ?_ | refine zz8 ?_ _));exact BK150.out) hb);have n2_:=zz31 (zz4 (by repeat first | exact HB.out | apply zz2 | apply zz0 | apply zz1 | refine zz3 ?_ GE150.out) hb);clear BK150;clear HB;have HO154:=n0_;have BK150:=n1_;have HB:=n2_;clear n0_ n1_ n2_;(try clear hb);(try clear hb2);(try clear hk);(try clear hi);(try clear ho0);obtain ⟨Ao14,co14,eo14⟩:=Kd.R_slice HO154.out;subst eo14;have p155:0≤(3:Int):=(by omega);have q155:3 < (t152.length:Int):=zz29 (by first | (with_reducible assumption) | assumption);obtain ⟨ad155,e155,hx155_0⟩:=Kd.at_int (Kd.R_reads' HO154.out).2.2 3 p155 q155;cases e155;(try simp only [show (3:Int).toNat=3 from rfl,Nat.reduceMul,Nat.reduceEqDiff,Go.Addr.add,↓reduceIte] at hx155_0);have qi155:(3 < t152.length)=True:=eq_true (by omega);(try rw [show ((3:Int)).toNat=3 from rfl] at hx155_0);replace p155:=eq_true p155;replace q155:=eq_true q155;have p156:0≤(0:Int):=(by omega);have q156:0 < (t152.length:Int):=zz29 (by first | (with_reducible assumption) | assumption);obtain ⟨ad156,e156,hx156_0⟩:=Kd.at_int (Kd.R_reads' HO154.out).2.2 0 p156 q156;obtain rfl:ad155=ad156:=(by injection e156);have qi156:(0 < t152.length)=True:=eq_true (by omega);(try rw [show ((0:Int)).toNat=0 from rfl] at hx156_0);(try rw [Addr.add_zero'] at hx156_0);replace p156:=eq_true p156;replace q156:=eq_true q156;have p157:0≤(1:Int):=(by omega);have q157:1 < (t152.length:Int):=zz29 (by first | (with_reducible assumption) | assumption);obtain ⟨ad157,e157,hx157_0⟩:=Kd.at_int (Kd.R_reads' HO154.out).2.2 1 p157 q157;obtain rfl:ad155=ad157:=(by injection e157);(try simp only [show (1:Int).toNat=1 from rfl,Nat.reduceMul,Nat.reduceEqDiff,Go.Addr.add,↓reduceIte] at hx157_0);have qi157:(1 < t152.length)=True:=eq_true (by omega);(try rw [show ((1:Int)).toNat=1 from rfl] at hx157_0);replace p157:=eq_true p157;replace q157:=eq_true q157;have p158:0≤(2:Int):=(by omega);have q158:2 < (t152.length:Int):=zz29 (by first | (with_reducible assumption) | assumption);obtain ⟨ad158,e158,hx158_0⟩:=Kd.at_int (Kd.R_reads' HO154.out).2.2 2 p158 q158;obtain rfl:ad155=ad158:=(by injection e158);(try simp only [show (2:Int).toNat=2 from rfl,Nat.reduceMul,Nat.reduceEqDiff,Go.Addr.add,↓reduceIte] at hx158_0);have qi158:(2 < t152.length)=True:=eq_true (by omega);(try rw [show ((2:Int)).toNat=2 from rfl] at hx158_0);replace p158:=eq_true p158;replace q158:=eq_true q158)))
      refine bodyPost_ret (results_list (rs:=[.tmp 2,.tmp 3,.tmp 4,.tmp 5]) rfl (by simp) (.tmp (.tmp (.tmp (.tmp .nil))))) rfl ?_
      exact ⟨by first | rfl | (simp [errW_none,errW_some] <;> rfl) | (simp [*,errW_none,errW_some] <;> rfl),by repeat first | exact HB.out | apply zz2 | apply zz0 | apply zz1 | refine zz3 ?_ GE150.out⟩
     ·rw [if_neg c8] at H
      exact absurd H (by simp)
    ·rw [if_neg c7] at H
     exact absurd H (by simp)
   ·rw [if_neg c6] at H
    exact absurd H (by simp)
  ·rw [if_neg c5] at H
   exact absurd H (by simp)
 ·replace c3:=Bool.eq_false_iff.mpr c3
  subst c3
  have H1:(some (0,0,0,false))=some (r1,r2,r3,r4):=by rw [if_neg (show ¬ (false=true) by decide)] at H;exact H
  clear H
  have H:=H1
  clear H1
  simp only [Option.some.injEq,Prod.mk.injEq] at H
  obtain ⟨rfl,rfl,rfl,rfl⟩:=H
  go_enter Try.func13,Try.ntmps13
  go_wp2_with (first | ((with_reducible refine gate_dst (N:=1) rfl ?_);refine box_event ?hg (N:=1) ?hd (cs:=#[.int .i64 a0_0,.slice A0_1 l0_1.length c0_1]) (t:=30) ?hr ?_;(case hd=>rfl);(case hg=>rfl);(case hr=>first | (go_simp;done) | (go_simp;rfl));intro gb150 hg w15 hbox hb;have n0_:=zz31 (zz4 (by repeat first | exact HB.out | apply zz2 | apply zz0 | apply zz1) hb);have n1_:=zz31 (hbox);have n2_:=zz31 ((by rw [hg];exact (zz5 (by repeat first | exact HB.out | apply zz2 | apply zz0 | apply zz1)):w.heap.size≤gb150));have n3_:=zz31 ((by rw [hg];exact (zz5 (by repeat first | exact HB.out | apply zz2 | apply zz0 | apply zz1)):w.heap.size≤gb150));clear HB;have HB:=n0_;have BK150:=n1_;have GW150:=n2_;have GE150:=n3_;clear n0_ n1_ n2_ n3_;clear hb hbox hg;have hcz16_0:w15.cell? ⟨gb150,0,none⟩=some (.int .i64 a0_0):=(zz9 BK150.out 0).trans rfl;have hcz16_1:w15.cell? ⟨gb150,1,none⟩=some (.slice A0_1 l0_1.length c0_1):=(zz9 BK150.out 1).trans rfl;have hfz16_0:=zz10 BK150.out 0;have hfz16_1:=zz10 BK150.out 1) | (go_at_call 42;(with_reducible refine (spec_paGood.calls k a0_0 _ _ l0_1 false _ ?side1 ?side2 A2.out).mono ?_);(case side1=>repeat (first | exact (Kd.C_below HR0_1.out HB.out) | (with_reducible refine zz18 ?_ _) | (with_reducible refine zz19 ?_ _) | (with_reducible refine zz20 ?_)));(case side2=>exact HC0_1.out);rintro e w17 ⟨rfl,hb⟩;have n0_:=zz31 (zz11 (g:=gb150) (o:=.cells #[.int .i64 a0_0,.slice A0_1 l0_1.length c0_1] 30 (0,0)) (by (with_reducible repeat (first | refine zz6 ?_ _ | refine zz7 ?_ | refine zz8 ?_ _));exact BK150.out) hb);have n1_:=zz31 (zz4 (by repeat first | exact HB.out | apply zz2 | apply zz0 | apply zz1 | refine zz3 ?_ GE150.out) hb);clear BK150;clear HB;have BK150:=n0_;have HB:=n1_;clear n0_ n1_;(try clear hb);(try clear hb2);(try clear hk);(try clear hi)))
  repeat (go_quiet (first | ((with_reducible refine gate_dst (N:=1) rfl ?_);refine box_event ?hg (N:=1) ?hd (cs:=#[.int .i64 a0_0,.slice A0_1 l0_1.length c0_1]) (t:=30) ?hr ?_;(case hd=>rfl);(case hg=>rfl);(case hr=>first | (go_simp;done) | (go_simp;rfl));intro gb150 hg w15 hbox hb;have n0_:=zz31 (zz4 (by repeat first | exact HB.out | apply zz2 | apply zz0 | apply zz1) hb);have n1_:=zz31 (hbox);have n2_:=zz31 ((by rw [hg];exact (zz5 (by repeat first | exact HB.out | apply zz2 | apply zz0 | apply zz1)):w.heap.size≤gb150));have n3_:=zz31 ((by rw [hg];exact (zz5 (by repeat first | exact HB.out | apply zz2 | apply zz0 | apply zz1)):w.heap.size≤gb150));clear HB;have HB:=n0_;have BK150:=n1_;have GW150:=n2_;have GE150:=n3_;clear n0_ n1_ n2_ n3_;clear hb hbox hg;have hcz16_0:w15.cell? ⟨gb150,0,none⟩=some (.int .i64 a0_0):=(zz9 BK150.out 0).trans rfl;have hcz16_1:w15.cell? ⟨gb150,1,none⟩=some (.slice A0_1 l0_1.length c0_1):=(zz9 BK150.out 1).trans rfl;have hfz16_0:=zz10 BK150.out 0;have hfz16_1:=zz10 BK150.out 1) | (go_at_call 42;(with_reducible refine (spec_paGood.calls k a0_0 _ _ l0_1 false _ ?side1 ?side2 A2.out).mono ?_);(case side1=>repeat (first | exact (Kd.C_below HR0_1.out HB.out) | (with_reducible refine zz18 ?_ _) | (with_reducible refine zz19 ?_ _) | (with_reducible refine zz20 ?_)));(case side2=>exact HC0_1.out);rintro e w17 ⟨rfl,hb⟩;have n0_:=zz31 (zz11 (g:=gb150) (o:=.cells #[.int .i64 a0_0,.slice A0_1 l0_1.length c0_1] 30 (0,0)) (by (with_reducible repeat (first | refine zz6 ?_ _ | refine zz7 ?_ | refine zz8 ?_ _));exact BK150.out) hb);have n1_:=zz31 (zz4 (by repeat first | exact HB.out | apply zz2 | apply zz0 | apply zz1 | refine zz3 ?_ GE150.out) hb);clear BK150;clear HB;have BK150:=n0_;have HB:=n1_;clear n0_ n1_;(try clear hb);(try clear hb2);(try clear hk);(try clear hi)));try go_wp2_with (first | ((with_reducible refine gate_dst (N:=1) rfl ?_);refine box_event ?hg (N:=1) ?hd (cs:=#[.int .i64 a0_0,.slice A0_1 l0_1.length c0_1]) (t:=30) ?hr ?_;(case hd=>rfl);(case hg=>rfl);(case hr=>first | (go_simp;done) | (go_simp;rfl));intro gb150 hg w15 hbox hb;have n0_:=zz31 (zz4 (by repeat first | exact HB.out | apply zz2 | apply zz0 | apply zz1) hb);have n1_:=zz31 (hbox);have n2_:=zz31 ((by rw [hg];exact (zz5 (by repeat first | exact HB.out | apply zz2 | apply zz0 | apply zz1)):w.heap.size≤gb150));have n3_:=zz31 ((by rw [hg];exact (zz5 (by repeat first | exact HB.out | apply zz2 | apply zz0 | apply zz1)):w.heap.size≤gb150));clear HB;have HB:=n0_;have BK150:=n1_;have GW150:=n2_;have GE150:=n3_;clear n0_ n1_ n2_ n3_;clear hb hbox hg;have hcz16_0:w15.cell? ⟨gb150,0,none⟩=some (.int .i64 a0_0):=(zz9 BK150.out 0).trans rfl;have hcz16_1:w15.cell? ⟨gb150,1,none⟩=some (.slice A0_1 l0_1.length c0_1):=(zz9 BK150.out 1).trans rfl;have hfz16_0:=zz10 BK150.out 0;have hfz16_1:=zz10 BK150.out 1) | (go_at_call 42;(with_reducible refine (spec_paGood.calls k a0_0 _ _ l0_1 false _ ?side1 ?side2 A2.out).mono ?_);(case side1=>repeat (first | exact (Kd.C_below HR0_1.out HB.out) | (with_reducible refine zz18 ?_ _) | (with_reducible refine zz19 ?_ _) | (with_reducible refine zz20 ?_)));(case side2=>exact HC0_1.out);rintro e w17 ⟨rfl,hb⟩;have n0_:=zz31 (zz11 (g:=gb150) (o:=.cells #[.int .i64 a0_0,.slice A0_1 l0_1.length c0_1] 30 (0,0)) (by (with_reducible repeat (first | refine zz6 ?_ _ | refine zz7 ?_ | refine zz8 ?_ _));exact BK150.out) hb);have n1_:=zz31 (zz4 (by repeat first | exact HB.out | apply zz2 | apply zz0 | apply zz1 | refine zz3 ?_ GE150.out) hb);clear BK150;clear HB;have BK150:=n0_;have HB:=n1_;clear n0_ n1_;(try clear hb);(try clear hb2);(try clear hk);(try clear hi))))
  refine bodyPost_ret (results_list (rs:=[.tmp 2,.tmp 3,.tmp 4,.tmp 5]) rfl (by simp) (.tmp (.tmp (.tmp (.tmp .nil))))) rfl ?_
  exact ⟨by first | rfl | (simp [errW_none,errW_some] <;> rfl) | (simp [*,errW_none,errW_some] <;> rfl),by repeat first | exact HB.out | apply zz2 | apply zz0 | apply zz1 | refine zz3 ?_ GE150.out⟩

/-! ### impl_table_others: function 49 -/
def impl_table_others.l0:Nat→List Int→List Int→Int→Int→Option (List Int)
 | 0,_,_,_,_=>none
 | k+1,x0,x3,x9,x10=>if x10 < x9 then (if 0≤x10 then (if x10 < (x0.length:Int) then (if x10 < (x3.length:Int) then (impl_table_others.l0 k x0 (x3.set (x10:Int).toNat (Go.bits .andNot .u16 (Go.bits .andNot .u16 (IntKind.u16.wrap ((shl .u16 1 (x0.length:Int)) - 1)) (rd x0 x10)) (shl .u16 1 x10))) x9 (wrap64 (x10+1))) else (none)) else (none)) else (none)) else (some x3)
def impl_table_others.f (k:Nat) (l0:List Int):Option (List Int):=if 0≤(l0.length:Int) then (if ((l0.length:Int):Int).toNat≤140737488355328 then (impl_table_others.l0 k l0 (List.replicate ((l0.length:Int):Int).toNat 0) (l0.length:Int) 0) else (none)) else (none)
theorem impl_table_others.mono_l:∀ k,(∀ y0 y1 y2 y3,LeO (impl_table_others.l0 k y0 y1 y2 y3) (impl_table_others.l0 (k+1) y0 y1 y2 y3))
 | 0=>fun _ _ _ _ r h=>by simp [impl_table_others.l0] at h
 | k+1=>by
  have ih0:=impl_table_others.mono_l k
  ·intro y0 y1 y2 y3
   unfold impl_table_others.l0
   repeat' first
   | (with_reducible exact ih0 _ _ _ _)
   | (with_reducible exact LeO.refl _)
   | (with_reducible exact LeO.none _)
   | (with_reducible refine LeO.ite ?_ ?_)
   | (with_reducible refine LeO.bind ?_ (fun _=>?_))
   | exact ih0 _ _ _ _
   | exact LeO.none _
   | refine LeO.ite ?_ ?_
   | refine LeO.bind ?_ (fun _=>?_)
theorem impl_table_others.mono:∀ a0 k,LeO (impl_table_others.f k a0) (impl_table_others.f (k+1) a0):=by
 intro a0 k
 have ih0:=impl_table_others.mono_l k
 unfold impl_table_others.f
 repeat' first
   | (with_reducible exact ih0 _ _ _ _)
   | (with_reducible exact LeO.refl _)
   | (with_reducible exact LeO.none _)
   | (with_reducible refine LeO.ite ?_ ?_)
   | (with_reducible refine LeO.bind ?_ (fun _=>?_))
   | exact ih0 _ _ _ _
   | exact LeO.none _
   | refine LeO.ite ?_ ?_
   | refine LeO.bind ?_ (fun _=>?_)
def impl_table_others.T5:Bool × List (List Nat × List Nat):=(true,[([],[]),([],[]),([],[]),([2],[2]),([3],[3]),([4],[4]),([],[]),([],[]),([6,7],[6,7]),([8],[8]),([5,9],[5,9]),([],[]),([11],[11]),([10,12],[10,12]),([0,1,0,1,2,3,4,5,6,7,8,9,10,11,12,13],[0,1]),([14,13,0,1,2,3,4,5,6,7,8,9,10,11,12,13],[13,14])])
def impl_table_others.B5:List Nat:=[0,0,0,4,12,28,0,0,192,448,1020,0,2048,8188,16383,32767]
theorem impl_table_others.tab5:rtab .any (opsOf Try.f49 5)=impl_table_others.T5:=by kernel_rfl
theorem impl_table_others.bits5:waitsOk impl_table_others.T5.2 impl_table_others.B5=true:=by kernel_rfl
set_option maxHeartbeats 8000000 in
set_option maxRecDepth 100000 in
theorem impl_table_others.calls (k:Nat) (A0:Option Addr) (c0:Nat) (l0:List Int) (r:List Int) (w:World) (hr0:Kd.C (Kd.int .u16) w A0 l0.length l0) (hc0:l0.length≤c0) (h:impl_table_others.f k l0=some r) :
  Calls Try.prog 49 #[.slice A0 l0.length c0] w fun e w'=>∃ v0_:Value,e=.returned (v0_)∧Kd.R (Kd.int .u16) 96 w' w.heap.size (fun _=>True) v0_ r∧Below w.heap.size w w':=by
 have HR0:=zz31 hr0
 have HC0:=zz31 hc0
 clear hr0 hc0
 have HB:=zz31 (Below.refl w.heap.size w)
 have H:(if 0≤(l0.length:Int) then (if ((l0.length:Int):Int).toNat≤140737488355328 then (impl_table_others.l0 k l0 (List.replicate ((l0.length:Int):Int).toNat 0) (l0.length:Int) 0) else (none)) else (none))=some r:=h
 clear h
 by_cases c2:0≤(l0.length:Int)
 ·rw [if_pos c2] at H
  have c2b0:=eq_true c2
  have c2b1:decide (0≤(l0.length:Int))=true:=decide_eq_true c2
  clear c2
  by_cases c3:((l0.length:Int):Int).toNat≤140737488355328
  ·rw [if_pos c3] at H
   have c3b0:=eq_true c3
   have c3b1:decide (((l0.length:Int):Int).toNat≤140737488355328)=true:=decide_eq_true c3
   clear c3
   obtain ⟨y204,hy204⟩:∃ y_:List Int,y_=(List.replicate ((l0.length:Int):Int).toNat 0):=⟨_,rfl⟩
   replace H:(impl_table_others.l0 k l0 y204 (l0.length:Int) 0)=some r:=by first | (rw [hy204];with_reducible exact H) | (have H2_:=(Option.bind_some _ _).symm.trans H;rw [hy204];with_reducible exact H2_) | (have H2_:=(Option.bind_some _ _).symm.trans H;with_reducible exact H2_) | with_reducible exact H | (rw [hy204];exact H) | exact H
   have Ny204:=zz31 hy204
   clear hy204
   have H':=zz31 H
   clear H
   go_enter Try.func49,Try.ntmps49
   go_wp2_with (first | ((with_reducible refine gate_dst (N:=7) rfl ?_);refine Kd.R_make (Kd.int .u16) _ 96 rfl (N:=7) rfl 60 _ _ rfl (l0.length:Int) rfl rfl Try.underlying60 (.int .u16 0) 2 info96 rfl (by decide) (by omega) 0 (ok:=fun _=>True) (okp:=fun _=>True) rfl (fun _ hk=>hk) trivial (zz29 (by first | (with_reducible assumption) | assumption)) (Nat.le_trans (Nat.mul_le_mul_right _ (zz29 (by first | (with_reducible assumption) | assumption):(l0.length:Int).toNat≤140737488355328)) (by omega)) (Below.refl _ _) (Nat.le_refl _) ?_;intro v205 w4 ho5 hb hg_ hnew_;clear hg_ hnew_;(first | rw [← Ny204.out] at ho5 | (simp only [Int.reduceToNat] at ho5;rw [← Ny204.out] at ho5));have n0_:=zz31 (Kd.R_lower ho5 (zz5 (by repeat first | exact HB.out | apply zz2 | apply zz0 | apply zz1)));have n1_:=zz31 (zz4 (by repeat first | exact HB.out | apply zz2 | apply zz0 | apply zz1) hb);clear HB;have HO206:=n0_;have HB:=n1_;clear n0_ n1_;clear hb ho5))
   go_loopg [10] k (fun kq v10 w'=>∃ (x3_1:List Int) (x10_1:Int),v10=.int .i64 x10_1∧Aside0 (impl_table_others.l0 kq l0 x3_1 (l0.length:Int) x10_1=some r)∧Aside0 (kq≤k)∧Aside0 (Kd.R (Kd.int .u16) 96 w' w.heap.size (fun _=>True) v205 x3_1)∧Aside0 (Below w.heap.size w w'))
   case atStart=>exact ⟨(y204),(0),(by first | rfl | (simp;done) | (simp [*];done)),H',⟨Nat.le_refl _⟩,⟨by (with_reducible repeat (first | apply zz12 | apply zz13 | apply zz14));exact HO206.out⟩,⟨by repeat first | exact HB.out | apply zz2 | apply zz0 | apply zz1⟩⟩
   case round =>
    clear H'
    try clear c2
    try clear c2b0
    try clear c2b1
    try clear p2
    try clear c3
    try clear c3b0
    try clear c3b1
    try clear c4
    obtain ⟨x3_1,x10_1,rfl,HA,HK1,HO_3,HB⟩:=hrel
    cases gk with
    | zero=>exact absurd HA.out (by simp [impl_table_others.l0])
    | succ k1 =>
     have H:=HA.out
     clear HA
     simp only [impl_table_others.l0] at H
     by_cases c6:x10_1 < (l0.length:Int)
     ·rw [if_pos c6] at H
      have c6b0:decide (x10_1 < (l0.length:Int))=true:=decide_eq_true c6
      clear c6
      obtain ⟨ji7,hji7⟩:∃ j_:Int,(shl .u16 1 (l0.length:Int))=j_:=⟨_,rfl⟩
      replace H:(if 0≤x10_1 then (if x10_1 < (l0.length:Int) then (if x10_1 < (x3_1.length:Int) then (impl_table_others.l0 k1 l0 (x3_1.set (x10_1:Int).toNat (Go.bits .andNot .u16 (Go.bits .andNot .u16 (IntKind.u16.wrap ((ji7) - 1)) (rd l0 x10_1)) (shl .u16 1 x10_1))) (l0.length:Int) (wrap64 (x10_1+1))) else (none)) else (none)) else (none))=some r:=by first | (rw [hji7] at H;exact H) | (simp only [hji7] at H ⊢;exact H)
      have hji7_:(IntKind.u16.wrap (1 * 2 ^ min (l0.length:Int).toNat 16))=ji7:=hji7
      have hji7z:(l0.length:Int)≤16→(IntKind.u16.wrap (1 * 2 ^ (l0.length:Int).toNat))=ji7:=shl_small hji7
      have hji7p:(IntKind.u16.wrap (1 * 2 ^ min l0.length 16))=ji7:=hji7_
      have hji7q:(l0.length:Int)≤16→(IntKind.u16.wrap (1 * 2 ^ l0.length))=ji7:=hji7z
      have hji7r:(IntKind.u16.wrap (2 ^ min l0.length 16))=ji7:=by have h_:=hji7p;rw [Int.one_mul] at h_;exact h_
      have hji7s:(l0.length:Int)≤16→(IntKind.u16.wrap (2 ^ l0.length))=ji7:=fun hle_=>by have h_:=hji7q hle_;rw [Int.one_mul] at h_;exact h_
      have hji7u:(IntKind.u16.wrap (2 ^ min (l0.length:Int).toNat 16))=ji7:=by have h_:=hji7_;rw [Int.one_mul] at h_;exact h_
      have hji7v:(l0.length:Int)≤16→(IntKind.u16.wrap (2 ^ (l0.length:Int).toNat))=ji7:=fun hle_=>by have h_:=hji7z hle_;rw [Int.one_mul] at h_;exact h_
      by_cases c8:0≤x10_1
      ·rw [if_pos c8] at H
       have c8b0:decide (0≤x10_1)=true:=decide_eq_true c8
       clear c8
       by_cases c9:x10_1 < (l0.length:Int)
       ·rw [if_pos c9] at H
        have c9b0:decide (x10_1 < (l0.length:Int))=true:=decide_eq_true c9
        clear c9
        have c10b0:=eq_true (zz29 (by first | (with_reducible assumption) | assumption):0≤x10_1)
        obtain ⟨ji11,hji11⟩:∃ j_:Int,(shl .u16 1 x10_1)=j_:=⟨_,rfl⟩
        replace H:(if x10_1 < (x3_1.length:Int) then (impl_table_others.l0 k1 l0 (x3_1.set (x10_1:Int).toNat (Go.bits .andNot .u16 (Go.bits .andNot .u16 (IntKind.u16.wrap ((ji7) - 1)) (rd l0 x10_1)) (ji11))) (l0.length:Int) (wrap64 (x10_1+1))) else (none))=some r:=by first | (rw [hji11] at H;exact H) | (simp only [hji11] at H ⊢;exact H)
        have hji11_:(IntKind.u16.wrap (1 * 2 ^ min x10_1.toNat 16))=ji11:=hji11
        have hji11z:x10_1≤16→(IntKind.u16.wrap (1 * 2 ^ x10_1.toNat))=ji11:=shl_small hji11
        have hji11u:(IntKind.u16.wrap (2 ^ min x10_1.toNat 16))=ji11:=by have h_:=hji11_;rw [Int.one_mul] at h_;exact h_
        have hji11v:x10_1≤16→(IntKind.u16.wrap (2 ^ x10_1.toNat))=ji11:=fun hle_=>by have h_:=hji11z hle_;rw [Int.one_mul] at h_;exact h_
        by_cases c12:x10_1 < (x3_1.length:Int)
        ·rw [if_pos c12] at H
         have c12b0:decide (x10_1 < (x3_1.length:Int))=true:=decide_eq_true c12
         clear c12
         obtain ⟨y208,hy208⟩:∃ y_:List Int,y_=(x3_1.set (x10_1:Int).toNat (Go.bits .andNot .u16 (Go.bits .andNot .u16 (IntKind.u16.wrap ((ji7) - 1)) (rd l0 x10_1)) (ji11))):=⟨_,rfl⟩
         replace H:(impl_table_others.l0 k1 l0 y208 (l0.length:Int) (wrap64 (x10_1+1)))=some r:=by first | (rw [hy208];with_reducible exact H) | (have H2_:=(Option.bind_some _ _).symm.trans H;rw [hy208];with_reducible exact H2_) | (have H2_:=(Option.bind_some _ _).symm.trans H;with_reducible exact H2_) | with_reducible exact H | (rw [hy208];exact H) | exact H
         have Ny208:=zz31 hy208
         clear hy208
         have H':=zz31 H
         clear H
         try go_wp2
         have n0_:=zz31 (zz14 HO_3.out)
         have n1_:=zz31 (zz1 HB.out)
         clear HO_3
         clear HB
         have HO_3:=n0_
         have HB:=n1_
         clear n0_ n1_
         have p207:0≤(x10_1:Int):=zz29 (by first | (with_reducible assumption) | assumption)
         have q207:x10_1 < (l0.length:Int):=zz29 (by first | (with_reducible assumption) | assumption)
         obtain ⟨ad207,e207,hx207_0⟩:=Kd.at_int HR0.out x10_1 p207 q207
         have hw207_0:=hx207_0
         cases e207
         try replace hx207_0:=(HB.out.cell (World.block_lt_of_cell? w _ hx207_0)).trans hx207_0
         replace p207:=eq_true p207
         replace q207:=eq_true q207
         have p13:0≤(x10_1:Int):=zz29 (by first | (with_reducible assumption) | assumption)
         have q13:(x10_1:Int) < ((x3_1.length:Int):Int):=zz29 (by first | (with_reducible assumption) | assumption)
         obtain ⟨go13,co13,eo13,gb13,gl13,cl13,HG13⟩:=Kd.R_form HO_3.out (by omega)
         (first | cases eo13 | (injection eo13 with ea_ en_ ec_;(first | subst ea_ | (injection ea_ with ea_;subst ea_));subst ec_;clear en_))
         have GB13:=zz31 gb13
         have GG13:=zz31 HG13
         clear gb13 gl13 HG13
         obtain ⟨hx13_0,hf13_0⟩:=Kd.R_celln 0 HO_3.out (x10_1:Int) p13 q13
         replace p13:=eq_true p13
         replace q13:=eq_true q13
         have HP15:=Kd.R_putn HO_3.out (x10_1:Int) (Go.bits .andNot .u16 (Go.bits .andNot .u16 (IntKind.u16.wrap ((ji7) - 1)) (rd l0 x10_1)) (ji11))
         rw [← Ny208.out] at HP15
         have HQ15:=zz31 HP15
         clear HP15
         refine start_ (n:=16) (S:=fun w'=>w'.cell? (ad207.add (x10_1).toNat)=some (.int .u16 (rd l0 x10_1))) (ds:=[15]) #[F,F,F,F,F,F,F,F,F,F,F,F,F,F,F,F] (by kernel_rfl) rfl rfl (((HB.out.cell (World.block_lt_of_cell? w _ hw207_0)).trans hw207_0)) (fun hHeld=>?_);refine with_tabW impl_table_others.tab5 impl_table_others.bits5 (fun HT_ HW_=>?_)
         generalize wr.drew=w14 at HO_3 HB GG13 HQ15 hf13_0 hx13_0 hx207_0 hHeld ⊢
         refine pure_ (i:=0) (N:=some 13) (v:=?_) (a':=?_) #[T,F,F,F,F,F,F,F,F,F,F,F,F,F,F,F] rfl rfl (any_of HT_.out (by kernel_rfl)) (fun _ _ _ h=>h) (Or.inl ⟨by rfl,?_⟩) ?_ ?_
         rotate_left
         ·intro w'
          go_simp
          with_reducible rfl
         rotate_left
         ·simp only [Act.put,zz21,zz22,zz23,i64_w,i32_w]
          rfl
         refine pure_ (i:=1) (N:=some 14) (v:=?_) (a':=?_) #[T,T,F,F,F,F,F,F,F,F,F,F,F,F,F,F] rfl rfl (any_of HT_.out (by kernel_rfl)) (fun _ _ _ h=>h) (Or.inl ⟨by rfl,?_⟩) ?_ ?_
         rotate_left
         ·intro w'
          go_simp
          with_reducible rfl
         rotate_left
         ·simp only [Act.put,zz21,zz22,zz23,i64_w,i32_w]
          rfl
         refine pure_ (i:=2) (N:=some 15) (v:=?_) (a':=?_) #[T,T,T,F,F,F,F,F,F,F,F,F,F,F,F,F] rfl rfl (any_of HT_.out (by kernel_rfl)) (fun _ _ _ h=>h) (Or.inl ⟨by rfl,?_⟩) ?_ ?_
         rotate_left
         ·intro w'
          go_simp
          with_reducible rfl
         rotate_left
         ·simp only [Act.put,zz21,zz22,zz23,i64_w,i32_w]
          rfl
         refine pure_ (i:=3) (N:=some 16) (v:=?_) (a':=?_) #[T,T,T,T,F,F,F,F,F,F,F,F,F,F,F,F] rfl rfl (any_of HT_.out (by kernel_rfl)) (fun _ _ _ h=>h) (Or.inl ⟨by rfl,?_⟩) ?_ ?_
         rotate_left
         ·intro w'
          go_simp
          with_reducible rfl
         rotate_left
         ·simp only [Act.put,zz21,zz22,zz23,i64_w,i32_w]
          rfl
         refine pure_ (i:=4) (N:=some 17) (v:=?_) (a':=?_) #[T,T,T,T,T,F,F,F,F,F,F,F,F,F,F,F] rfl rfl (any_of HT_.out (by kernel_rfl)) (fun _ _ _ h=>h) (Or.inl ⟨by rfl,?_⟩) ?_ ?_
         rotate_left
         ·intro w'
          go_simp
          with_reducible rfl
         rotate_left
         ·simp only [Act.put,zz21,zz22,zz23,i64_w,i32_w]
          rfl
         refine pure_ (i:=5) (N:=some 18) (v:=?_) (a':=?_) #[T,T,T,T,T,T,F,F,F,F,F,F,F,F,F,F] rfl rfl (any_of HT_.out (by kernel_rfl)) (fun _ _ _ h=>h) (Or.inl ⟨by rfl,?_⟩) ?_ ?_
         rotate_left
         ·intro w'
          go_simp
          with_reducible rfl
         rotate_left
         ·simp only [Act.put,zz21,zz22,zz23,i64_w,i32_w]
          rfl
         refine pure_ (i:=6) (N:=some 19) (v:=?_) (a':=?_) #[T,T,T,T,T,T,T,F,F,F,F,F,F,F,F,F] rfl rfl (any_of HT_.out (by kernel_rfl)) (fun _ _ _ h=>h) (Or.inl ⟨by rfl,?_⟩) ?_ ?_
         rotate_left
         ·intro w'
          go_simp
          with_reducible rfl
         rotate_left
         ·simp only [Act.put,zz21,zz22,zz23,i64_w,i32_w]
          rfl
         refine pure_ (i:=7) (N:=some 20) (v:=?_) (a':=?_) #[T,T,T,T,T,T,T,T,F,F,F,F,F,F,F,F] rfl rfl (any_of HT_.out (by kernel_rfl)) (fun _ _ _ h=>h) (Or.inl ⟨by rfl,?_⟩) ?_ ?_
         rotate_left
         ·intro w'
          go_simp
          with_reducible rfl
         rotate_left
         ·simp only [Act.put,zz21,zz22,zz23,i64_w,i32_w]
          rfl
         refine pure_ (i:=8) (N:=some 21) (v:=?_) (a':=?_) #[T,T,T,T,T,T,T,T,T,F,F,F,F,F,F,F] rfl rfl (any_of HT_.out (by kernel_rfl)) (fun _ _ _ h=>h) (Or.inl ⟨by rfl,?_⟩) ?_ ?_
         rotate_left
         ·intro w'
          go_simp
          with_reducible rfl
         rotate_left
         ·simp only [Act.put,zz21,zz22,zz23,i64_w,i32_w]
          rfl
         refine pure_ (i:=11) (N:=some 24) (v:=?_) (a':=?_) #[T,T,T,T,T,T,T,T,T,F,F,T,F,F,F,F] rfl rfl (any_of HT_.out (by kernel_rfl)) (fun _ _ _ h=>h) (Or.inl ⟨by rfl,?_⟩) ?_ ?_
         rotate_left
         ·intro w'
          go_simp
          with_reducible rfl
         rotate_left
         ·simp only [Act.put,zz21,zz22,zz23,i64_w,i32_w]
          rfl
         refine pure_ (i:=12) (N:=some 25) (v:=?_) (a':=?_) #[T,T,T,T,T,T,T,T,T,F,F,T,T,F,F,F] rfl rfl (any_of HT_.out (by kernel_rfl)) (fun _ _ _ h=>h) (Or.inl ⟨by rfl,?_⟩) ?_ ?_
         rotate_left
         ·intro w'
          go_simp
          with_reducible rfl
         rotate_left
         ·simp only [Act.put,zz21,zz22,zz23,i64_w,i32_w]
          rfl
         refine take_ (i:=9) (N:=some 22) (v:=?_) (a':=?_) #[T,T,T,T,T,T,T,T,T,T,F,T,T,F,F,F] rfl rfl (take_ofW HT_.out HW_.out (by kernel_rfl)) (fun _ _ _ h=>h) (Or.inl ⟨by rfl,?_⟩) hHeld ?_ ?_
         rotate_left
         ·intro w' s0
          go_simp
          with_reducible rfl
         rotate_left
         ·simp only [Act.put,zz21,zz22,zz23,i64_w,i32_w]
          rfl
         refine pure_ (i:=10) (N:=some 23) (v:=?_) (a':=?_) #[T,T,T,T,T,T,T,T,T,T,T,T,T,F,F,F] rfl rfl (any_of HT_.out (by kernel_rfl)) (fun _ _ _ h=>h) (Or.inl ⟨by rfl,?_⟩) ?_ ?_
         rotate_left
         ·intro w'
          go_simp
          with_reducible rfl
         rotate_left
         ·simp only [Act.put,zz21,zz22,zz23,i64_w,i32_w]
          rfl
         refine pure_ (i:=13) (N:=some 26) (v:=?_) (a':=?_) #[T,T,T,T,T,T,T,T,T,T,T,T,T,T,F,F] rfl rfl (any_of HT_.out (by kernel_rfl)) (fun _ _ _ h=>h) (Or.inl ⟨by rfl,?_⟩) ?_ ?_
         rotate_left
         ·intro w'
          go_simp
          with_reducible rfl
         rotate_left
         ·simp only [Act.put,zz21,zz22,zz23,i64_w,i32_w]
          rfl
         refine pure_ (i:=14) (N:=some 27) (v:=?_) (a':=?_) #[T,T,T,T,T,T,T,T,T,T,T,T,T,T,T,F] rfl rfl (any_of HT_.out (by kernel_rfl)) (fun _ _ _ h=>h) (Or.inl ⟨by rfl,?_⟩) ?_ ?_
         rotate_left
         ·intro w'
          go_simp
          with_reducible rfl
         rotate_left
         ·simp only [Act.put,zz21,zz22,zz23,i64_w,i32_w]
          rfl
         refine last_ (i:=15) (N:=none) #[T,T,T,T,T,T,T,T,T,T,T,T,T,T,T,T] rfl rfl (one_of HT_.out (by kernel_rfl)) (by decide) (fun K hK=>?_)
         refine skip_ (w1:=?_) (by rfl) rfl ?_ ?_
         rotate_left
         ·go_simp
          rfl
         refine hK.out _ _ ?_
         clear hK K
         refine done_ (done_of HT_.out (by kernel_rfl)) ?_
         try go_wp2
         go_roundg k1
         case measure=>have:=HK1.out;omega
         case rel=>exact ⟨(y208),(wrap64 (x10_1+1)),(by first | rfl | (simp;done) | (simp [*];done)),H',⟨by have:=HK1.out;omega⟩,⟨by (with_reducible repeat (first | apply zz12 | apply zz13 | apply zz14));exact HQ15.out⟩,⟨by repeat first | exact HB.out | apply zz2 | apply zz0 | apply zz1 | refine zz3 ?_ GB13.out⟩⟩
        ·rw [if_neg c12] at H
         exact absurd H (by simp)
       ·rw [if_neg c9] at H
        exact absurd H (by simp)
      ·rw [if_neg c8] at H
       exact absurd H (by simp)
     ·rw [if_neg c6] at H
      have c6b0:decide (x10_1 < (l0.length:Int))=false:=decide_eq_false c6
      clear c6
      obtain rfl:=Option.some.inj H
      go_wp2
      go_ret
      exact ⟨_,by first | rfl | (simp [errW_none,errW_some] <;> rfl) | (simp [*,errW_none,errW_some] <;> rfl),by (with_reducible repeat (first | apply zz12 | apply zz13 | apply zz14));exact HO_3.out,by repeat first | exact HB.out | apply zz2 | apply zz0 | apply zz1⟩
  ·rw [if_neg c3] at H
   exact absurd H (by simp)
 ·rw [if_neg c2] at H
  exact absurd H (by simp)

/-! ### impl_choose: function 50 -/
def impl_choose.l0:Nat→Int→Int→Int→Int→Option (Int)
 | 0,_,_,_,_=>none
 | k+1,x0,x5,x11,x12=>if x12 < x11 then (if (wrap64 (x12+1))=0 then (none) else (impl_choose.l0 k x0 (wrap64 (Int.tdiv (wrap64 (x5 * (wrap64 (x0 - x12)))) (wrap64 (x12+1)))) x11 (wrap64 (x12+1)))) else (some x5)
def impl_choose.f (k:Nat) (a0:Int) (a1:Int):Option (Int):=(impl_within.f a1 0 a0).bind fun t209=>(if t209=true then (impl_choose.l0 k a0 1 a1 0) else (some 0))
theorem impl_choose.mono_l:∀ k,(∀ y0 y1 y2 y3,LeO (impl_choose.l0 k y0 y1 y2 y3) (impl_choose.l0 (k+1) y0 y1 y2 y3))
 | 0=>fun _ _ _ _ r h=>by simp [impl_choose.l0] at h
 | k+1=>by
  have ih0:=impl_choose.mono_l k
  ·intro y0 y1 y2 y3
   unfold impl_choose.l0
   repeat' first
   | (with_reducible exact ih0 _ _ _ _)
   | (with_reducible exact LeO.refl _)
   | (with_reducible exact LeO.none _)
   | (with_reducible refine LeO.ite ?_ ?_)
   | (with_reducible refine LeO.bind ?_ (fun _=>?_))
   | exact ih0 _ _ _ _
   | exact LeO.none _
   | refine LeO.ite ?_ ?_
   | refine LeO.bind ?_ (fun _=>?_)
theorem impl_choose.mono:∀ a0 a1 k,LeO (impl_choose.f k a0 a1) (impl_choose.f (k+1) a0 a1):=by
 intro a0 a1 k
 have ih0:=impl_choose.mono_l k
 unfold impl_choose.f
 repeat' first
   | (with_reducible exact ih0 _ _ _ _)
   | (with_reducible exact LeO.refl _)
   | (with_reducible exact LeO.none _)
   | (with_reducible refine LeO.ite ?_ ?_)
   | (with_reducible refine LeO.bind ?_ (fun _=>?_))
   | exact ih0 _ _ _ _
   | exact LeO.none _
   | refine LeO.ite ?_ ?_
   | refine LeO.bind ?_ (fun _=>?_)
set_option maxHeartbeats 8000000 in
set_option maxRecDepth 100000 in
theorem impl_choose.calls (k:Nat) (a0:Int) (a1:Int) (r:Int) (w:World) (h:impl_choose.f k a0 a1=some r) :
  Calls Try.prog 50 #[.int .i64 a0,.int .i64 a1] w fun e w'=>e=.returned (.int .i64 r)∧Drawn0 w w':=by
 have H:((impl_within.f a1 0 a0).bind fun t209=>(if t209=true then (impl_choose.l0 k a0 1 a1 0) else (some 0)))=some r:=h
 clear h
 replace H:=zz30.mp H
 obtain ⟨t209,A30,H⟩:=H
 replace H:(if t209=true then (impl_choose.l0 k a0 1 a1 0) else (some 0))=some r:=H
 have A3:=zz31 A30
 clear A30
 by_cases c4:t209=true
 ·subst c4
  have H1:(impl_choose.l0 k a0 1 a1 0)=some r:=by rw [if_pos rfl] at H;exact H
  clear H
  have H:=H1
  clear H1
  have H':=zz31 H
  clear H
  go_enter Try.func50,Try.ntmps50
  go_wp2_with (first | ((with_reducible refine gate_callee (f:=83) rfl ?_);refine goesL_ (some 9) rfl rfl Try.func83 (by kernel_rfl) rfl #[.int .i64 a1,.int .i64 0,.int .i64 a0] rfl (by (try simp only [zz26,zz27,zz28]);first | done | rfl | (simp only [zz24,zz25];rfl)) ?_;(with_reducible refine (impl_within.calls a1 0 a0 true _ A3.out).mono ?_);rintro e w' ⟨rfl,⟨nd,rfl⟩⟩;refine ⟨_,rfl,?_⟩))
  go_loopg [5,12] k (fun kq v5 v12 w'=>∃ (x5_1:Int) (x12_1:Int),v5=.int .i64 x5_1∧v12=.int .i64 x12_1∧Aside0 (impl_choose.l0 kq a0 x5_1 a1 x12_1=some r)∧Aside0 (kq≤k)∧Drawn0 w w')
  case atStart=>exact ⟨(1),(0),(by first | rfl | (simp;done) | (simp [*];done)),(by first | rfl | (simp;done) | (simp [*];done)),H',⟨Nat.le_refl _⟩,by repeat (first | exact Drawn0.refl _ | apply Drawn0.step)⟩
  case round =>
   clear H'
   try clear p2
   try clear c4
   obtain ⟨x5_1,x12_1,rfl,rfl,HA,HK1,⟨m1,rfl⟩⟩:=hrel
   cases gk with
   | zero=>exact absurd HA.out (by simp [impl_choose.l0])
   | succ k1 =>
    have H:=HA.out
    clear HA
    simp only [impl_choose.l0] at H
    by_cases c5:x12_1 < a1
    ·rw [if_pos c5] at H
     have c5b0:decide (x12_1 < a1)=true:=decide_eq_true c5
     clear c5
     by_cases c6:(wrap64 (x12_1+1))=0
     ·rw [if_pos c6] at H
      exact absurd H (by simp)
     ·rw [if_neg c6] at H
      have c6b0:((wrap64 (x12_1+1)) == 0)=false:=beq_eq_false_iff_ne.mpr c6
      have c6b1:((wrap64 (x12_1+1)) != 0)=true:=bne_iff_ne.mpr c6
      have H':=zz31 H
      clear H
      go_wp2
      go_roundg k1
      case measure=>have:=HK1.out;omega
      case rel=>exact ⟨(wrap64 (Int.tdiv (wrap64 (x5_1 * (wrap64 (a0 - x12_1)))) (wrap64 (x12_1+1)))),(wrap64 (x12_1+1)),(by first | rfl | (simp;done) | (simp [*];done)),(by first | rfl | (simp;done) | (simp [*];done)),H',⟨by have:=HK1.out;omega⟩,by repeat (first | exact Drawn0.refl _ | apply Drawn0.step)⟩
    ·rw [if_neg c5] at H
     have c5b0:decide (x12_1 < a1)=false:=decide_eq_false c5
     clear c5
     obtain rfl:=Option.some.inj H
     go_wp2
     go_ret
     exact ⟨by first | rfl | (simp;done) | (simp [*];done),by repeat (first | exact Drawn0.refl _ | apply Drawn0.step)⟩
 ·replace c4:=Bool.eq_false_iff.mpr c4
  subst c4
  have H1:(some 0)=some r:=by rw [if_neg (show ¬ (false=true) by decide)] at H;exact H
  clear H
  have H:=H1
  clear H1
  obtain rfl:=Option.some.inj H
  go_enter Try.func50,Try.ntmps50
  go_wp2_with (first | ((with_reducible refine gate_callee (f:=83) rfl ?_);refine goesL_ (some 9) rfl rfl Try.func83 (by kernel_rfl) rfl #[.int .i64 a1,.int .i64 0,.int .i64 a0] rfl (by (try simp only [zz26,zz27,zz28]);first | done | rfl | (simp only [zz24,zz25];rfl)) ?_;(with_reducible refine (impl_within.calls a1 0 a0 false _ A3.out).mono ?_);rintro e w' ⟨rfl,⟨nd,rfl⟩⟩;refine ⟨_,rfl,?_⟩))
  go_ret
  exact ⟨by first | rfl | (simp;done) | (simp [*];done),by repeat (first | exact Drawn0.refl _ | apply Drawn0.step)⟩

/-! ### impl_CountThrees: function 15 (a contract of our own) -/
def hasQ (t:List Int) (a b:Nat):Bool:=(Go.bits .and .u16 (shr .u16 (rd t (a:Int)) (b:Int)) 1) == 1
theorem hasQ_f (t:List Int) (a b:Nat) (ha:a < t.length):impl_table_has.f t (a:Int) (b:Int)=some (hasQ t a b):=by
 unfold impl_table_has.f
 rw [if_pos (by omega),if_pos (by omega),if_pos (by omega)]
 rfl
def lenQ (t:List Int):Int:=((tA (hasQ t) t.length t.length).length:Int)
def impl_CountThrees.f (k:Nat) (a0_0:Int) (l0_1:List (S80)):Option (Int × Int × Int × Bool) :=
 (impl_IsParty.f k a0_0 l0_1).bind fun ok=>if ok=true then (impl_Party_table.f k a0_0 l0_1).bind fun t=>(impl_table_others.f k t).bind fun u=>if a0_0=(t.length:Int)∧u.length=t.length∧t.length≤12 then (impl_choose.f k a0_0 3).bind fun c=>some (lenQ t,lenQ u,wrap64 (wrap64 (c - lenQ t) - lenQ u),true) else none else some (0,0,0,false)
theorem impl_CountThrees.mono:∀ a0 a1 k,LeO (impl_CountThrees.f k a0 a1) (impl_CountThrees.f (k+1) a0 a1):=by
 intro a0 a1 k
 unfold impl_CountThrees.f
 refine LeO.bind (impl_IsParty.mono _ _ _) fun ok=>LeO.ite (LeO.bind (impl_Party_table.mono _ _ _) fun t=>LeO.bind (impl_table_others.mono _ _) fun u=>LeO.ite (LeO.bind (impl_choose.mono _ _ _) fun c=>LeO.refl _) (LeO.none _)) (LeO.refl _)
theorem results_tmp4 {fn:Func} {t u v x:Tmp} (h:fn.results=#[.tmp t,.tmp u,.tmp v,.tmp x]) (tmps:Array Value) (P:Program) (w:World):(results fn tmps).run P w=.ok (.tuple #[tmps.getD t undef,tmps.getD u undef,tmps.getD v undef,tmps.getD x undef]) w:=by
 simp [results,h]
set_option maxHeartbeats 4000000 in
set_option maxRecDepth 100000 in
theorem impl_CountThrees.calls (k:Nat) (a0_0:Int) (A0_1:Option Addr) (c0_1:Nat) (l0_1:List (S80)) (r1 r2 r3:Int) (r4:Bool) (w:World) (hr0_1:Kd.C k80 w A0_1 l0_1.length l0_1) (hc0_1:l0_1.length≤c0_1) (h:impl_CountThrees.f k a0_0 l0_1=some (r1,r2,r3,r4)) :
  Calls Try.prog 15 #[.agg #[.int .i64 a0_0,.slice A0_1 l0_1.length c0_1]] w fun e w'=>e=.returned (.tuple #[.int .i64 r1,.int .i64 r2,.int .i64 r3,.bool r4])∧Below w.heap.size w w':=by
 have hu:=Try.underlying30
 unfold impl_CountThrees.f at h
 obtain ⟨ok,hok,h⟩:=zz30.1 h
 have HOK:=zz31 hok
 have HC:=zz31 hr0_1
 have HCC:=zz31 hc0_1
 clear hok hr0_1 hc0_1
 have HC1:=zz31 (zz18 HC.out (.cells #[.int .i64 a0_0,.slice A0_1 l0_1.length c0_1] 30))
 have HB1:Aside0 (Below w.heap.size w (w.alloc (.cells #[.int .i64 a0_0,.slice A0_1 l0_1.length c0_1] 30))):=⟨zz2 (Below.refl _ _) _⟩
 have HX1:=zz31 (blk_new w (.cells #[.int .i64 a0_0,.slice A0_1 l0_1.length c0_1] 30))
 cases ok with
 | false =>
  rw [if_neg (by simp)] at h
  simp only [Option.some.injEq,Prod.mk.injEq] at h
  obtain ⟨rfl,rfl,rfl,rfl⟩:=h
  go_enter Try.func15,Try.ntmps15
  go_wp2_with (go_at_call 45;refine (impl_IsParty.calls k a0_0 A0_1 c0_1 l0_1 false _ HC1.out HCC.out HOK.out).mono ?_;rintro e w3 ⟨rfl,hb⟩;have HB3:=zz31 (zz4 HB1.out hb);clear hb)
  refine bodyPost_ret (results_tmp4 rfl _ _ _) rfl ?_
  exact ⟨rfl,HB3.out⟩
 | true =>
  rw [if_pos rfl] at h
  obtain ⟨t,ht,h⟩:=zz30.1 h
  obtain ⟨u,hu2,h⟩:=zz30.1 h
  split at h
  case isFalse=>simp at h
  rename_i hcond
  obtain ⟨q1,q2,q3⟩:=hcond
  obtain ⟨cc,hcc,h⟩:=zz30.1 h
  simp only [Option.some.injEq,Prod.mk.injEq] at h
  obtain ⟨e1,e2,e3,rfl⟩:=h
  subst q1
  have HT:=zz31 ht
  have HU:=zz31 hu2
  have HCH:=zz31 hcc
  have HE1:=zz31 e1
  have HE2:=zz31 e2
  have HE3:=zz31 e3
  have HQ2:=zz31 q2
  have HQ3:=zz31 q3
  clear ht hu2 hcc e1 e2 e3 q2 q3
  go_enter Try.func15,Try.ntmps15
  go_wp2_with (go_at_call 45;refine (impl_IsParty.calls k (t.length:Int) A0_1 c0_1 l0_1 true _ HC1.out HCC.out HOK.out).mono ?_;rintro e w3 ⟨rfl,hb⟩;have HB3:=zz31 (zz4 HB1.out hb);have HX3:=zz31 (zz11 HX1.out hb);have HC3:=zz31 (Kd.C_below HC1.out hb);have hc0:w3.cell? ⟨w.heap.size,0,none⟩=some (.int .i64 (t.length:Int)):=zz9 HX3.out 0;have hc1:w3.cell? ⟨w.heap.size,1,none⟩=some (.slice A0_1 l0_1.length c0_1):=zz9 HX3.out 1;clear hb)
  go_wp2_with (go_at_call 46;refine (impl_Party_table.calls k (t.length:Int) A0_1 c0_1 l0_1 t _ HC3.out HCC.out HT.out).mono ?_;rintro e w4 ⟨vt,rfl,ho,hb⟩;obtain ⟨At,ct,rfl⟩:=Kd.R_slice ho;have HB4:=zz31 (zz4 HB3.out hb);have HX4:=zz31 (zz11 HX3.out hb);have HR4:=zz31 (Kd.R_reads' ho);have hd0:w4.cell? ⟨w.heap.size,0,none⟩=some (.int .i64 (t.length:Int)):=zz9 HX4.out 0;clear ho hb)
  have HH1:=zz31 (fun (a b:Nat) (ha:a < t.length) (_:b < t.length)=>hasQ_f t a b ha)
  have HH2:=zz31 (fun (a b:Nat) (ha:a < t.length) (_:b < t.length)=>hasQ_f u a b (by rw [HQ2.out];exact ha))
  have HBK:=zz31 (blk_lt HX4.out)
  go_region_held3 (fun w' => w'.cell? ⟨w.heap.size, 0, none⟩ = some (.int .i64 (t.length : Int))) (first | go_keep | exact (HB47.out.cell (p := ⟨w.heap.size, 0, none⟩) HBK.out).trans hd0 | exact (HB46.out.cell (p := ⟨w.heap.size, 0, none⟩) HBK.out).trans hd0 | exact (HB45.out.cell (p := ⟨w.heap.size, 0, none⟩) HBK.out).trans hd0) (first | (go_at_call 47; (with_reducible refine (threes_calls (hasQ t) t.length HQ3.out t rfl At ct HR4.out.2.1 _ ?_ HH1.out).mono ?_); (repeat (first | (with_reducible exact HR4.out.2.2) | (with_reducible exact Kd.C_below HR4.out.2.2 HB45.out) | (with_reducible exact HRu.out.2.2) | (with_reducible refine zz19 ?_ _) | (with_reducible refine zz20 ?_))); rintro e w5 ⟨v5, rfl, hS5, hb5⟩; obtain ⟨A5, c5, rfl⟩ := Kd.S_slice hS5; have HB45 := zz31 (zz4 (w := w4) (by repeat (first | exact Below.refl _ _ | apply zz0 | apply below_drew)) hb5); clear hS5 hb5) | (go_at_call 49; (with_reducible refine (impl_table_others.calls k At ct t u _ ?_ HR4.out.2.1 HU.out).mono ?_); (repeat (first | (with_reducible exact HR4.out.2.2) | (with_reducible exact Kd.C_below HR4.out.2.2 HB45.out) | (with_reducible exact HRu.out.2.2) | (with_reducible refine zz19 ?_ _) | (with_reducible refine zz20 ?_))); rintro e w6 ⟨vu, rfl, ho6, hb6⟩; obtain ⟨Au, cu, rfl⟩ := Kd.R_slice ho6; have HRu := zz31 (Kd.R_reads' ho6); have HB46 := zz31 (zz4 (w := w4) (by repeat (first | exact HB45.out | apply zz0 | apply below_drew)) hb6); clear ho6 hb6) | (go_at_call 47; (with_reducible refine (threes_calls (hasQ u) t.length HQ3.out u HQ2.out Au cu HRu.out.2.1 _ ?_ HH2.out).mono ?_); (repeat (first | (with_reducible exact HR4.out.2.2) | (with_reducible exact Kd.C_below HR4.out.2.2 HB45.out) | (with_reducible exact HRu.out.2.2) | (with_reducible refine zz19 ?_ _) | (with_reducible refine zz20 ?_))); rintro e w7 ⟨v7, rfl, hS7, hb7⟩; obtain ⟨A7, c7, rfl⟩ := Kd.S_slice hS7; have HB47 := zz31 (zz4 (w := w4) (by repeat (first | exact HB46.out | apply zz0 | apply below_drew)) hb7); clear hS7 hb7) | (fail "no arm"))
  all_goals (go_wp2_with (go_at_call 50;(with_reducible refine (impl_choose.calls k (t.length:Int) 3 cc _ HCH.out).mono ?_);rintro e w8 ⟨rfl,hd⟩;obtain ⟨q8,hq8⟩:=hd.out;subst hq8;clear hd))
  refine bodyPost_ret (results_tmp4 rfl _ _ _) rfl ?_
  refine ⟨?_,?_⟩
  ·rw [← HE1.out,← HE2.out,← HE3.out]
   unfold lenQ
   rw [HQ2.out]
   simp [i64_w]
  ·repeat first | exact (HB4.out.trans (HB47.out.mono HB4.out.size)) | apply zz0 | apply below_drew

/-! ### laws_FnExactCountThrees: function 3 -/
def laws_FnExactCountThrees.j0:Nat→Bool→Int→List (S94)→Int→List (S80)→Option (Bool)
 | 0,_,_,_,_,_=>none
 | k+1,x52,x219000,x219001,x233000,x233001=>if x52=true then (some false) else ((laws_toParty.f k x219000 x219001).bind fun bt237=>((laws_eqParty.f k x233000 x233001 bt237.1 bt237.2).bind fun t241=>(if t241=true then (some true) else (some false))))
def laws_FnExactCountThrees.f (k:Nat) (a0_0:Int) (l0_1:List (S94)):Option (Bool):=(laws_szParty.f a0_0 l0_1 1048576).bind fun t219=>(if t219 < 0 then (some true) else ((laws_toParty.f k a0_0 l0_1).bind fun bt220=>((spec_CountThrees.f k bt220.1 bt220.2).bind fun bt224=>((laws_toParty.f k a0_0 l0_1).bind fun bt228=>((impl_CountThrees.f k bt228.1 bt228.2).bind fun bt233=>(if bt233.1=bt224.1 then (if bt233.2.1=bt224.2.1 then (if bt233.2.2.1=bt224.2.2.1 then (laws_FnExactCountThrees.j0 k (bt233.2.2.2 != bt224.2.2.2) a0_0 l0_1 bt228.1 bt228.2) else (laws_FnExactCountThrees.j0 k true a0_0 l0_1 bt228.1 bt228.2)) else (laws_FnExactCountThrees.j0 k true a0_0 l0_1 bt228.1 bt228.2)) else (laws_FnExactCountThrees.j0 k true a0_0 l0_1 bt228.1 bt228.2)))))))
theorem laws_FnExactCountThrees.mono_l:∀ k,(∀ y0 y1 y2 y3 y4,LeO (laws_FnExactCountThrees.j0 k y0 y1 y2 y3 y4) (laws_FnExactCountThrees.j0 (k+1) y0 y1 y2 y3 y4))
 | 0=>fun _ _ _ _ _ r h=>by simp [laws_FnExactCountThrees.j0] at h
 | k+1=>by
  have ih0:=laws_FnExactCountThrees.mono_l k
  ·intro y0 y1 y2 y3 y4
   unfold laws_FnExactCountThrees.j0
   repeat' first
   | (with_reducible exact ih0 _ _ _ _ _)
   | (with_reducible exact impl_CountThrees.mono _ _ _)
   | (with_reducible exact laws_eqParty.mono _ _ _ _ _)
   | (with_reducible exact laws_toParty.mono _ _ _)
   | (with_reducible exact spec_CountThrees.mono _ _ _)
   | (with_reducible exact LeO.refl _)
   | (with_reducible exact LeO.none _)
   | (with_reducible refine LeO.ite ?_ ?_)
   | (with_reducible refine LeO.bind ?_ (fun _=>?_))
   | exact ih0 _ _ _ _ _
   | exact impl_CountThrees.mono _ _ _
   | exact laws_eqParty.mono _ _ _ _ _
   | exact laws_toParty.mono _ _ _
   | exact spec_CountThrees.mono _ _ _
   | exact LeO.none _
   | refine LeO.ite ?_ ?_
   | refine LeO.bind ?_ (fun _=>?_)
theorem laws_FnExactCountThrees.mono:∀ a0 a1 k,LeO (laws_FnExactCountThrees.f k a0 a1) (laws_FnExactCountThrees.f (k+1) a0 a1):=by
 intro a0 a1 k
 have ih0:=laws_FnExactCountThrees.mono_l k
 unfold laws_FnExactCountThrees.f
 repeat' first
   | (with_reducible exact ih0 _ _ _ _ _)
   | (with_reducible exact impl_CountThrees.mono _ _ _)
   | (with_reducible exact laws_eqParty.mono _ _ _ _ _)
   | (with_reducible exact laws_toParty.mono _ _ _)
   | (with_reducible exact spec_CountThrees.mono _ _ _)
   | (with_reducible exact LeO.refl _)
   | (with_reducible exact LeO.none _)
   | (with_reducible refine LeO.ite ?_ ?_)
   | (with_reducible refine LeO.bind ?_ (fun _=>?_))
   | exact ih0 _ _ _ _ _
   | exact impl_CountThrees.mono _ _ _
   | exact laws_eqParty.mono _ _ _ _ _
   | exact laws_toParty.mono _ _ _
   | exact spec_CountThrees.mono _ _ _
   | exact LeO.none _
   | refine LeO.ite ?_ ?_
   | refine LeO.bind ?_ (fun _=>?_)
set_option maxHeartbeats 8000000 in
set_option maxRecDepth 100000 in
theorem laws_FnExactCountThrees.calls (k:Nat) (a0_0:Int) (A0_1:Option Addr) (c0_1:Nat) (l0_1:List (S94)) (r:Bool) (w:World) (hr0_1:Kd.C k94 w A0_1 l0_1.length l0_1) (hc0_1:l0_1.length≤c0_1) (h:laws_FnExactCountThrees.f k a0_0 l0_1=some r) :
  Calls Try.prog 3 #[.agg #[.int .i64 a0_0,.slice A0_1 l0_1.length c0_1]] w fun e w'=>e=.returned (.bool r)∧Below w.heap.size w w':=by
 have hu24:=Try.underlying24
 have hu30:=Try.underlying30
 have HR0_1:=zz31 hr0_1
 have HC0_1:=zz31 hc0_1
 clear hr0_1 hc0_1
 have HB:=zz31 (Below.refl w.heap.size w)
 have H:((laws_szParty.f a0_0 l0_1 1048576).bind fun t219=>(if t219 < 0 then (some true) else ((laws_toParty.f k a0_0 l0_1).bind fun bt220=>((spec_CountThrees.f k bt220.1 bt220.2).bind fun bt224=>((laws_toParty.f k a0_0 l0_1).bind fun bt228=>((impl_CountThrees.f k bt228.1 bt228.2).bind fun bt233=>(if bt233.1=bt224.1 then (if bt233.2.1=bt224.2.1 then (if bt233.2.2.1=bt224.2.2.1 then (laws_FnExactCountThrees.j0 k (bt233.2.2.2 != bt224.2.2.2) a0_0 l0_1 bt228.1 bt228.2) else (laws_FnExactCountThrees.j0 k true a0_0 l0_1 bt228.1 bt228.2)) else (laws_FnExactCountThrees.j0 k true a0_0 l0_1 bt228.1 bt228.2)) else (laws_FnExactCountThrees.j0 k true a0_0 l0_1 bt228.1 bt228.2))))))))=some r:=h
 clear h
 replace H:=zz30.mp H
 obtain ⟨t219,A20,H⟩:=H
 replace H:(if t219 < 0 then (some true) else ((laws_toParty.f k a0_0 l0_1).bind fun bt220=>((spec_CountThrees.f k bt220.1 bt220.2).bind fun bt224=>((laws_toParty.f k a0_0 l0_1).bind fun bt228=>((impl_CountThrees.f k bt228.1 bt228.2).bind fun bt233=>(if bt233.1=bt224.1 then (if bt233.2.1=bt224.2.1 then (if bt233.2.2.1=bt224.2.2.1 then (laws_FnExactCountThrees.j0 k (bt233.2.2.2 != bt224.2.2.2) a0_0 l0_1 bt228.1 bt228.2) else (laws_FnExactCountThrees.j0 k true a0_0 l0_1 bt228.1 bt228.2)) else (laws_FnExactCountThrees.j0 k true a0_0 l0_1 bt228.1 bt228.2)) else (laws_FnExactCountThrees.j0 k true a0_0 l0_1 bt228.1 bt228.2)))))))=some r:=H
 have A2:=zz31 A20
 clear A20
 by_cases c3:t219 < 0
 ·rw [if_pos c3] at H
  have c3b0:decide (t219 < 0)=true:=decide_eq_true c3
  clear c3
  obtain rfl:=Option.some.inj H
  go_enter Try.func3,Try.ntmps3
  go_wp2_with (first | ((with_reducible refine gate_dst (N:=1) rfl ?_);refine box_event ?hg (N:=1) ?hd (cs:=#[.int .i64 a0_0,.slice A0_1 l0_1.length c0_1]) (t:=24) ?hr ?_;(case hd=>rfl);(case hg=>rfl);(case hr=>first | (go_simp;done) | (go_simp;rfl));intro gb218 hg w4 hbox hb;have n0_:=zz31 (zz4 (by repeat first | exact HB.out | apply zz2 | apply zz0 | apply zz1) hb);have n1_:=zz31 (hbox);have n2_:=zz31 ((by rw [hg];exact (zz5 (by repeat first | exact HB.out | apply zz2 | apply zz0 | apply zz1)):w.heap.size≤gb218));have n3_:=zz31 ((by rw [hg];exact (zz5 (by repeat first | exact HB.out | apply zz2 | apply zz0 | apply zz1)):w.heap.size≤gb218));clear HB;have HB:=n0_;have BK218:=n1_;have GW218:=n2_;have GE218:=n3_;clear n0_ n1_ n2_ n3_;clear hb hbox hg;have hcz5_0:w4.cell? ⟨gb218,0,none⟩=some (.int .i64 a0_0):=(zz9 BK218.out 0).trans rfl;have hcz5_1:w4.cell? ⟨gb218,1,none⟩=some (.slice A0_1 l0_1.length c0_1):=(zz9 BK218.out 1).trans rfl;have hfz5_0:=zz10 BK218.out 0;have hfz5_1:=zz10 BK218.out 1) | ((with_reducible refine gate_callee (f:=12) rfl ?_);refine goesL_ (some 15) rfl rfl Try.func12 (by kernel_rfl) rfl #[.agg #[.int .i64 a0_0,.slice A0_1 l0_1.length c0_1],.int .i64 1048576] rfl (by (try simp only [zz26,zz27,zz28]);first | done | rfl | (simp only [zz24,zz25];rfl)) ?_;(with_reducible refine (laws_szParty.calls a0_0 _ _ l0_1 1048576 t219 _ ?side1 ?side2 A2.out).mono ?_);(case side1=>repeat (first | exact (Kd.C_below HR0_1.out HB.out) | (with_reducible refine zz18 ?_ _) | (with_reducible refine zz19 ?_ _) | (with_reducible refine zz20 ?_)));(case side2=>exact HC0_1.out);rintro e w6 ⟨rfl,hb⟩;refine ⟨_,rfl,?_⟩;have n0_:=zz31 (zz11 (g:=gb218) (o:=.cells #[.int .i64 a0_0,.slice A0_1 l0_1.length c0_1] 24 (0,0)) (by (with_reducible repeat (first | refine zz6 ?_ _ | refine zz7 ?_ | refine zz8 ?_ _));exact BK218.out) hb);have n1_:=zz31 (zz4 (by repeat first | exact HB.out | apply zz2 | apply zz0 | apply zz1 | refine zz3 ?_ GE218.out) hb);clear BK218;clear HB;have BK218:=n0_;have HB:=n1_;clear n0_ n1_;(try clear hb);(try clear hb2);(try clear hk);(try clear hi)))
  go_ret
  exact ⟨by first | rfl | (simp [errW_none,errW_some] <;> rfl) | (simp [*,errW_none,errW_some] <;> rfl),by repeat first | exact HB.out | apply zz2 | apply zz0 | apply zz1 | refine zz3 ?_ GE218.out⟩
 ·rw [if_neg c3] at H
  have c3b0:decide (t219 < 0)=false:=decide_eq_false c3
  clear c3
  replace H:=zz30.mp H
  obtain ⟨⟨t220,t221⟩,A70,H⟩:=H
  replace H:((spec_CountThrees.f k t220 t221).bind fun bt224=>((laws_toParty.f k a0_0 l0_1).bind fun bt228=>((impl_CountThrees.f k bt228.1 bt228.2).bind fun bt233=>(if bt233.1=bt224.1 then (if bt233.2.1=bt224.2.1 then (if bt233.2.2.1=bt224.2.2.1 then (laws_FnExactCountThrees.j0 k (bt233.2.2.2 != bt224.2.2.2) a0_0 l0_1 bt228.1 bt228.2) else (laws_FnExactCountThrees.j0 k true a0_0 l0_1 bt228.1 bt228.2)) else (laws_FnExactCountThrees.j0 k true a0_0 l0_1 bt228.1 bt228.2)) else (laws_FnExactCountThrees.j0 k true a0_0 l0_1 bt228.1 bt228.2)))))=some r:=H
  have A7:=zz31 A70
  clear A70
  replace H:=zz30.mp H
  obtain ⟨⟨t224,t225,t226,t227⟩,A80,H⟩:=H
  replace H:((laws_toParty.f k a0_0 l0_1).bind fun bt228=>((impl_CountThrees.f k bt228.1 bt228.2).bind fun bt233=>(if bt233.1=t224 then (if bt233.2.1=t225 then (if bt233.2.2.1=t226 then (laws_FnExactCountThrees.j0 k (bt233.2.2.2 != t227) a0_0 l0_1 bt228.1 bt228.2) else (laws_FnExactCountThrees.j0 k true a0_0 l0_1 bt228.1 bt228.2)) else (laws_FnExactCountThrees.j0 k true a0_0 l0_1 bt228.1 bt228.2)) else (laws_FnExactCountThrees.j0 k true a0_0 l0_1 bt228.1 bt228.2))))=some r:=H
  have A8:=zz31 A80
  clear A80
  replace H:=zz30.mp H
  obtain ⟨⟨t228,t229⟩,A90,H⟩:=H
  replace H:((impl_CountThrees.f k t228 t229).bind fun bt233=>(if bt233.1=t224 then (if bt233.2.1=t225 then (if bt233.2.2.1=t226 then (laws_FnExactCountThrees.j0 k (bt233.2.2.2 != t227) a0_0 l0_1 t228 t229) else (laws_FnExactCountThrees.j0 k true a0_0 l0_1 t228 t229)) else (laws_FnExactCountThrees.j0 k true a0_0 l0_1 t228 t229)) else (laws_FnExactCountThrees.j0 k true a0_0 l0_1 t228 t229)))=some r:=H
  have A9:=zz31 A90
  clear A90
  replace H:=zz30.mp H
  obtain ⟨⟨t233,t234,t235,t236⟩,A100,H⟩:=H
  replace H:(if t233=t224 then (if t234=t225 then (if t235=t226 then (laws_FnExactCountThrees.j0 k (t236 != t227) a0_0 l0_1 t228 t229) else (laws_FnExactCountThrees.j0 k true a0_0 l0_1 t228 t229)) else (laws_FnExactCountThrees.j0 k true a0_0 l0_1 t228 t229)) else (laws_FnExactCountThrees.j0 k true a0_0 l0_1 t228 t229))=some r:=H
  have A10:=zz31 A100
  clear A100
  have HC11:=zz31 H
  clear H
  go_enter Try.func3,Try.ntmps3
  go_upto_region 8 with (first | ((with_reducible refine gate_dst (N:=1) rfl ?_);refine box_event ?hg (N:=1) ?hd (cs:=#[.int .i64 a0_0,.slice A0_1 l0_1.length c0_1]) (t:=24) ?hr ?_;(case hd=>rfl);(case hg=>rfl);(case hr=>first | (go_simp;done) | (go_simp;rfl));intro gb218 hg w12 hbox hb;have n0_:=zz31 (zz4 (by repeat first | exact HB.out | apply zz2 | apply zz0 | apply zz1) hb);have n1_:=zz31 (hbox);have n2_:=zz31 ((by rw [hg];exact (zz5 (by repeat first | exact HB.out | apply zz2 | apply zz0 | apply zz1)):w.heap.size≤gb218));have n3_:=zz31 ((by rw [hg];exact (zz5 (by repeat first | exact HB.out | apply zz2 | apply zz0 | apply zz1)):w.heap.size≤gb218));clear HB;have HB:=n0_;have BK218:=n1_;have GW218:=n2_;have GE218:=n3_;clear n0_ n1_ n2_ n3_;clear hb hbox hg;have hcz13_0:w12.cell? ⟨gb218,0,none⟩=some (.int .i64 a0_0):=(zz9 BK218.out 0).trans rfl;have hcz13_1:w12.cell? ⟨gb218,1,none⟩=some (.slice A0_1 l0_1.length c0_1):=(zz9 BK218.out 1).trans rfl;have hfz13_0:=zz10 BK218.out 0;have hfz13_1:=zz10 BK218.out 1) | ((with_reducible refine gate_callee (f:=12) rfl ?_);refine goesL_ (some 15) rfl rfl Try.func12 (by kernel_rfl) rfl #[.agg #[.int .i64 a0_0,.slice A0_1 l0_1.length c0_1],.int .i64 1048576] rfl (by (try simp only [zz26,zz27,zz28]);first | done | rfl | (simp only [zz24,zz25];rfl)) ?_;(with_reducible refine (laws_szParty.calls a0_0 _ _ l0_1 1048576 t219 _ ?side1 ?side2 A2.out).mono ?_);(case side1=>repeat (first | exact (Kd.C_below HR0_1.out HB.out) | (with_reducible refine zz18 ?_ _) | (with_reducible refine zz19 ?_ _) | (with_reducible refine zz20 ?_)));(case side2=>exact HC0_1.out);rintro e w14 ⟨rfl,hb⟩;refine ⟨_,rfl,?_⟩;have n0_:=zz31 (zz11 (g:=gb218) (o:=.cells #[.int .i64 a0_0,.slice A0_1 l0_1.length c0_1] 24 (0,0)) (by (with_reducible repeat (first | refine zz6 ?_ _ | refine zz7 ?_ | refine zz8 ?_ _));exact BK218.out) hb);have n1_:=zz31 (zz4 (by repeat first | exact HB.out | apply zz2 | apply zz0 | apply zz1 | refine zz3 ?_ GE218.out) hb);clear BK218;clear HB;have BK218:=n0_;have HB:=n1_;clear n0_ n1_;(try clear hb);(try clear hb2);(try clear hk);(try clear hi);have hcz15_0:w14.cell? ⟨gb218,0,none⟩=some (.int .i64 a0_0):=(zz9 BK218.out 0).trans rfl;have hcz15_1:w14.cell? ⟨gb218,1,none⟩=some (.slice A0_1 l0_1.length c0_1):=(zz9 BK218.out 1).trans rfl;have hfz15_0:=zz10 BK218.out 0;have hfz15_1:=zz10 BK218.out 1) | ((with_reducible refine gate_callee (f:=14) rfl ?_);refine goesL_ (some 20) rfl rfl Try.func14 (by kernel_rfl) rfl #[.agg #[.int .i64 a0_0,.slice A0_1 l0_1.length c0_1]] rfl (by (try simp only [zz26,zz27,zz28]);first | done | rfl | (simp only [zz24,zz25];rfl)) ?_;(with_reducible refine (laws_toParty.calls k a0_0 _ _ l0_1 t220 t221 _ ?side1 ?side2 A7.out).mono ?_);(case side1=>repeat (first | exact (Kd.C_below HR0_1.out HB.out) | (with_reducible refine zz18 ?_ _) | (with_reducible refine zz19 ?_ _) | (with_reducible refine zz20 ?_)));(case side2=>exact HC0_1.out);rintro e w16 ⟨v222,rfl,ho0,hb⟩;refine ⟨_,rfl,?_⟩;have n0_:=zz31 (Kd.R_lower ho0 (zz5 (by repeat first | exact HB.out | apply zz2 | apply zz0 | apply zz1 | refine zz3 ?_ GE218.out)));have n1_:=zz31 (zz11 (g:=gb218) (o:=.cells #[.int .i64 a0_0,.slice A0_1 l0_1.length c0_1] 24 (0,0)) (by (with_reducible repeat (first | refine zz6 ?_ _ | refine zz7 ?_ | refine zz8 ?_ _));exact BK218.out) hb);have n2_:=zz31 (zz4 (by repeat first | exact HB.out | apply zz2 | apply zz0 | apply zz1 | refine zz3 ?_ GE218.out) hb);clear BK218;clear HB;have HO223:=n0_;have BK218:=n1_;have HB:=n2_;clear n0_ n1_ n2_;(try clear hb);(try clear hb2);(try clear hk);(try clear hi);(try clear ho0);obtain ⟨Ao17,co17,eo17⟩:=Kd.R_slice HO223.out;subst eo17) | ((with_reducible refine gate_callee (f:=13) rfl ?_);refine goesL_ (some 21) rfl rfl Try.func13 (by kernel_rfl) rfl #[.agg #[.int .i64 t220,.slice Ao17 t221.length co17]] rfl (by (try simp only [zz26,zz27,zz28]);first | done | rfl | (simp only [zz24,zz25];rfl)) ?_;(with_reducible refine (spec_CountThrees.calls k t220 _ _ t221 t224 t225 t226 t227 _ ?side1 ?side2 A8.out).mono ?_);(case side1=>repeat (first | exact (Kd.R_reads' HO223.out).2.2 | (with_reducible refine zz18 ?_ _) | (with_reducible refine zz19 ?_ _) | (with_reducible refine zz20 ?_)));(case side2=>exact (Kd.R_reads' HO223.out).2.1);rintro e w18 ⟨rfl,hb⟩;refine ⟨_,rfl,?_⟩;have n0_:=zz31 (Kd.R_below (by (with_reducible repeat (first | apply zz12 | apply zz13 | apply zz14));exact HO223.out) hb);have n1_:=zz31 (zz11 (g:=gb218) (o:=.cells #[.int .i64 a0_0,.slice A0_1 l0_1.length c0_1] 24 (0,0)) (by (with_reducible repeat (first | refine zz6 ?_ _ | refine zz7 ?_ | refine zz8 ?_ _));exact BK218.out) hb);have n2_:=zz31 (zz4 (by repeat first | exact HB.out | apply zz2 | apply zz0 | apply zz1 | refine zz3 ?_ GE218.out) hb);clear HO223;clear BK218;clear HB;have HO223:=n0_;have BK218:=n1_;have HB:=n2_;clear n0_ n1_ n2_;(try clear hb);(try clear hb2);(try clear hk);(try clear hi);have hcz19_0:w18.cell? ⟨gb218,0,none⟩=some (.int .i64 a0_0):=(zz9 BK218.out 0).trans rfl;have hcz19_1:w18.cell? ⟨gb218,1,none⟩=some (.slice A0_1 l0_1.length c0_1):=(zz9 BK218.out 1).trans rfl;have hfz19_0:=zz10 BK218.out 0;have hfz19_1:=zz10 BK218.out 1) | ((with_reducible refine gate_callee (f:=14) rfl ?_);refine goesL_ (some 27) rfl rfl Try.func14 (by kernel_rfl) rfl #[.agg #[.int .i64 a0_0,.slice A0_1 l0_1.length c0_1]] rfl (by (try simp only [zz26,zz27,zz28]);first | done | rfl | (simp only [zz24,zz25];rfl)) ?_;(with_reducible refine (laws_toParty.calls k a0_0 _ _ l0_1 t228 t229 _ ?side1 ?side2 A9.out).mono ?_);(case side1=>repeat (first | exact (Kd.C_below HR0_1.out HB.out) | (with_reducible refine zz18 ?_ _) | (with_reducible refine zz19 ?_ _) | (with_reducible refine zz20 ?_)));(case side2=>exact HC0_1.out);rintro e w20 ⟨v230,rfl,ho0,hb⟩;refine ⟨_,rfl,?_⟩;have n0_:=zz31 (Kd.R_elder' (by (with_reducible repeat (first | apply zz12 | apply zz13 | apply zz14));exact HO223.out) (Kd.R_base ho0) hb);have n1_:=zz31 (Kd.R_lower (Kd.R_new' ho0 (Kd.R_lt (by (with_reducible repeat (first | apply zz12 | apply zz13 | apply zz14));exact HO223.out))) (zz5 (by repeat first | exact HB.out | apply zz2 | apply zz0 | apply zz1 | refine zz3 ?_ GE218.out)));have n2_:=zz31 (zz11 (g:=gb218) (o:=.cells #[.int .i64 a0_0,.slice A0_1 l0_1.length c0_1] 24 (0,0)) (by (with_reducible repeat (first | refine zz6 ?_ _ | refine zz7 ?_ | refine zz8 ?_ _));exact BK218.out) hb);have n3_:=zz31 (zz4 (by repeat first | exact HB.out | apply zz2 | apply zz0 | apply zz1 | refine zz3 ?_ GE218.out) hb);clear HO223;clear BK218;clear HB;have HO223:=n0_;have HO231:=n1_;have BK218:=n2_;have HB:=n3_;clear n0_ n1_ n2_ n3_;(try clear hb);(try clear hb2);(try clear hk);(try clear hi);(try clear ho0)) | ((with_reducible refine gate_dst (N:=8) rfl ?_);refine box_event ?hg (N:=8) ?hd (cs:=#[.int .i64 0,.slice none 0 0]) (t:=30) ?hr ?_;(case hd=>rfl);(case hg=>rfl);(case hr=>first | (go_simp;done) | (go_simp;rfl));intro gb232 hg w21 hbox hb;have n0_:=zz31 (Kd.R_below (by (with_reducible repeat (first | apply zz12 | apply zz13 | apply zz14));exact HO223.out) hb);have n1_:=zz31 (Kd.R_below (by (with_reducible repeat (first | apply zz12 | apply zz13 | apply zz14));exact HO231.out) hb);have n2_:=zz31 (zz11 (g:=gb218) (o:=.cells #[.int .i64 a0_0,.slice A0_1 l0_1.length c0_1] 24 (0,0)) (by (with_reducible repeat (first | refine zz6 ?_ _ | refine zz7 ?_ | refine zz8 ?_ _));exact BK218.out) hb);have n3_:=zz31 (zz4 (by repeat first | exact HB.out | apply zz2 | apply zz0 | apply zz1 | refine zz3 ?_ GE218.out) hb);have n4_:=zz31 (hbox);have n5_:=zz31 ((by rw [hg];exact (zz5 (by repeat first | exact HB.out | apply zz2 | apply zz0 | apply zz1 | refine zz3 ?_ GE218.out)):w.heap.size≤gb232));have n6_:=zz31 ((by rw [hg];exact (zz5 (by repeat first | exact HB.out | apply zz2 | apply zz0 | apply zz1 | refine zz3 ?_ GE218.out)):w.heap.size≤gb232));have n7_:=zz31 ((by rw [hg];exact Nat.ne_of_lt (blk_lt (g:=gb218) (o:=.cells #[.int .i64 a0_0,.slice A0_1 l0_1.length c0_1] 24 (0,0)) (by (with_reducible repeat (first | refine zz6 ?_ _ | refine zz7 ?_ | refine zz8 ?_ _));exact BK218.out)):gb218 ≠ gb232));have n8_:=zz31 ((by rw [hg];exact Nat.ne_of_gt (blk_lt (g:=gb218) (o:=.cells #[.int .i64 a0_0,.slice A0_1 l0_1.length c0_1] 24 (0,0)) (by (with_reducible repeat (first | refine zz6 ?_ _ | refine zz7 ?_ | refine zz8 ?_ _));exact BK218.out)):gb232 ≠ gb218));clear HO223;clear HO231;clear BK218;clear HB;have HO223:=n0_;have HO231:=n1_;have BK218:=n2_;have HB:=n3_;have BK232:=n4_;have GW232:=n5_;have GE232:=n6_;have NB218_232:=n7_;have NB232_218:=n8_;clear n0_ n1_ n2_ n3_ n4_ n5_ n6_ n7_ n8_;clear hb hbox hg;have hnb22:=NB232_218.out;have hnc22:=NB218_232.out;have hcz23_0:w21.cell? ⟨gb232,0,none⟩=some (.int .i64 0):=(zz9 BK232.out 0).trans rfl;have hcz23_1:w21.cell? ⟨gb232,1,none⟩=some (.slice none 0 0):=(zz9 BK232.out 1).trans rfl;have hfz23_0:=zz10 BK232.out 0;have hfz23_1:=zz10 BK232.out 1;obtain ⟨Ao24,co24,eo24⟩:=Kd.R_slice HO231.out;subst eo24) | ((with_reducible refine gate_callee (f:=15) rfl ?_);refine goesL_ (some 30) rfl rfl Try.func15 (by kernel_rfl) rfl #[.agg #[.int .i64 t228,.slice Ao24 t229.length co24]] rfl (by (try simp only [zz26,zz27,zz28]);first | done | rfl | (simp only [zz24,zz25];rfl)) ?_;(with_reducible refine (impl_CountThrees.calls k t228 _ _ t229 t233 t234 t235 t236 _ ?side1 ?side2 A10.out).mono ?_);(case side1=>refine (Kd.R_reads' (e:=80) (base:=w.heap.size) (ok:=fun k_=>(True∧some k_ ≠ (.slice Ao17 t221.length co17:Value).ownBlock)) (n:=t229.length) (c:=co24) ?_).2.2;exact (by (with_reducible repeat (first | apply zz12 | apply zz13 | apply zz14));exact (Kd.R_mono (Kd.R_far (p:=⟨gb232,1,none⟩) (Kd.R_far (p:=⟨gb232,0,none⟩) (Kd.R_types HO231.out BK232.out (by decide)) (fun _ hk=>hk.2) (.int .i64 t228)) (fun _ hk=>hk.2) (.slice Ao24 t229.length co24)) (fun _ h_=>h_.1))));(case side2=>exact (Kd.R_reads' HO231.out).2.1);rintro e w25 ⟨rfl,hb⟩;refine ⟨_,rfl,?_⟩;have n0_:=zz31 (Kd.R_below (by (with_reducible repeat (first | apply zz12 | apply zz13 | apply zz14));exact (Kd.R_mono (Kd.R_far (p:=⟨gb232,1,none⟩) (Kd.R_far (p:=⟨gb232,0,none⟩) (Kd.R_types HO223.out BK232.out (by decide)) (fun _ hk=>hk.2) (.int .i64 t228)) (fun _ hk=>hk.2) (.slice Ao24 t229.length co24)) (fun _ h_=>h_.1))) hb);have n1_:=zz31 (Kd.R_below (by (with_reducible repeat (first | apply zz12 | apply zz13 | apply zz14));exact (Kd.R_mono (Kd.R_far (p:=⟨gb232,1,none⟩) (Kd.R_far (p:=⟨gb232,0,none⟩) (Kd.R_types HO231.out BK232.out (by decide)) (fun _ hk=>hk.2) (.int .i64 t228)) (fun _ hk=>hk.2) (.slice Ao24 t229.length co24)) (fun _ h_=>h_.1))) hb);have n2_:=zz31 (zz11 (g:=gb218) (o:=.cells #[.int .i64 a0_0,.slice A0_1 l0_1.length c0_1] 24 (0,0)) (by (with_reducible repeat (first | refine zz6 ?_ _ | refine zz7 ?_ | refine zz8 ?_ _));refine blk_far ?_ NB218_232.out _;(with_reducible repeat (first | refine zz6 ?_ _ | refine zz7 ?_ | refine zz8 ?_ _));refine blk_far ?_ NB218_232.out _;(with_reducible repeat (first | refine zz6 ?_ _ | refine zz7 ?_ | refine zz8 ?_ _));exact BK218.out) hb);have n3_:=zz31 (zz11 (g:=gb232) (o:=.cells #[.int .i64 t228,.slice Ao24 t229.length co24] 30 (0,0)) (by (with_reducible repeat (first | refine zz6 ?_ _ | refine zz7 ?_ | refine zz8 ?_ _));refine blk_put (cs:=#[.int .i64 t228,.slice none 0 0]) ?_ 1 _ rfl;(with_reducible repeat (first | refine zz6 ?_ _ | refine zz7 ?_ | refine zz8 ?_ _));refine blk_put (cs:=#[.int .i64 0,.slice none 0 0]) ?_ 0 _ rfl;(with_reducible repeat (first | refine zz6 ?_ _ | refine zz7 ?_ | refine zz8 ?_ _));exact BK232.out) hb);have n4_:=zz31 (zz4 (by repeat first | exact HB.out | apply zz2 | apply zz0 | apply zz1 | refine zz3 ?_ GE218.out | refine zz3 ?_ GE232.out) hb);clear HO223;clear HO231;clear BK218;clear BK232;clear HB;have HO223:=n0_;have HO231:=n1_;have BK218:=n2_;have BK232:=n3_;have HB:=n4_;clear n0_ n1_ n2_ n3_ n4_;(try clear hb);(try clear hb2);(try clear hk);(try clear hi)))
  (try simp only [Act.put,zz21,zz22,zz23])
  go_cut [52] (fun v52 wc=>∃ (kq:Nat) (x52_10:Bool),v52=.bool x52_10∧Aside0 (laws_FnExactCountThrees.j0 kq x52_10 a0_0 l0_1 t228 t229=some r)∧Aside0 (kq≤k)∧Aside0 (Kd.R k80 80 wc w.heap.size (fun _=>True) (.slice Ao24 t229.length co24) t229)∧Aside0 (wc.heap[gb218]?=some (.cells #[.int .i64 a0_0,(.slice A0_1 l0_1.length c0_1)] 24 (0,0)))∧Aside0 (wc.heap[gb232]?=some (.cells #[.int .i64 t228,(.slice Ao24 t229.length co24)] 30 (0,0)))∧Aside0 (Below w.heap.size w wc))
  case first =>
   have H:=HC11.out
   clear HC11
   by_cases c26:t233=t224
   ·rw [if_pos c26] at H
    have c26b0:(t233 == t224)=true:=beq_iff_eq.mpr c26
    have c26b1:(t233 != t224)=false:=bne_eq_false_iff_eq.mpr c26
    clear c26
    (first | rw [c26b0] | (simp only [i64_w,i32_w];rw [c26b0]) | skip)
    by_cases c27:t234=t225
    ·rw [if_pos c27] at H
     have c27b0:(t234 == t225)=true:=beq_iff_eq.mpr c27
     have c27b1:(t234 != t225)=false:=bne_eq_false_iff_eq.mpr c27
     clear c27
     by_cases c28:t235=t226
     ·rw [if_pos c28] at H
      have c28b0:(t235 == t226)=true:=beq_iff_eq.mpr c28
      have c28b1:(t235 != t226)=false:=bne_eq_false_iff_eq.mpr c28
      clear c28
      have H':=zz31 H
      clear H
      go_wp2
      go_meet
      case rel=>exact ⟨_,((t236 != t227)),(by first | rfl | (simp;done) | (simp [*];done)),H',⟨by first | omega | exact Nat.le_refl _⟩,⟨by (with_reducible repeat (first | apply zz12 | apply zz13 | apply zz14));exact Kd.R_mono HO231.out (fun _ hk=>trivial)⟩,⟨by (with_reducible repeat (first | refine zz6 ?_ _ | refine zz7 ?_ | refine zz8 ?_ _));exact BK218.out⟩,⟨by (with_reducible repeat (first | refine zz6 ?_ _ | refine zz7 ?_ | refine zz8 ?_ _));exact BK232.out⟩,⟨by repeat first | exact HB.out | apply zz2 | apply zz0 | apply zz1 | refine zz3 ?_ GE218.out | refine zz3 ?_ GE232.out⟩⟩
     ·rw [if_neg c28] at H
      have c28b0:(t235 == t226)=false:=beq_eq_false_iff_ne.mpr c28
      have c28b1:(t235 != t226)=true:=bne_iff_ne.mpr c28
      have H':=zz31 H
      clear H
      go_wp2
      go_meet
      case rel=>exact ⟨_,(true),(by first | rfl | (simp;done) | (simp [*];done)),H',⟨by first | omega | exact Nat.le_refl _⟩,⟨by (with_reducible repeat (first | apply zz12 | apply zz13 | apply zz14));exact Kd.R_mono HO231.out (fun _ hk=>trivial)⟩,⟨by (with_reducible repeat (first | refine zz6 ?_ _ | refine zz7 ?_ | refine zz8 ?_ _));exact BK218.out⟩,⟨by (with_reducible repeat (first | refine zz6 ?_ _ | refine zz7 ?_ | refine zz8 ?_ _));exact BK232.out⟩,⟨by repeat first | exact HB.out | apply zz2 | apply zz0 | apply zz1 | refine zz3 ?_ GE218.out | refine zz3 ?_ GE232.out⟩⟩
    ·rw [if_neg c27] at H
     have c27b0:(t234 == t225)=false:=beq_eq_false_iff_ne.mpr c27
     have c27b1:(t234 != t225)=true:=bne_iff_ne.mpr c27
     have H':=zz31 H
     clear H
     go_wp2
     go_meet
     case rel=>exact ⟨_,(true),(by first | rfl | (simp;done) | (simp [*];done)),H',⟨by first | omega | exact Nat.le_refl _⟩,⟨by (with_reducible repeat (first | apply zz12 | apply zz13 | apply zz14));exact Kd.R_mono HO231.out (fun _ hk=>trivial)⟩,⟨by (with_reducible repeat (first | refine zz6 ?_ _ | refine zz7 ?_ | refine zz8 ?_ _));exact BK218.out⟩,⟨by (with_reducible repeat (first | refine zz6 ?_ _ | refine zz7 ?_ | refine zz8 ?_ _));exact BK232.out⟩,⟨by repeat first | exact HB.out | apply zz2 | apply zz0 | apply zz1 | refine zz3 ?_ GE218.out | refine zz3 ?_ GE232.out⟩⟩
   ·rw [if_neg c26] at H
    have c26b0:(t233 == t224)=false:=beq_eq_false_iff_ne.mpr c26
    have c26b1:(t233 != t224)=true:=bne_iff_ne.mpr c26
    (first | rw [c26b0] | (simp only [i64_w,i32_w];rw [c26b0]) | skip)
    have H':=zz31 H
    clear H
    go_wp2
    go_meet
    case rel=>exact ⟨_,(true),(by first | rfl | (simp;done) | (simp [*];done)),H',⟨by first | omega | exact Nat.le_refl _⟩,⟨by (with_reducible repeat (first | apply zz12 | apply zz13 | apply zz14));exact Kd.R_mono HO231.out (fun _ hk=>trivial)⟩,⟨by (with_reducible repeat (first | refine zz6 ?_ _ | refine zz7 ?_ | refine zz8 ?_ _));exact BK218.out⟩,⟨by (with_reducible repeat (first | refine zz6 ?_ _ | refine zz7 ?_ | refine zz8 ?_ _));exact BK232.out⟩,⟨by repeat first | exact HB.out | apply zz2 | apply zz0 | apply zz1 | refine zz3 ?_ GE218.out | refine zz3 ?_ GE232.out⟩⟩
  case rest =>
   clear HC11
   try clear c1
   try clear c2
   try clear p2
   try clear c3
   try clear c3b0
   try clear c12
   try clear c13
   try clear c14
   try clear c15
   try clear c22
   try clear c26
   try clear c26b0
   try clear c26b1
   try clear c27
   try clear c27b0
   try clear c27b1
   try clear c28
   try clear c28b0
   try clear c28b1
   try clear hcz13_0
   try clear hcz13_1
   try clear hcz15_0
   try clear hcz15_1
   try clear hcz19_0
   try clear hcz19_1
   try clear hcz23_0
   try clear hcz23_1
   try clear hcz5_0
   try clear hcz5_1
   try clear hfz13_0
   try clear hfz13_1
   try clear hfz15_0
   try clear hfz15_1
   try clear hfz19_0
   try clear hfz19_1
   try clear hfz23_0
   try clear hfz23_1
   try clear hfz5_0
   try clear hfz5_1
   obtain ⟨kq,x52_10,rfl,HA,HJ10,HO_233001,BK218,BK232,HB⟩:=hcut
   cases kq with
   | zero=>exact absurd HA.out (by simp [laws_FnExactCountThrees.j0])
   | succ kj10 =>
    have H:=HA.out
    clear HA
    simp only [laws_FnExactCountThrees.j0] at H
    by_cases c29:x52_10=true
    ·subst c29
     have H1:(some false)=some r:=by rw [if_pos rfl] at H;exact H
     clear H
     have H:=H1
     clear H1
     obtain rfl:=Option.some.inj H
     go_wp2
     go_ret
     exact ⟨by first | rfl | (simp [errW_none,errW_some] <;> rfl) | (simp [*,errW_none,errW_some] <;> rfl),by repeat first | exact HB.out | apply zz2 | apply zz0 | apply zz1 | refine zz3 ?_ GE218.out | refine zz3 ?_ GE232.out⟩
    ·replace c29:=Bool.eq_false_iff.mpr c29
     subst c29
     have H1:((laws_toParty.f kj10 a0_0 l0_1).bind fun bt237=>((laws_eqParty.f kj10 t228 t229 bt237.1 bt237.2).bind fun t241=>(if t241=true then (some true) else (some false))))=some r:=by rw [if_neg (show ¬ (false=true) by decide)] at H;exact H
     clear H
     have H:=H1
     clear H1
     replace H:=zz30.mp H
     obtain ⟨⟨t237,t238⟩,A300,H⟩:=H
     replace H:((laws_eqParty.f kj10 t228 t229 t237 t238).bind fun t241=>(if t241=true then (some true) else (some false)))=some r:=H
     have A30:=zz31 A300
     clear A300
     replace H:=zz30.mp H
     obtain ⟨t241,A310,H⟩:=H
     replace H:(if t241=true then (some true) else (some false))=some r:=H
     have A31:=zz31 A310
     clear A310
     by_cases c32:t241=true
     ·subst c32
      have H1:(some true)=some r:=by rw [if_pos rfl] at H;exact H
      clear H
      have H:=H1
      clear H1
      obtain rfl:=Option.some.inj H
      try go_wp2
      have n0_:=zz31 (zz14 HO_233001.out)
      have n1_:=zz31 (zz7 BK218.out)
      have n2_:=zz31 (zz7 BK232.out)
      have n3_:=zz31 (zz1 HB.out)
      clear HO_233001
      clear BK218
      clear BK232
      clear HB
      have HO_233001:=n0_
      have BK218:=n1_
      have BK232:=n2_
      have HB:=n3_
      clear n0_ n1_ n2_ n3_
      refine start_ (n:=5) (S:=fun w'=>w'.cell? ⟨gb232,0,none⟩=some (.int .i64 t228)∧w'.cell? ⟨gb232,1,none⟩=some (.slice Ao24 t229.length co24)∧w'.cell? ⟨gb218,0,none⟩=some (.int .i64 a0_0)∧w'.cell? ⟨gb218,1,none⟩=some (.slice A0_1 l0_1.length c0_1)) (ds:=[]) #[F,F,F,F,F] (by kernel_rfl) rfl rfl ⟨(zz9 BK232.out 0).trans rfl,(zz9 BK232.out 1).trans rfl,(zz9 BK218.out 0).trans rfl,(zz9 BK218.out 1).trans rfl⟩ (fun hHeld=>?_)
      generalize wc.drew=w33 at HO_233001 BK218 BK232 HB hHeld ⊢
      refine take_ (i:=0) (N:=some 53) (v:=?_) (a':=?_) #[T,F,F,F,F] rfl rfl (by kernel_rfl) (fun _ _ _ h=>h) (Or.inl ⟨by rfl,?_⟩) hHeld ?_ ?_
      rotate_left
      ·rintro w' ⟨s0,s1,s2,s3⟩
       go_simp
       with_reducible rfl
      rotate_left
      ·simp only [Act.put,zz21,zz22,zz23,i64_w,i32_w]
       rfl
      refine take_ (i:=1) (N:=some 54) (v:=?_) (a':=?_) #[T,T,F,F,F] rfl rfl (by kernel_rfl) (fun _ _ _ h=>h) (Or.inl ⟨by rfl,?_⟩) hHeld ?_ ?_
      rotate_left
      ·rintro w' ⟨s0,s1,s2,s3⟩
       go_simp
       with_reducible rfl
      rotate_left
      ·simp only [Act.put,zz21,zz22,zz23,i64_w,i32_w]
       rfl
      refine one_ (i:=2) (N:=some 55) #[T,T,T,F,F] rfl rfl (by kernel_rfl) (by decide) (fun K hK=>?_)
      refine goes_ Try.func14 (by kernel_rfl) rfl #[.agg #[.int .i64 a0_0,.slice A0_1 l0_1.length c0_1]] (by rfl) rfl rfl (by (try simp only [zz26,zz27,zz28]);first | done | rfl | (simp only [zz24,zz25];rfl)) ?_
      with_reducible refine (laws_toParty.calls kj10 a0_0 _ _ l0_1 t237 t238 _ ?side1 ?side2 A30.out).mono ?_
      (case side1=>repeat (first | exact (Kd.C_below HR0_1.out HB.out) | (with_reducible refine zz18 ?_ _) | (with_reducible refine zz19 ?_ _) | (with_reducible refine zz20 ?_)))
      (case side2=>exact HC0_1.out)
      rintro e w34 ⟨v239,rfl,ho0,hb⟩
      refine ⟨_,rfl,?_⟩
      have n0_:=zz31 (Kd.R_elder' (by (with_reducible repeat (first | apply zz12 | apply zz13 | apply zz14));exact HO_233001.out) (Kd.R_base ho0) hb)
      have n1_:=zz31 (Kd.R_lower (Kd.R_new' ho0 (Kd.R_lt (by (with_reducible repeat (first | apply zz12 | apply zz13 | apply zz14));exact HO_233001.out))) (zz5 (by repeat first | exact HB.out | apply zz2 | apply zz0 | apply zz1 | refine zz3 ?_ GE218.out | refine zz3 ?_ GE232.out)))
      have n2_:=zz31 (zz11 (g:=gb218) (o:=.cells #[.int .i64 a0_0,.slice A0_1 l0_1.length c0_1] 24 (0,0)) (by (with_reducible repeat (first | refine zz6 ?_ _ | refine zz7 ?_ | refine zz8 ?_ _));exact BK218.out) hb)
      have n3_:=zz31 (zz11 (g:=gb232) (o:=.cells #[.int .i64 t228,.slice Ao24 t229.length co24] 30 (0,0)) (by (with_reducible repeat (first | refine zz6 ?_ _ | refine zz7 ?_ | refine zz8 ?_ _));exact BK232.out) hb)
      have n4_:=zz31 (zz4 (by repeat first | exact HB.out | apply zz2 | apply zz0 | apply zz1 | refine zz3 ?_ GE218.out | refine zz3 ?_ GE232.out) hb)
      clear HO_233001
      clear BK218
      clear BK232
      clear HB
      have HO_233001:=n0_
      have HO240:=n1_
      have BK218:=n2_
      have BK232:=n3_
      have HB:=n4_
      clear n0_ n1_ n2_ n3_ n4_
      (try clear hb)
      (try clear hb2)
      (try clear hk)
      (try clear hi)
      (try clear ho0)
      obtain ⟨Ao35,co35,eo35⟩:=Kd.R_slice HO240.out
      (first | subst eo35 | (injection eo35 with f1_ f2_ f3_;have f4_:=f1_.symm;have f5_:=f3_.symm;clear f1_ f2_ f3_;subst f4_;subst f5_))
      refine hK.out _ _ ⟨(zz9 BK232.out 0).trans rfl,(zz9 BK232.out 1).trans rfl,(zz9 BK218.out 0).trans rfl,(zz9 BK218.out 1).trans rfl⟩ (fun hHeld=>?_)
      clear hK K
      refine norm_ (a':=?_) ?_ ?_
      rotate_left
      ·show Act.put _ (some 55) _=_
       simp only [Act.put,zz21,zz22,zz23,i64_w,i32_w]
       rfl
      refine one_ (i:=3) (N:=some 56) #[T,T,T,T,F] rfl rfl (by kernel_rfl) (by decide) (fun K hK=>?_)
      refine goes_ Try.func16 (by kernel_rfl) rfl #[.agg #[.int .i64 t228,.slice Ao24 t229.length co24],.agg #[.int .i64 t237,.slice Ao35 t238.length co35]] (by rfl) rfl rfl (by (try simp only [zz26,zz27,zz28]);first | done | rfl | (simp only [zz24,zz25];rfl)) ?_
      with_reducible refine (laws_eqParty.calls kj10 t228 _ _ t229 t237 _ _ t238 true _ ?side1 ?side2 ?side3 ?side4 A31.out).mono ?_
      (case side1=>repeat (first | exact (Kd.R_reads' HO_233001.out).2.2 | (with_reducible refine zz18 ?_ _) | (with_reducible refine zz19 ?_ _) | (with_reducible refine zz20 ?_)))
      (case side2=>exact (Kd.R_reads' HO_233001.out).2.1)
      (case side3=>repeat (first | exact (Kd.R_reads' HO240.out).2.2 | (with_reducible refine zz18 ?_ _) | (with_reducible refine zz19 ?_ _) | (with_reducible refine zz20 ?_)))
      (case side4=>exact (Kd.R_reads' HO240.out).2.1)
      rintro e w36 ⟨rfl,hb⟩
      refine ⟨_,rfl,?_⟩
      have n0_:=zz31 (Kd.R_below (by (with_reducible repeat (first | apply zz12 | apply zz13 | apply zz14));exact HO_233001.out) hb)
      have n1_:=zz31 (Kd.R_below (by (with_reducible repeat (first | apply zz12 | apply zz13 | apply zz14));exact HO240.out) hb)
      have n2_:=zz31 (zz11 (g:=gb218) (o:=.cells #[.int .i64 a0_0,.slice A0_1 l0_1.length c0_1] 24 (0,0)) (by (with_reducible repeat (first | refine zz6 ?_ _ | refine zz7 ?_ | refine zz8 ?_ _));exact BK218.out) hb)
      have n3_:=zz31 (zz11 (g:=gb232) (o:=.cells #[.int .i64 t228,.slice Ao24 t229.length co24] 30 (0,0)) (by (with_reducible repeat (first | refine zz6 ?_ _ | refine zz7 ?_ | refine zz8 ?_ _));exact BK232.out) hb)
      have n4_:=zz31 (zz4 (by repeat first | exact HB.out | apply zz2 | apply zz0 | apply zz1 | refine zz3 ?_ GE218.out | refine zz3 ?_ GE232.out) hb)
      clear HO_233001
      clear HO240
      clear BK218
      clear BK232
      clear HB
      have HO_233001:=n0_
      have HO240:=n1_
      have BK218:=n2_
      have BK232:=n3_
      have HB:=n4_
      clear n0_ n1_ n2_ n3_ n4_
      (try clear hb)
      (try clear hb2)
      (try clear hk)
      (try clear hi)
      refine hK.out _ _ ⟨(zz9 BK232.out 0).trans rfl,(zz9 BK232.out 1).trans rfl,(zz9 BK218.out 0).trans rfl,(zz9 BK218.out 1).trans rfl⟩ (fun hHeld=>?_)
      clear hK K
      refine norm_ (a':=?_) ?_ ?_
      rotate_left
      ·show Act.put _ (some 56) _=_
       simp only [Act.put,zz21,zz22,zz23,i64_w,i32_w]
       rfl
      refine pure_ (i:=4) (N:=some 57) (v:=?_) (a':=?_) #[T,T,T,T,T] rfl rfl (by kernel_rfl) (fun _ _ _ h=>h) (Or.inl ⟨by rfl,?_⟩) ?_ ?_
      rotate_left
      ·intro w'
       go_simp
       with_reducible rfl
      rotate_left
      ·simp only [Act.put,zz21,zz22,zz23,i64_w,i32_w]
       rfl
      refine done_ (by kernel_rfl) ?_
      try go_wp2
      go_ret
      exact ⟨by first | rfl | (simp [errW_none,errW_some] <;> rfl) | (simp [*,errW_none,errW_some] <;> rfl),by repeat first | exact HB.out | apply zz2 | apply zz0 | apply zz1 | refine zz3 ?_ GE218.out | refine zz3 ?_ GE232.out⟩
     ·replace c32:=Bool.eq_false_iff.mpr c32
      subst c32
      have H1:(some false)=some r:=by rw [if_neg (show ¬ (false=true) by decide)] at H;exact H
      clear H
      have H:=H1
      clear H1
      obtain rfl:=Option.some.inj H
      try go_wp2
      have n0_:=zz31 (zz14 HO_233001.out)
      have n1_:=zz31 (zz7 BK218.out)
      have n2_:=zz31 (zz7 BK232.out)
      have n3_:=zz31 (zz1 HB.out)
      clear HO_233001
      clear BK218
      clear BK232
      clear HB
      have HO_233001:=n0_
      have BK218:=n1_
      have BK232:=n2_
      have HB:=n3_
      clear n0_ n1_ n2_ n3_
      refine start_ (n:=5) (S:=fun w'=>w'.cell? ⟨gb232,0,none⟩=some (.int .i64 t228)∧w'.cell? ⟨gb232,1,none⟩=some (.slice Ao24 t229.length co24)∧w'.cell? ⟨gb218,0,none⟩=some (.int .i64 a0_0)∧w'.cell? ⟨gb218,1,none⟩=some (.slice A0_1 l0_1.length c0_1)) (ds:=[]) #[F,F,F,F,F] (by kernel_rfl) rfl rfl ⟨(zz9 BK232.out 0).trans rfl,(zz9 BK232.out 1).trans rfl,(zz9 BK218.out 0).trans rfl,(zz9 BK218.out 1).trans rfl⟩ (fun hHeld=>?_)
      generalize wc.drew=w37 at HO_233001 BK218 BK232 HB hHeld ⊢
      refine take_ (i:=0) (N:=some 53) (v:=?_) (a':=?_) #[T,F,F,F,F] rfl rfl (by kernel_rfl) (fun _ _ _ h=>h) (Or.inl ⟨by rfl,?_⟩) hHeld ?_ ?_
      rotate_left
      ·rintro w' ⟨s0,s1,s2,s3⟩
       go_simp
       with_reducible rfl
      rotate_left
      ·simp only [Act.put,zz21,zz22,zz23,i64_w,i32_w]
       rfl
      refine take_ (i:=1) (N:=some 54) (v:=?_) (a':=?_) #[T,T,F,F,F] rfl rfl (by kernel_rfl) (fun _ _ _ h=>h) (Or.inl ⟨by rfl,?_⟩) hHeld ?_ ?_
      rotate_left
      ·rintro w' ⟨s0,s1,s2,s3⟩
       go_simp
       with_reducible rfl
      rotate_left
      ·simp only [Act.put,zz21,zz22,zz23,i64_w,i32_w]
       rfl
      refine one_ (i:=2) (N:=some 55) #[T,T,T,F,F] rfl rfl (by kernel_rfl) (by decide) (fun K hK=>?_)
      refine goes_ Try.func14 (by kernel_rfl) rfl #[.agg #[.int .i64 a0_0,.slice A0_1 l0_1.length c0_1]] (by rfl) rfl rfl (by (try simp only [zz26,zz27,zz28]);first | done | rfl | (simp only [zz24,zz25];rfl)) ?_
      with_reducible refine (laws_toParty.calls kj10 a0_0 _ _ l0_1 t237 t238 _ ?side1 ?side2 A30.out).mono ?_
      (case side1=>repeat (first | exact (Kd.C_below HR0_1.out HB.out) | (with_reducible refine zz18 ?_ _) | (with_reducible refine zz19 ?_ _) | (with_reducible refine zz20 ?_)))
      (case side2=>exact HC0_1.out)
      rintro e w38 ⟨v239,rfl,ho0,hb⟩
      refine ⟨_,rfl,?_⟩
      have n0_:=zz31 (Kd.R_elder' (by (with_reducible repeat (first | apply zz12 | apply zz13 | apply zz14));exact HO_233001.out) (Kd.R_base ho0) hb)
      have n1_:=zz31 (Kd.R_lower (Kd.R_new' ho0 (Kd.R_lt (by (with_reducible repeat (first | apply zz12 | apply zz13 | apply zz14));exact HO_233001.out))) (zz5 (by repeat first | exact HB.out | apply zz2 | apply zz0 | apply zz1 | refine zz3 ?_ GE218.out | refine zz3 ?_ GE232.out)))
      have n2_:=zz31 (zz11 (g:=gb218) (o:=.cells #[.int .i64 a0_0,.slice A0_1 l0_1.length c0_1] 24 (0,0)) (by (with_reducible repeat (first | refine zz6 ?_ _ | refine zz7 ?_ | refine zz8 ?_ _));exact BK218.out) hb)
      have n3_:=zz31 (zz11 (g:=gb232) (o:=.cells #[.int .i64 t228,.slice Ao24 t229.length co24] 30 (0,0)) (by (with_reducible repeat (first | refine zz6 ?_ _ | refine zz7 ?_ | refine zz8 ?_ _));exact BK232.out) hb)
      have n4_:=zz31 (zz4 (by repeat first | exact HB.out | apply zz2 | apply zz0 | apply zz1 | refine zz3 ?_ GE218.out | refine zz3 ?_ GE232.out) hb)
      clear HO_233001
      clear BK218
      clear BK232
      clear HB
      have HO_233001:=n0_
      have HO240:=n1_
      have BK218:=n2_
      have BK232:=n3_
      have HB:=n4_
      clear n0_ n1_ n2_ n3_ n4_
      (try clear hb)
      (try clear hb2)
      (try clear hk)
      (try clear hi)
      (try clear ho0)
      obtain ⟨Ao39,co39,eo39⟩:=Kd.R_slice HO240.out
      (first | subst eo39 | (injection eo39 with f1_ f2_ f3_;have f4_:=f1_.symm;have f5_:=f3_.symm;clear f1_ f2_ f3_;subst f4_;subst f5_))
      refine hK.out _ _ ⟨(zz9 BK232.out 0).trans rfl,(zz9 BK232.out 1).trans rfl,(zz9 BK218.out 0).trans rfl,(zz9 BK218.out 1).trans rfl⟩ (fun hHeld=>?_)
      clear hK K
      refine norm_ (a':=?_) ?_ ?_
      rotate_left
      ·show Act.put _ (some 55) _=_
       simp only [Act.put,zz21,zz22,zz23,i64_w,i32_w]
       rfl
      refine one_ (i:=3) (N:=some 56) #[T,T,T,T,F] rfl rfl (by kernel_rfl) (by decide) (fun K hK=>?_)
      refine goes_ Try.func16 (by kernel_rfl) rfl #[.agg #[.int .i64 t228,.slice Ao24 t229.length co24],.agg #[.int .i64 t237,.slice Ao39 t238.length co39]] (by rfl) rfl rfl (by (try simp only [zz26,zz27,zz28]);first | done | rfl | (simp only [zz24,zz25];rfl)) ?_
      with_reducible refine (laws_eqParty.calls kj10 t228 _ _ t229 t237 _ _ t238 false _ ?side1 ?side2 ?side3 ?side4 A31.out).mono ?_
      (case side1=>repeat (first | exact (Kd.R_reads' HO_233001.out).2.2 | (with_reducible refine zz18 ?_ _) | (with_reducible refine zz19 ?_ _) | (with_reducible refine zz20 ?_)))
      (case side2=>exact (Kd.R_reads' HO_233001.out).2.1)
      (case side3=>repeat (first | exact (Kd.R_reads' HO240.out).2.2 | (with_reducible refine zz18 ?_ _) | (with_reducible refine zz19 ?_ _) | (with_reducible refine zz20 ?_)))
      (case side4=>exact (Kd.R_reads' HO240.out).2.1)
      rintro e w40 ⟨rfl,hb⟩
      refine ⟨_,rfl,?_⟩
      have n0_:=zz31 (Kd.R_below (by (with_reducible repeat (first | apply zz12 | apply zz13 | apply zz14));exact HO_233001.out) hb)
      have n1_:=zz31 (Kd.R_below (by (with_reducible repeat (first | apply zz12 | apply zz13 | apply zz14));exact HO240.out) hb)
      have n2_:=zz31 (zz11 (g:=gb218) (o:=.cells #[.int .i64 a0_0,.slice A0_1 l0_1.length c0_1] 24 (0,0)) (by (with_reducible repeat (first | refine zz6 ?_ _ | refine zz7 ?_ | refine zz8 ?_ _));exact BK218.out) hb)
      have n3_:=zz31 (zz11 (g:=gb232) (o:=.cells #[.int .i64 t228,.slice Ao24 t229.length co24] 30 (0,0)) (by (with_reducible repeat (first | refine zz6 ?_ _ | refine zz7 ?_ | refine zz8 ?_ _));exact BK232.out) hb)
      have n4_:=zz31 (zz4 (by repeat first | exact HB.out | apply zz2 | apply zz0 | apply zz1 | refine zz3 ?_ GE218.out | refine zz3 ?_ GE232.out) hb)
      clear HO_233001
      clear HO240
      clear BK218
      clear BK232
      clear HB
      have HO_233001:=n0_
      have HO240:=n1_
      have BK218:=n2_
      have BK232:=n3_
      have HB:=n4_
      clear n0_ n1_ n2_ n3_ n4_
      (try clear hb)
      (try clear hb2)
      (try clear hk)
      (try clear hi)
      refine hK.out _ _ ⟨(zz9 BK232.out 0).trans rfl,(zz9 BK232.out 1).trans rfl,(zz9 BK218.out 0).trans rfl,(zz9 BK218.out 1).trans rfl⟩ (fun hHeld=>?_)
      clear hK K
      refine norm_ (a':=?_) ?_ ?_
      rotate_left
      ·show Act.put _ (some 56) _=_
       simp only [Act.put,zz21,zz22,zz23,i64_w,i32_w]
       rfl
      refine pure_ (i:=4) (N:=some 57) (v:=?_) (a':=?_) #[T,T,T,T,T] rfl rfl (by kernel_rfl) (fun _ _ _ h=>h) (Or.inl ⟨by rfl,?_⟩) ?_ ?_
      rotate_left
      ·intro w'
       go_simp
       with_reducible rfl
      rotate_left
      ·simp only [Act.put,zz21,zz22,zz23,i64_w,i32_w]
       rfl
      refine done_ (by kernel_rfl) ?_
      try go_wp2
      go_ret
      exact ⟨by first | rfl | (simp [errW_none,errW_some] <;> rfl) | (simp [*,errW_none,errW_some] <;> rfl),by repeat first | exact HB.out | apply zz2 | apply zz0 | apply zz1 | refine zz3 ?_ GE218.out | refine zz3 ?_ GE232.out⟩

end Go.Proofs.Ytialimbdkokdcaa.P
