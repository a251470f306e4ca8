-- PRINTED by print.py (a twelfth state) out of the translation. Not trusted: Lean checks it.
import Derived.Test.YtoedkkoafidalaaDoorPx0
namespace Go.Proofs.YtoedkkoafidalaaDoor.P
open Go.RowKit Go.Proofs.YtoedkkoafidalaaDoorW.PrintWords Go.Proofs.YtoedkkoafidalaaDoorW.PrintLast Go.Proofs.YtoedkkoafidalaaDoorW.PrintMore
open Bool renaming true → T, false → F
attribute [local go_sem] max2_int min2_int max_two min_two max_three min_three max_four min_four   -- for this text's walks alone
set_option linter.unusedVariables false
set_option linter.unusedSimpArgs false

/-! ### laws_eqPair: function 35 -/
def laws_eqPair.f (a0_0:Int) (a0_1:Int) (a1_0:Int) (a1_1:Int):Option (Bool):=if a0_0=a1_0 then (if a0_1=a1_1 then (some true) else (some false)) else (some false)
set_option maxHeartbeats 8000000 in
set_option maxRecDepth 100000 in
theorem laws_eqPair.calls (a0_0:Int) (a0_1:Int) (a1_0:Int) (a1_1:Int) (r:Bool) (w:World) (h:laws_eqPair.f a0_0 a0_1 a1_0 a1_1=some r) :
  Calls Tryd.prog 35 #[.agg #[.int .i64 a0_0,.int .i64 a0_1],.agg #[.int .i64 a1_0,.int .i64 a1_1]] w fun e w'=>e=.returned (.bool r)∧Below w.heap.size w w':=by
 have hu50:=Tryd.underlying50
 have HB:=zz31 (Below.refl w.heap.size w)
 have H:(if a0_0=a1_0 then (if a0_1=a1_1 then (some true) else (some false)) else (some false))=some r:=h
 clear h
 by_cases c3:a0_0=a1_0
 ·rw [if_pos c3] at H
  have c3b0:(a0_0 == a1_0)=true:=beq_iff_eq.mpr c3
  have c3b1:(a0_0 != a1_0)=false:=bne_eq_false_iff_eq.mpr c3
  clear c3
  by_cases c4:a0_1=a1_1
  ·rw [if_pos c4] at H
   have c4b0:(a0_1 == a1_1)=true:=beq_iff_eq.mpr c4
   have c4b1:(a0_1 != a1_1)=false:=bne_eq_false_iff_eq.mpr c4
   clear c4
   obtain rfl:=Option.some.inj H
   go_enter Tryd.func35,Tryd.ntmps35
   go_wp2_with (first | ((with_reducible refine gate_dst (N:=2) rfl ?_);refine box_event ?hg (N:=2) ?hd (cs:=#[.int .i64 a0_0,.int .i64 a0_1]) (t:=50) ?hr ?_;(case hd=>rfl);(case hg=>rfl);(case hr=>first | (go_simp;done) | (go_simp;rfl));intro gb101 hg w5 hbox hb;have n0_:=zz31 (zz4 (by repeat first | exact HB.out | apply zz2 | apply zz0 | apply zz1) hb);have n1_:=zz31 (hbox);have n2_:=zz31 ((by rw [hg];exact (zz5 (by repeat first | exact HB.out | apply zz2 | apply zz0 | apply zz1)):w.heap.size≤gb101));have n3_:=zz31 ((by rw [hg];exact (zz5 (by repeat first | exact HB.out | apply zz2 | apply zz0 | apply zz1)):w.heap.size≤gb101));clear HB;have HB:=n0_;have BK101:=n1_;have GW101:=n2_;have GE101:=n3_;clear n0_ n1_ n2_ n3_;clear hb hbox hg) | ((with_reducible refine gate_dst (N:=3) rfl ?_);refine box_event ?hg (N:=3) ?hd (cs:=#[.int .i64 a1_0,.int .i64 a1_1]) (t:=50) ?hr ?_;(case hd=>rfl);(case hg=>rfl);(case hr=>first | (go_simp;done) | (go_simp;rfl));intro gb102 hg w6 hbox hb;have n0_:=zz31 (zz11 (g:=gb101) (o:=.cells #[.int .i64 a0_0,.int .i64 a0_1] 50 (0,0)) (by (with_reducible repeat (first | refine zz6 ?_ _ | refine zz7 ?_ | refine zz8 ?_ _));exact BK101.out) hb);have n1_:=zz31 (zz4 (by repeat first | exact HB.out | apply zz2 | apply zz0 | apply zz1 | refine zz3 ?_ GE101.out) hb);have n2_:=zz31 (hbox);have n3_:=zz31 ((by rw [hg];exact (zz5 (by repeat first | exact HB.out | apply zz2 | apply zz0 | apply zz1 | refine zz3 ?_ GE101.out)):w.heap.size≤gb102));have n4_:=zz31 ((by rw [hg];exact (zz5 (by repeat first | exact HB.out | apply zz2 | apply zz0 | apply zz1 | refine zz3 ?_ GE101.out)):w.heap.size≤gb102));have n5_:=zz31 ((by rw [hg];exact Nat.ne_of_lt (blk_lt (g:=gb101) (o:=.cells #[.int .i64 a0_0,.int .i64 a0_1] 50 (0,0)) (by (with_reducible repeat (first | refine zz6 ?_ _ | refine zz7 ?_ | refine zz8 ?_ _));exact BK101.out)):gb101 ≠ gb102));have n6_:=zz31 ((by rw [hg];exact Nat.ne_of_gt (blk_lt (g:=gb101) (o:=.cells #[.int .i64 a0_0,.int .i64 a0_1] 50 (0,0)) (by (with_reducible repeat (first | refine zz6 ?_ _ | refine zz7 ?_ | refine zz8 ?_ _));exact BK101.out)):gb102 ≠ gb101));clear BK101;clear HB;have BK101:=n0_;have HB:=n1_;have BK102:=n2_;have GW102:=n3_;have GE102:=n4_;have NB101_102:=n5_;have NB102_101:=n6_;clear n0_ n1_ n2_ n3_ n4_ n5_ n6_;clear hb hbox hg;have hnb7:=NB101_102.out;have hnc7:=NB102_101.out;have hcz8_0:w6.cell? ⟨gb101,0,none⟩=some (.int .i64 a0_0):=(zz9 BK101.out 0).trans rfl;have hcz8_1:w6.cell? ⟨gb101,1,none⟩=some (.int .i64 a0_1):=(zz9 BK101.out 1).trans rfl;have hfz8_0:=zz10 BK101.out 0;have hfz8_1:=zz10 BK101.out 1;have hcz9_0:w6.cell? ⟨gb102,0,none⟩=some (.int .i64 a1_0):=(zz9 BK102.out 0).trans rfl;have hcz9_1:w6.cell? ⟨gb102,1,none⟩=some (.int .i64 a1_1):=(zz9 BK102.out 1).trans rfl;have hfz9_0:=zz10 BK102.out 0;have hfz9_1:=zz10 BK102.out 1))
   go_ret
   exact ⟨by first | rfl | (simp [errW_none,errW_some] <;> rfl) | (simp [*,errW_none,errW_some] <;> rfl),by repeat first | exact HB.out | apply zz2 | apply zz0 | apply zz1 | refine zz3 ?_ GE101.out | refine zz3 ?_ GE102.out⟩
  ·rw [if_neg c4] at H
   have c4b0:(a0_1 == a1_1)=false:=beq_eq_false_iff_ne.mpr c4
   have c4b1:(a0_1 != a1_1)=true:=bne_iff_ne.mpr c4
   obtain rfl:=Option.some.inj H
   go_enter Tryd.func35,Tryd.ntmps35
   go_wp2_with (first | ((with_reducible refine gate_dst (N:=2) rfl ?_);refine box_event ?hg (N:=2) ?hd (cs:=#[.int .i64 a0_0,.int .i64 a0_1]) (t:=50) ?hr ?_;(case hd=>rfl);(case hg=>rfl);(case hr=>first | (go_simp;done) | (go_simp;rfl));intro gb101 hg w10 hbox hb;have n0_:=zz31 (zz4 (by repeat first | exact HB.out | apply zz2 | apply zz0 | apply zz1) hb);have n1_:=zz31 (hbox);have n2_:=zz31 ((by rw [hg];exact (zz5 (by repeat first | exact HB.out | apply zz2 | apply zz0 | apply zz1)):w.heap.size≤gb101));have n3_:=zz31 ((by rw [hg];exact (zz5 (by repeat first | exact HB.out | apply zz2 | apply zz0 | apply zz1)):w.heap.size≤gb101));clear HB;have HB:=n0_;have BK101:=n1_;have GW101:=n2_;have GE101:=n3_;clear n0_ n1_ n2_ n3_;clear hb hbox hg) | ((with_reducible refine gate_dst (N:=3) rfl ?_);refine box_event ?hg (N:=3) ?hd (cs:=#[.int .i64 a1_0,.int .i64 a1_1]) (t:=50) ?hr ?_;(case hd=>rfl);(case hg=>rfl);(case hr=>first | (go_simp;done) | (go_simp;rfl));intro gb102 hg w11 hbox hb;have n0_:=zz31 (zz11 (g:=gb101) (o:=.cells #[.int .i64 a0_0,.int .i64 a0_1] 50 (0,0)) (by (with_reducible repeat (first | refine zz6 ?_ _ | refine zz7 ?_ | refine zz8 ?_ _));exact BK101.out) hb);have n1_:=zz31 (zz4 (by repeat first | exact HB.out | apply zz2 | apply zz0 | apply zz1 | refine zz3 ?_ GE101.out) hb);have n2_:=zz31 (hbox);have n3_:=zz31 ((by rw [hg];exact (zz5 (by repeat first | exact HB.out | apply zz2 | apply zz0 | apply zz1 | refine zz3 ?_ GE101.out)):w.heap.size≤gb102));have n4_:=zz31 ((by rw [hg];exact (zz5 (by repeat first | exact HB.out | apply zz2 | apply zz0 | apply zz1 | refine zz3 ?_ GE101.out)):w.heap.size≤gb102));have n5_:=zz31 ((by rw [hg];exact Nat.ne_of_lt (blk_lt (g:=gb101) (o:=.cells #[.int .i64 a0_0,.int .i64 a0_1] 50 (0,0)) (by (with_reducible repeat (first | refine zz6 ?_ _ | refine zz7 ?_ | refine zz8 ?_ _));exact BK101.out)):gb101 ≠ gb102));have n6_:=zz31 ((by rw [hg];exact Nat.ne_of_gt (blk_lt (g:=gb101) (o:=.cells #[.int .i64 a0_0,.int .i64 a0_1] 50 (0,0)) (by (with_reducible repeat (first | refine zz6 ?_ _ | refine zz7 ?_ | refine zz8 ?_ _));exact BK101.out)):gb102 ≠ gb101));clear BK101;clear HB;have BK101:=n0_;have HB:=n1_;have BK102:=n2_;have GW102:=n3_;have GE102:=n4_;have NB101_102:=n5_;have NB102_101:=n6_;clear n0_ n1_ n2_ n3_ n4_ n5_ n6_;clear hb hbox hg;have hnb12:=NB101_102.out;have hnc12:=NB102_101.out;have hcz13_0:w11.cell? ⟨gb101,0,none⟩=some (.int .i64 a0_0):=(zz9 BK101.out 0).trans rfl;have hcz13_1:w11.cell? ⟨gb101,1,none⟩=some (.int .i64 a0_1):=(zz9 BK101.out 1).trans rfl;have hfz13_0:=zz10 BK101.out 0;have hfz13_1:=zz10 BK101.out 1;have hcz14_0:w11.cell? ⟨gb102,0,none⟩=some (.int .i64 a1_0):=(zz9 BK102.out 0).trans rfl;have hcz14_1:w11.cell? ⟨gb102,1,none⟩=some (.int .i64 a1_1):=(zz9 BK102.out 1).trans rfl;have hfz14_0:=zz10 BK102.out 0;have hfz14_1:=zz10 BK102.out 1))
   go_ret
   exact ⟨by first | rfl | (simp [errW_none,errW_some] <;> rfl) | (simp [*,errW_none,errW_some] <;> rfl),by repeat first | exact HB.out | apply zz2 | apply zz0 | apply zz1 | refine zz3 ?_ GE101.out | refine zz3 ?_ GE102.out⟩
 ·rw [if_neg c3] at H
  have c3b0:(a0_0 == a1_0)=false:=beq_eq_false_iff_ne.mpr c3
  have c3b1:(a0_0 != a1_0)=true:=bne_iff_ne.mpr c3
  obtain rfl:=Option.some.inj H
  go_enter Tryd.func35,Tryd.ntmps35
  go_wp2_with (first | ((with_reducible refine gate_dst (N:=2) rfl ?_);refine box_event ?hg (N:=2) ?hd (cs:=#[.int .i64 a0_0,.int .i64 a0_1]) (t:=50) ?hr ?_;(case hd=>rfl);(case hg=>rfl);(case hr=>first | (go_simp;done) | (go_simp;rfl));intro gb101 hg w15 hbox hb;have n0_:=zz31 (zz4 (by repeat first | exact HB.out | apply zz2 | apply zz0 | apply zz1) hb);have n1_:=zz31 (hbox);have n2_:=zz31 ((by rw [hg];exact (zz5 (by repeat first | exact HB.out | apply zz2 | apply zz0 | apply zz1)):w.heap.size≤gb101));have n3_:=zz31 ((by rw [hg];exact (zz5 (by repeat first | exact HB.out | apply zz2 | apply zz0 | apply zz1)):w.heap.size≤gb101));clear HB;have HB:=n0_;have BK101:=n1_;have GW101:=n2_;have GE101:=n3_;clear n0_ n1_ n2_ n3_;clear hb hbox hg) | ((with_reducible refine gate_dst (N:=3) rfl ?_);refine box_event ?hg (N:=3) ?hd (cs:=#[.int .i64 a1_0,.int .i64 a1_1]) (t:=50) ?hr ?_;(case hd=>rfl);(case hg=>rfl);(case hr=>first | (go_simp;done) | (go_simp;rfl));intro gb102 hg w16 hbox hb;have n0_:=zz31 (zz11 (g:=gb101) (o:=.cells #[.int .i64 a0_0,.int .i64 a0_1] 50 (0,0)) (by (with_reducible repeat (first | refine zz6 ?_ _ | refine zz7 ?_ | refine zz8 ?_ _));exact BK101.out) hb);have n1_:=zz31 (zz4 (by repeat first | exact HB.out | apply zz2 | apply zz0 | apply zz1 | refine zz3 ?_ GE101.out) hb);have n2_:=zz31 (hbox);have n3_:=zz31 ((by rw [hg];exact (zz5 (by repeat first | exact HB.out | apply zz2 | apply zz0 | apply zz1 | refine zz3 ?_ GE101.out)):w.heap.size≤gb102));have n4_:=zz31 ((by rw [hg];exact (zz5 (by repeat first | exact HB.out | apply zz2 | apply zz0 | apply zz1 | refine zz3 ?_ GE101.out)):w.heap.size≤gb102));have n5_:=zz31 ((by rw [hg];exact Nat.ne_of_lt (blk_lt (g:=gb101) (o:=.cells #[.int .i64 a0_0,.int .i64 a0_1] 50 (0,0)) (by (with_reducible repeat (first | refine zz6 ?_ _ | refine zz7 ?_ | refine zz8 ?_ _));exact BK101.out)):gb101 ≠ gb102));have n6_:=zz31 ((by rw [hg];exact Nat.ne_of_gt (blk_lt (g:=gb101) (o:=.cells #[.int .i64 a0_0,.int .i64 a0_1] 50 (0,0)) (by (with_reducible repeat (first | refine zz6 ?_ _ | refine zz7 ?_ | refine zz8 ?_ _));exact BK101.out)):gb102 ≠ gb101));clear BK101;clear HB;have BK101:=n0_;have HB:=n1_;have BK102:=n2_;have GW102:=n3_;have GE102:=n4_;have NB101_102:=n5_;have NB102_101:=n6_;clear n0_ n1_ n2_ n3_ n4_ n5_ n6_;clear hb hbox hg;have hnb17:=NB101_102.out;have hnc17:=NB102_101.out;have hcz18_0:w16.cell? ⟨gb101,0,none⟩=some (.int .i64 a0_0):=(zz9 BK101.out 0).trans rfl;have hcz18_1:w16.cell? ⟨gb101,1,none⟩=some (.int .i64 a0_1):=(zz9 BK101.out 1).trans rfl;have hfz18_0:=zz10 BK101.out 0;have hfz18_1:=zz10 BK101.out 1;have hcz19_0:w16.cell? ⟨gb102,0,none⟩=some (.int .i64 a1_0):=(zz9 BK102.out 0).trans rfl;have hcz19_1:w16.cell? ⟨gb102,1,none⟩=some (.int .i64 a1_1):=(zz9 BK102.out 1).trans rfl;have hfz19_0:=zz10 BK102.out 0;have hfz19_1:=zz10 BK102.out 1))
  go_ret
  exact ⟨by first | rfl | (simp [errW_none,errW_some] <;> rfl) | (simp [*,errW_none,errW_some] <;> rfl),by repeat first | exact HB.out | apply zz2 | apply zz0 | apply zz1 | refine zz3 ?_ GE101.out | refine zz3 ?_ GE102.out⟩

/-! ### laws_eqPairS: function 20 -/
def laws_eqPairS.l0:Nat→List (S50)→List (S50)→Int→Option (Bool)
 | 0,_,_,_=>none
 | k+1,x0,x1,x5=>if x5 < (x0.length:Int) then (if 0≤x5 then (if x5 < (x1.length:Int) then ((laws_eqPair.f ((rd_T50 x0 x5).f0) ((rd_T50 x0 x5).f1) ((rd_T50 x1 x5).f0) ((rd_T50 x1 x5).f1)).bind fun t105=>(if t105=true then (laws_eqPairS.l0 k x0 x1 (wrap64 (x5+1))) else (some false))) else (none)) else (none)) else (some true)
def laws_eqPairS.f (k:Nat) (l0:List (S50)) (l1:List (S50)):Option (Bool):=if (l0.length:Int)=(l1.length:Int) then (laws_eqPairS.l0 k l0 l1 0) else (some false)
theorem laws_eqPairS.mono_l:∀ k,(∀ y0 y1 y2,LeO (laws_eqPairS.l0 k y0 y1 y2) (laws_eqPairS.l0 (k+1) y0 y1 y2))
 | 0=>fun _ _ _ r h=>by simp [laws_eqPairS.l0] at h
 | k+1=>by
  have ih0:=laws_eqPairS.mono_l k
  ·intro y0 y1 y2
   unfold laws_eqPairS.l0
   repeat' first
   | (with_reducible exact ih0 _ _ _)
   | (with_reducible exact LeO.refl _)
   | (with_reducible exact LeO.none _)
   | (with_reducible refine LeO.ite ?_ ?_)
   | (with_reducible refine LeO.bind ?_ (fun _=>?_))
   | exact ih0 _ _ _
   | exact LeO.none _
   | refine LeO.ite ?_ ?_
   | refine LeO.bind ?_ (fun _=>?_)
theorem laws_eqPairS.mono:∀ a0 a1 k,LeO (laws_eqPairS.f k a0 a1) (laws_eqPairS.f (k+1) a0 a1):=by
 intro a0 a1 k
 have ih0:=laws_eqPairS.mono_l k
 unfold laws_eqPairS.f
 repeat' first
   | (with_reducible exact ih0 _ _ _)
   | (with_reducible exact LeO.refl _)
   | (with_reducible exact LeO.none _)
   | (with_reducible refine LeO.ite ?_ ?_)
   | (with_reducible refine LeO.bind ?_ (fun _=>?_))
   | exact ih0 _ _ _
   | exact LeO.none _
   | refine LeO.ite ?_ ?_
   | refine LeO.bind ?_ (fun _=>?_)
def laws_eqPairS.T6:Bool × List (List Nat × List Nat):=(true,[([],[]),([],[]),([0,1],[0,1]),([2],[2]),([],[]),([],[]),([4,5],[4,5]),([6],[6]),([3,7],[3,7]),([8],[8])])
def laws_eqPairS.B6:List Nat:=[0,0,3,7,0,0,48,112,255,511]
theorem laws_eqPairS.tab6:rtab .any (opsOf Tryd.f20 6)=laws_eqPairS.T6:=by kernel_rfl
theorem laws_eqPairS.bits6:waitsOk laws_eqPairS.T6.2 laws_eqPairS.B6=true:=by kernel_rfl
set_option maxHeartbeats 8000000 in
set_option maxRecDepth 100000 in
theorem laws_eqPairS.calls (k:Nat) (A0:Option Addr) (c0:Nat) (l0:List (S50)) (A1:Option Addr) (c1:Nat) (l1:List (S50)) (r:Bool) (w:World) (hr0:Kd.C k50 w A0 l0.length l0) (hc0:l0.length≤c0) (hr1:Kd.C k50 w A1 l1.length l1) (hc1:l1.length≤c1) (h:laws_eqPairS.f k l0 l1=some r) :
  Calls Tryd.prog 20 #[.slice A0 l0.length c0,.slice A1 l1.length c1] w fun e w'=>e=.returned (.bool r)∧Below w.heap.size w w':=by
 have hu50:=Tryd.underlying50
 have HR0:=zz31 hr0
 have HC0:=zz31 hc0
 clear hr0 hc0
 have HR1:=zz31 hr1
 have HC1:=zz31 hc1
 clear hr1 hc1
 have HB:=zz31 (Below.refl w.heap.size w)
 have H:(if (l0.length:Int)=(l1.length:Int) then (laws_eqPairS.l0 k l0 l1 0) else (some false))=some r:=h
 clear h
 by_cases c3:(l0.length:Int)=(l1.length:Int)
 ·rw [if_pos c3] at H
  have c3b0:((l0.length:Int) == (l1.length:Int))=true:=beq_iff_eq.mpr c3
  have c3b1:((l0.length:Int) != (l1.length:Int))=false:=bne_eq_false_iff_eq.mpr c3
  have c3b2:(l0.length == l1.length)=true:=by first | simpa using c3 | (simp at c3 ⊢;omega)
  clear c3
  have H':=zz31 H
  clear H
  go_enter Tryd.func20,Tryd.ntmps20
  go_wp2
  go_loopg [5] k (fun kq v5 w'=>∃ (x5_1:Int),v5=.int .i64 x5_1∧Aside0 (laws_eqPairS.l0 kq l0 l1 x5_1=some r)∧Aside0 (kq≤k)∧Aside0 (Below w.heap.size w w'))
  case atStart=>exact ⟨(0),(by first | rfl | (simp;done) | (simp [*];done)),H',⟨Nat.le_refl _⟩,⟨by repeat first | exact HB.out | apply zz2 | apply zz0 | apply zz1⟩⟩
  case round =>
   clear H'
   try clear c1
   try clear c2
   try clear p2
   try clear c3
   try clear c3b0
   try clear c3b1
   try clear c3b2
   obtain ⟨x5_1,rfl,HA,HK1,HB⟩:=hrel
   cases gk with
   | zero=>exact absurd HA.out (by simp [laws_eqPairS.l0])
   | succ k1 =>
    have H:=HA.out
    clear HA
    simp only [laws_eqPairS.l0] at H
    by_cases c4:x5_1 < (l0.length:Int)
    ·rw [if_pos c4] at H
     have c4b0:decide (x5_1 < (l0.length:Int))=true:=decide_eq_true c4
     clear c4
     by_cases c5:0≤x5_1
     ·rw [if_pos c5] at H
      have c5b0:decide (0≤x5_1)=true:=decide_eq_true c5
      clear c5
      by_cases c6:x5_1 < (l1.length:Int)
      ·rw [if_pos c6] at H
       have c6b0:decide (x5_1 < (l1.length:Int))=true:=decide_eq_true c6
       clear c6
       replace H:=zz30.mp H
       obtain ⟨t105,A70,H⟩:=H
       replace H:(if t105=true then (laws_eqPairS.l0 k1 l0 l1 (wrap64 (x5_1+1))) else (some false))=some r:=H
       have A7:=zz31 A70
       clear A70
       by_cases c8:t105=true
       ·subst c8
        have H1:(laws_eqPairS.l0 k1 l0 l1 (wrap64 (x5_1+1)))=some r:=by rw [if_pos rfl] at H;exact H
        clear H
        have H:=H1
        clear H1
        have H':=zz31 H
        clear H
        try go_wp2
        have n0_:=zz31 (zz1 HB.out)
        clear HB
        have HB:=n0_
        clear n0_
        have p103:0≤(x5_1:Int):=zz29 (by first | (with_reducible assumption) | assumption)
        have q103:x5_1 < (l0.length:Int):=zz29 (by first | (with_reducible assumption) | assumption)
        obtain ⟨ad103,e103,hx103_0,hx103_1⟩:=at_T50 HR0.out x5_1 p103 q103
        have hw103_1:=hx103_1
        have hw103_0:=hx103_0
        cases e103
        try replace hx103_0:=(HB.out.cell (World.block_lt_of_cell? w _ hx103_0)).trans hx103_0
        try replace hx103_1:=(HB.out.cell (World.block_lt_of_cell? w _ hx103_1)).trans hx103_1
        replace p103:=eq_true p103
        replace q103:=eq_true q103
        have p104:0≤(x5_1:Int):=zz29 (by first | (with_reducible assumption) | assumption)
        have q104:x5_1 < (l1.length:Int):=zz29 (by first | (with_reducible assumption) | assumption)
        obtain ⟨ad104,e104,hx104_0,hx104_1⟩:=at_T50 HR1.out x5_1 p104 q104
        have hw104_1:=hx104_1
        have hw104_0:=hx104_0
        cases e104
        try replace hx104_0:=(HB.out.cell (World.block_lt_of_cell? w _ hx104_0)).trans hx104_0
        try replace hx104_1:=(HB.out.cell (World.block_lt_of_cell? w _ hx104_1)).trans hx104_1
        replace p104:=eq_true p104
        replace q104:=eq_true q104
        refine start_ (n:=10) (S:=fun w'=>w'.cell? (ad103.add ((x5_1).toNat * 2))=some (.int .i64 ((rd_T50 l0 x5_1).f0))∧w'.cell? ⟨(ad103.add ((x5_1).toNat * 2)).block,(ad103.add ((x5_1).toNat * 2)).off+1,none⟩=some (.int .i64 ((rd_T50 l0 x5_1).f1))∧w'.cell? (ad104.add ((x5_1).toNat * 2))=some (.int .i64 ((rd_T50 l1 x5_1).f0))∧w'.cell? ⟨(ad104.add ((x5_1).toNat * 2)).block,(ad104.add ((x5_1).toNat * 2)).off+1,none⟩=some (.int .i64 ((rd_T50 l1 x5_1).f1))) (ds:=[]) #[F,F,F,F,F,F,F,F,F,F] (by kernel_rfl) rfl rfl ⟨((HB.out.cell (World.block_lt_of_cell? w _ hw103_0)).trans hw103_0),((HB.out.cell (World.block_lt_of_cell? w _ hw103_1)).trans hw103_1),((HB.out.cell (World.block_lt_of_cell? w _ hw104_0)).trans hw104_0),((HB.out.cell (World.block_lt_of_cell? w _ hw104_1)).trans hw104_1)⟩ (fun hHeld=>?_);refine with_tabW laws_eqPairS.tab6 laws_eqPairS.bits6 (fun HT_ HW_=>?_)
        generalize wr.drew=w9 at HB hx103_0 hx103_1 hx104_0 hx104_1 hHeld ⊢
        refine pure_ (i:=0) (N:=some 17) (v:=?_) (a':=?_) #[T,F,F,F,F,F,F,F,F,F] rfl rfl (any_of HT_.out (by kernel_rfl)) (fun _ _ _ h=>h) (Or.inl ⟨by rfl,?_⟩) ?_ ?_
        rotate_left
        ·intro w'
         go_simp
         with_reducible rfl
        rotate_left
        ·simp only [Act.put,zz21,zz22,zz23,i64_w,i32_w]
         rfl
        refine pure_ (i:=1) (N:=some 18) (v:=?_) (a':=?_) #[T,T,F,F,F,F,F,F,F,F] rfl rfl (any_of HT_.out (by kernel_rfl)) (fun _ _ _ h=>h) (Or.inl ⟨by rfl,?_⟩) ?_ ?_
        rotate_left
        ·intro w'
         go_simp
         with_reducible rfl
        rotate_left
        ·simp only [Act.put,zz21,zz22,zz23,i64_w,i32_w]
         rfl
        refine pure_ (i:=2) (N:=some 19) (v:=?_) (a':=?_) #[T,T,T,F,F,F,F,F,F,F] rfl rfl (any_of HT_.out (by kernel_rfl)) (fun _ _ _ h=>h) (Or.inl ⟨by rfl,?_⟩) ?_ ?_
        rotate_left
        ·intro w'
         go_simp
         with_reducible rfl
        rotate_left
        ·simp only [Act.put,zz21,zz22,zz23,i64_w,i32_w]
         rfl
        refine pure_ (i:=4) (N:=some 21) (v:=?_) (a':=?_) #[T,T,T,F,T,F,F,F,F,F] rfl rfl (any_of HT_.out (by kernel_rfl)) (fun _ _ _ h=>h) (Or.inl ⟨by rfl,?_⟩) ?_ ?_
        rotate_left
        ·intro w'
         go_simp
         with_reducible rfl
        rotate_left
        ·simp only [Act.put,zz21,zz22,zz23,i64_w,i32_w]
         rfl
        refine pure_ (i:=5) (N:=some 22) (v:=?_) (a':=?_) #[T,T,T,F,T,T,F,F,F,F] rfl rfl (any_of HT_.out (by kernel_rfl)) (fun _ _ _ h=>h) (Or.inl ⟨by rfl,?_⟩) ?_ ?_
        rotate_left
        ·intro w'
         go_simp
         with_reducible rfl
        rotate_left
        ·simp only [Act.put,zz21,zz22,zz23,i64_w,i32_w]
         rfl
        refine pure_ (i:=6) (N:=some 23) (v:=?_) (a':=?_) #[T,T,T,F,T,T,T,F,F,F] rfl rfl (any_of HT_.out (by kernel_rfl)) (fun _ _ _ h=>h) (Or.inl ⟨by rfl,?_⟩) ?_ ?_
        rotate_left
        ·intro w'
         go_simp
         with_reducible rfl
        rotate_left
        ·simp only [Act.put,zz21,zz22,zz23,i64_w,i32_w]
         rfl
        refine take_ (i:=3) (N:=some 20) (v:=?_) (a':=?_) #[T,T,T,T,T,T,T,F,F,F] rfl rfl (take_ofW HT_.out HW_.out (by kernel_rfl)) (fun _ _ _ h=>h) (Or.inl ⟨by rfl,?_⟩) hHeld ?_ ?_
        rotate_left
        ·rintro w' ⟨s0,s1,s2,s3⟩
         go_simp
         with_reducible rfl
        rotate_left
        ·simp only [Act.put,zz21,zz22,zz23,i64_w,i32_w]
         rfl
        refine take_ (i:=7) (N:=some 24) (v:=?_) (a':=?_) #[T,T,T,T,T,T,T,T,F,F] rfl rfl (take_ofW HT_.out HW_.out (by kernel_rfl)) (fun _ _ _ h=>h) (Or.inl ⟨by rfl,?_⟩) hHeld ?_ ?_
        rotate_left
        ·rintro w' ⟨s0,s1,s2,s3⟩
         go_simp
         with_reducible rfl
        rotate_left
        ·simp only [Act.put,zz21,zz22,zz23,i64_w,i32_w]
         rfl
        refine one_ (i:=8) (N:=some 25) #[T,T,T,T,T,T,T,T,T,F] rfl rfl (one_of HT_.out (by kernel_rfl)) (by decide) (fun K hK=>?_)
        refine goes_ Tryd.func35 (by kernel_rfl) rfl #[.agg #[.int .i64 ((rd_T50 l0 x5_1).f0),.int .i64 ((rd_T50 l0 x5_1).f1)],.agg #[.int .i64 ((rd_T50 l1 x5_1).f0),.int .i64 ((rd_T50 l1 x5_1).f1)]] (by rfl) rfl rfl (by (try simp only [zz26,zz27,zz28]);first | done | rfl | (simp only [zz24,zz25];rfl)) ?_
        with_reducible refine (laws_eqPair.calls ((rd_T50 l0 x5_1).f0) ((rd_T50 l0 x5_1).f1) ((rd_T50 l1 x5_1).f0) ((rd_T50 l1 x5_1).f1) true _ A7.out).mono ?_
        rintro e w10 ⟨rfl,hb⟩
        refine ⟨_,rfl,?_⟩
        have n0_:=zz31 (zz4 (by repeat first | exact HB.out | apply zz2 | apply zz0 | apply zz1) hb)
        clear HB
        have HB:=n0_
        clear n0_
        (try clear hb)
        (try clear hb2)
        (try clear hk)
        (try clear hi)
        refine hK.out _ _ ⟨((HB.out.cell (World.block_lt_of_cell? w _ hw103_0)).trans hw103_0),((HB.out.cell (World.block_lt_of_cell? w _ hw103_1)).trans hw103_1),((HB.out.cell (World.block_lt_of_cell? w _ hw104_0)).trans hw104_0),((HB.out.cell (World.block_lt_of_cell? w _ hw104_1)).trans hw104_1)⟩ (fun hHeld=>?_)
        clear hK K
        refine norm_ (a':=?_) ?_ ?_
        rotate_left
        ·show Act.put _ (some 25) _=_
         simp only [Act.put,zz21,zz22,zz23,i64_w,i32_w]
         rfl
        refine pure_ (i:=9) (N:=some 26) (v:=?_) (a':=?_) #[T,T,T,T,T,T,T,T,T,T] rfl rfl (any_of HT_.out (by kernel_rfl)) (fun _ _ _ h=>h) (Or.inl ⟨by rfl,?_⟩) ?_ ?_
        rotate_left
        ·intro w'
         go_simp
         with_reducible rfl
        rotate_left
        ·simp only [Act.put,zz21,zz22,zz23,i64_w,i32_w]
         rfl
        refine done_ (done_of HT_.out (by kernel_rfl)) ?_
        try go_wp2
        go_roundg k1
        case measure=>have:=HK1.out;omega
        case rel=>exact ⟨(wrap64 (x5_1+1)),(by first | rfl | (simp;done) | (simp [*];done)),H',⟨by have:=HK1.out;omega⟩,⟨by repeat first | exact HB.out | apply zz2 | apply zz0 | apply zz1⟩⟩
       ·replace c8:=Bool.eq_false_iff.mpr c8
        subst c8
        have H1:(some false)=some r:=by rw [if_neg (show ¬ (false=true) by decide)] at H;exact H
        clear H
        have H:=H1
        clear H1
        obtain rfl:=Option.some.inj H
        try go_wp2
        have n0_:=zz31 (zz1 HB.out)
        clear HB
        have HB:=n0_
        clear n0_
        have p103:0≤(x5_1:Int):=zz29 (by first | (with_reducible assumption) | assumption)
        have q103:x5_1 < (l0.length:Int):=zz29 (by first | (with_reducible assumption) | assumption)
        obtain ⟨ad103,e103,hx103_0,hx103_1⟩:=at_T50 HR0.out x5_1 p103 q103
        have hw103_1:=hx103_1
        have hw103_0:=hx103_0
        cases e103
        try replace hx103_0:=(HB.out.cell (World.block_lt_of_cell? w _ hx103_0)).trans hx103_0
        try replace hx103_1:=(HB.out.cell (World.block_lt_of_cell? w _ hx103_1)).trans hx103_1
        replace p103:=eq_true p103
        replace q103:=eq_true q103
        have p104:0≤(x5_1:Int):=zz29 (by first | (with_reducible assumption) | assumption)
        have q104:x5_1 < (l1.length:Int):=zz29 (by first | (with_reducible assumption) | assumption)
        obtain ⟨ad104,e104,hx104_0,hx104_1⟩:=at_T50 HR1.out x5_1 p104 q104
        have hw104_1:=hx104_1
        have hw104_0:=hx104_0
        cases e104
        try replace hx104_0:=(HB.out.cell (World.block_lt_of_cell? w _ hx104_0)).trans hx104_0
        try replace hx104_1:=(HB.out.cell (World.block_lt_of_cell? w _ hx104_1)).trans hx104_1
        replace p104:=eq_true p104
        replace q104:=eq_true q104
        refine start_ (n:=10) (S:=fun w'=>w'.cell? (ad103.add ((x5_1).toNat * 2))=some (.int .i64 ((rd_T50 l0 x5_1).f0))∧w'.cell? ⟨(ad103.add ((x5_1).toNat * 2)).block,(ad103.add ((x5_1).toNat * 2)).off+1,none⟩=some (.int .i64 ((rd_T50 l0 x5_1).f1))∧w'.cell? (ad104.add ((x5_1).toNat * 2))=some (.int .i64 ((rd_T50 l1 x5_1).f0))∧w'.cell? ⟨(ad104.add ((x5_1).toNat * 2)).block,(ad104.add ((x5_1).toNat * 2)).off+1,none⟩=some (.int .i64 ((rd_T50 l1 x5_1).f1))) (ds:=[]) #[F,F,F,F,F,F,F,F,F,F] (by kernel_rfl) rfl rfl ⟨((HB.out.cell (World.block_lt_of_cell? w _ hw103_0)).trans hw103_0),((HB.out.cell (World.block_lt_of_cell? w _ hw103_1)).trans hw103_1),((HB.out.cell (World.block_lt_of_cell? w _ hw104_0)).trans hw104_0),((HB.out.cell (World.block_lt_of_cell? w _ hw104_1)).trans hw104_1)⟩ (fun hHeld=>?_);refine with_tabW laws_eqPairS.tab6 laws_eqPairS.bits6 (fun HT_ HW_=>?_)
        generalize wr.drew=w11 at HB hx103_0 hx103_1 hx104_0 hx104_1 hHeld ⊢
        refine pure_ (i:=0) (N:=some 17) (v:=?_) (a':=?_) #[T,F,F,F,F,F,F,F,F,F] rfl rfl (any_of HT_.out (by kernel_rfl)) (fun _ _ _ h=>h) (Or.inl ⟨by rfl,?_⟩) ?_ ?_
        rotate_left
        ·intro w'
         go_simp
         with_reducible rfl
        rotate_left
        ·simp only [Act.put,zz21,zz22,zz23,i64_w,i32_w]
         rfl
        refine pure_ (i:=1) (N:=some 18) (v:=?_) (a':=?_) #[T,T,F,F,F,F,F,F,F,F] rfl rfl (any_of HT_.out (by kernel_rfl)) (fun _ _ _ h=>h) (Or.inl ⟨by rfl,?_⟩) ?_ ?_
        rotate_left
        ·intro w'
         go_simp
         with_reducible rfl
        rotate_left
        ·simp only [Act.put,zz21,zz22,zz23,i64_w,i32_w]
         rfl
        refine pure_ (i:=2) (N:=some 19) (v:=?_) (a':=?_) #[T,T,T,F,F,F,F,F,F,F] rfl rfl (any_of HT_.out (by kernel_rfl)) (fun _ _ _ h=>h) (Or.inl ⟨by rfl,?_⟩) ?_ ?_
        rotate_left
        ·intro w'
         go_simp
         with_reducible rfl
        rotate_left
        ·simp only [Act.put,zz21,zz22,zz23,i64_w,i32_w]
         rfl
        refine pure_ (i:=4) (N:=some 21) (v:=?_) (a':=?_) #[T,T,T,F,T,F,F,F,F,F] rfl rfl (any_of HT_.out (by kernel_rfl)) (fun _ _ _ h=>h) (Or.inl ⟨by rfl,?_⟩) ?_ ?_
        rotate_left
        ·intro w'
         go_simp
         with_reducible rfl
        rotate_left
        ·simp only [Act.put,zz21,zz22,zz23,i64_w,i32_w]
         rfl
        refine pure_ (i:=5) (N:=some 22) (v:=?_) (a':=?_) #[T,T,T,F,T,T,F,F,F,F] rfl rfl (any_of HT_.out (by kernel_rfl)) (fun _ _ _ h=>h) (Or.inl ⟨by rfl,?_⟩) ?_ ?_
        rotate_left
        ·intro w'
         go_simp
         with_reducible rfl
        rotate_left
        ·simp only [Act.put,zz21,zz22,zz23,i64_w,i32_w]
         rfl
        refine pure_ (i:=6) (N:=some 23) (v:=?_) (a':=?_) #[T,T,T,F,T,T,T,F,F,F] rfl rfl (any_of HT_.out (by kernel_rfl)) (fun _ _ _ h=>h) (Or.inl ⟨by rfl,?_⟩) ?_ ?_
        rotate_left
        ·intro w'
         go_simp
         with_reducible rfl
        rotate_left
        ·simp only [Act.put,zz21,zz22,zz23,i64_w,i32_w]
         rfl
        refine take_ (i:=3) (N:=some 20) (v:=?_) (a':=?_) #[T,T,T,T,T,T,T,F,F,F] rfl rfl (take_ofW HT_.out HW_.out (by kernel_rfl)) (fun _ _ _ h=>h) (Or.inl ⟨by rfl,?_⟩) hHeld ?_ ?_
        rotate_left
        ·rintro w' ⟨s0,s1,s2,s3⟩
         go_simp
         with_reducible rfl
        rotate_left
        ·simp only [Act.put,zz21,zz22,zz23,i64_w,i32_w]
         rfl
        refine take_ (i:=7) (N:=some 24) (v:=?_) (a':=?_) #[T,T,T,T,T,T,T,T,F,F] rfl rfl (take_ofW HT_.out HW_.out (by kernel_rfl)) (fun _ _ _ h=>h) (Or.inl ⟨by rfl,?_⟩) hHeld ?_ ?_
        rotate_left
        ·rintro w' ⟨s0,s1,s2,s3⟩
         go_simp
         with_reducible rfl
        rotate_left
        ·simp only [Act.put,zz21,zz22,zz23,i64_w,i32_w]
         rfl
        refine one_ (i:=8) (N:=some 25) #[T,T,T,T,T,T,T,T,T,F] rfl rfl (one_of HT_.out (by kernel_rfl)) (by decide) (fun K hK=>?_)
        refine goes_ Tryd.func35 (by kernel_rfl) rfl #[.agg #[.int .i64 ((rd_T50 l0 x5_1).f0),.int .i64 ((rd_T50 l0 x5_1).f1)],.agg #[.int .i64 ((rd_T50 l1 x5_1).f0),.int .i64 ((rd_T50 l1 x5_1).f1)]] (by rfl) rfl rfl (by (try simp only [zz26,zz27,zz28]);first | done | rfl | (simp only [zz24,zz25];rfl)) ?_
        with_reducible refine (laws_eqPair.calls ((rd_T50 l0 x5_1).f0) ((rd_T50 l0 x5_1).f1) ((rd_T50 l1 x5_1).f0) ((rd_T50 l1 x5_1).f1) false _ A7.out).mono ?_
        rintro e w12 ⟨rfl,hb⟩
        refine ⟨_,rfl,?_⟩
        have n0_:=zz31 (zz4 (by repeat first | exact HB.out | apply zz2 | apply zz0 | apply zz1) hb)
        clear HB
        have HB:=n0_
        clear n0_
        (try clear hb)
        (try clear hb2)
        (try clear hk)
        (try clear hi)
        refine hK.out _ _ ⟨((HB.out.cell (World.block_lt_of_cell? w _ hw103_0)).trans hw103_0),((HB.out.cell (World.block_lt_of_cell? w _ hw103_1)).trans hw103_1),((HB.out.cell (World.block_lt_of_cell? w _ hw104_0)).trans hw104_0),((HB.out.cell (World.block_lt_of_cell? w _ hw104_1)).trans hw104_1)⟩ (fun hHeld=>?_)
        clear hK K
        refine norm_ (a':=?_) ?_ ?_
        rotate_left
        ·show Act.put _ (some 25) _=_
         simp only [Act.put,zz21,zz22,zz23,i64_w,i32_w]
         rfl
        refine pure_ (i:=9) (N:=some 26) (v:=?_) (a':=?_) #[T,T,T,T,T,T,T,T,T,T] rfl rfl (any_of HT_.out (by kernel_rfl)) (fun _ _ _ h=>h) (Or.inl ⟨by rfl,?_⟩) ?_ ?_
        rotate_left
        ·intro w'
         go_simp
         with_reducible rfl
        rotate_left
        ·simp only [Act.put,zz21,zz22,zz23,i64_w,i32_w]
         rfl
        refine done_ (done_of HT_.out (by kernel_rfl)) ?_
        try go_wp2
        go_ret
        exact ⟨by first | rfl | (simp [errW_none,errW_some] <;> rfl) | (simp [*,errW_none,errW_some] <;> rfl),by repeat first | exact HB.out | apply zz2 | apply zz0 | apply zz1⟩
      ·rw [if_neg c6] at H
       exact absurd H (by simp)
     ·rw [if_neg c5] at H
      exact absurd H (by simp)
    ·rw [if_neg c4] at H
     have c4b0:decide (x5_1 < (l0.length:Int))=false:=decide_eq_false c4
     clear c4
     obtain rfl:=Option.some.inj H
     go_wp2
     go_ret
     exact ⟨by first | rfl | (simp [errW_none,errW_some] <;> rfl) | (simp [*,errW_none,errW_some] <;> rfl),by repeat first | exact HB.out | apply zz2 | apply zz0 | apply zz1⟩
 ·rw [if_neg c3] at H
  have c3b0:((l0.length:Int) == (l1.length:Int))=false:=beq_eq_false_iff_ne.mpr c3
  have c3b1:((l0.length:Int) != (l1.length:Int))=true:=bne_iff_ne.mpr c3
  have c3b2:(l0.length == l1.length)=false:=by first | simpa using c3 | (simp at c3 ⊢;omega)
  obtain rfl:=Option.some.inj H
  go_enter Tryd.func20,Tryd.ntmps20
  go_wp2
  go_ret
  exact ⟨by first | rfl | (simp [errW_none,errW_some] <;> rfl) | (simp [*,errW_none,errW_some] <;> rfl),by repeat first | exact HB.out | apply zz2 | apply zz0 | apply zz1⟩

/-! ### laws_eqParty: function 9 -/
def laws_eqParty.f (k:Nat) (a0_0:Int) (l0_1:List (S50)) (a1_0:Int) (l1_1:List (S50)):Option (Bool):=if a0_0=a1_0 then ((laws_eqPairS.f k l0_1 l1_1).bind fun t108=>(if t108=true then (some true) else (some false))) else (some false)
theorem laws_eqParty.mono:∀ a0 a1 a2 a3 k,LeO (laws_eqParty.f k a0 a1 a2 a3) (laws_eqParty.f (k+1) a0 a1 a2 a3):=by
 intro a0 a1 a2 a3 k
 unfold laws_eqParty.f
 repeat' first
   | (with_reducible exact laws_eqPairS.mono _ _ _)
   | (with_reducible exact LeO.refl _)
   | (with_reducible exact LeO.none _)
   | (with_reducible refine LeO.ite ?_ ?_)
   | (with_reducible refine LeO.bind ?_ (fun _=>?_))
   | exact laws_eqPairS.mono _ _ _
   | exact LeO.none _
   | refine LeO.ite ?_ ?_
   | refine LeO.bind ?_ (fun _=>?_)
set_option maxHeartbeats 8000000 in
set_option maxRecDepth 100000 in
theorem laws_eqParty.calls (k:Nat) (a0_0:Int) (A0_1:Option Addr) (c0_1:Nat) (l0_1:List (S50)) (a1_0:Int) (A1_1:Option Addr) (c1_1:Nat) (l1_1:List (S50)) (r:Bool) (w:World) (hr0_1:Kd.C k50 w A0_1 l0_1.length l0_1) (hc0_1:l0_1.length≤c0_1) (hr1_1:Kd.C k50 w A1_1 l1_1.length l1_1) (hc1_1:l1_1.length≤c1_1) (h:laws_eqParty.f k a0_0 l0_1 a1_0 l1_1=some r) :
  Calls Tryd.prog 9 #[.agg #[.int .i64 a0_0,.slice A0_1 l0_1.length c0_1],.agg #[.int .i64 a1_0,.slice A1_1 l1_1.length c1_1]] w fun e w'=>e=.returned (.bool r)∧Below w.heap.size w w':=by
 have hu30:=Tryd.underlying30
 have HR0_1:=zz31 hr0_1
 have HC0_1:=zz31 hc0_1
 clear hr0_1 hc0_1
 have HR1_1:=zz31 hr1_1
 have HC1_1:=zz31 hc1_1
 clear hr1_1 hc1_1
 have HB:=zz31 (Below.refl w.heap.size w)
 have H:(if a0_0=a1_0 then ((laws_eqPairS.f k l0_1 l1_1).bind fun t108=>(if t108=true then (some true) else (some false))) else (some false))=some r:=h
 clear h
 by_cases c3:a0_0=a1_0
 ·rw [if_pos c3] at H
  have c3b0:(a0_0 == a1_0)=true:=beq_iff_eq.mpr c3
  have c3b1:(a0_0 != a1_0)=false:=bne_eq_false_iff_eq.mpr c3
  clear c3
  replace H:=zz30.mp H
  obtain ⟨t108,A40,H⟩:=H
  replace H:(if t108=true then (some true) else (some false))=some r:=H
  have A4:=zz31 A40
  clear A40
  by_cases c5:t108=true
  ·subst c5
   have H1:(some true)=some r:=by rw [if_pos rfl] at H;exact H
   clear H
   have H:=H1
   clear H1
   obtain rfl:=Option.some.inj H
   go_enter Tryd.func9,Tryd.ntmps9
   go_wp2_with (first | ((with_reducible refine gate_dst (N:=2) rfl ?_);refine box_event ?hg (N:=2) ?hd (cs:=#[.int .i64 a0_0,.slice A0_1 l0_1.length c0_1]) (t:=30) ?hr ?_;(case hd=>rfl);(case hg=>rfl);(case hr=>first | (go_simp;done) | (go_simp;rfl));intro gb106 hg w6 hbox hb;have n0_:=zz31 (zz4 (by repeat first | exact HB.out | apply zz2 | apply zz0 | apply zz1) hb);have n1_:=zz31 (hbox);have n2_:=zz31 ((by rw [hg];exact (zz5 (by repeat first | exact HB.out | apply zz2 | apply zz0 | apply zz1)):w.heap.size≤gb106));have n3_:=zz31 ((by rw [hg];exact (zz5 (by repeat first | exact HB.out | apply zz2 | apply zz0 | apply zz1)):w.heap.size≤gb106));clear HB;have HB:=n0_;have BK106:=n1_;have GW106:=n2_;have GE106:=n3_;clear n0_ n1_ n2_ n3_;clear hb hbox hg) | ((with_reducible refine gate_dst (N:=3) rfl ?_);refine box_event ?hg (N:=3) ?hd (cs:=#[.int .i64 a1_0,.slice A1_1 l1_1.length c1_1]) (t:=30) ?hr ?_;(case hd=>rfl);(case hg=>rfl);(case hr=>first | (go_simp;done) | (go_simp;rfl));intro gb107 hg w7 hbox hb;have n0_:=zz31 (zz11 (g:=gb106) (o:=.cells #[.int .i64 a0_0,.slice A0_1 l0_1.length c0_1] 30 (0,0)) (by (with_reducible repeat (first | refine zz6 ?_ _ | refine zz7 ?_ | refine zz8 ?_ _));exact BK106.out) hb);have n1_:=zz31 (zz4 (by repeat first | exact HB.out | apply zz2 | apply zz0 | apply zz1 | refine zz3 ?_ GE106.out) hb);have n2_:=zz31 (hbox);have n3_:=zz31 ((by rw [hg];exact (zz5 (by repeat first | exact HB.out | apply zz2 | apply zz0 | apply zz1 | refine zz3 ?_ GE106.out)):w.heap.size≤gb107));have n4_:=zz31 ((by rw [hg];exact (zz5 (by repeat first | exact HB.out | apply zz2 | apply zz0 | apply zz1 | refine zz3 ?_ GE106.out)):w.heap.size≤gb107));have n5_:=zz31 ((by rw [hg];exact Nat.ne_of_lt (blk_lt (g:=gb106) (o:=.cells #[.int .i64 a0_0,.slice A0_1 l0_1.length c0_1] 30 (0,0)) (by (with_reducible repeat (first | refine zz6 ?_ _ | refine zz7 ?_ | refine zz8 ?_ _));exact BK106.out)):gb106 ≠ gb107));have n6_:=zz31 ((by rw [hg];exact Nat.ne_of_gt (blk_lt (g:=gb106) (o:=.cells #[.int .i64 a0_0,.slice A0_1 l0_1.length c0_1] 30 (0,0)) (by (with_reducible repeat (first | refine zz6 ?_ _ | refine zz7 ?_ | refine zz8 ?_ _));exact BK106.out)):gb107 ≠ gb106));clear BK106;clear HB;have BK106:=n0_;have HB:=n1_;have BK107:=n2_;have GW107:=n3_;have GE107:=n4_;have NB106_107:=n5_;have NB107_106:=n6_;clear n0_ n1_ n2_ n3_ n4_ n5_ n6_;clear hb hbox hg;have hnb8:=NB106_107.out;have hnc8:=NB107_106.out;have hcz9_0:w7.cell? ⟨gb106,0,none⟩=some (.int .i64 a0_0):=(zz9 BK106.out 0).trans rfl;have hcz9_1:w7.cell? ⟨gb106,1,none⟩=some (.slice A0_1 l0_1.length c0_1):=(zz9 BK106.out 1).trans rfl;have hfz9_0:=zz10 BK106.out 0;have hfz9_1:=zz10 BK106.out 1;have hcz10_0:w7.cell? ⟨gb107,0,none⟩=some (.int .i64 a1_0):=(zz9 BK107.out 0).trans rfl;have hcz10_1:w7.cell? ⟨gb107,1,none⟩=some (.slice A1_1 l1_1.length c1_1):=(zz9 BK107.out 1).trans rfl;have hfz10_0:=zz10 BK107.out 0;have hfz10_1:=zz10 BK107.out 1) | ((with_reducible refine gate_callee (f:=20) rfl ?_);refine goesL_ (some 14) rfl rfl Tryd.func20 (by kernel_rfl) rfl #[.slice A0_1 l0_1.length c0_1,.slice A1_1 l1_1.length c1_1] rfl (by (try simp only [zz26,zz27,zz28]);first | done | rfl | (simp only [zz24,zz25];rfl)) ?_;(with_reducible refine (laws_eqPairS.calls k _ _ l0_1 _ _ l1_1 true _ ?side1 ?side2 ?side3 ?side4 A4.out).mono ?_);(case side1=>repeat (first | exact (Kd.C_below HR0_1.out HB.out) | (with_reducible refine zz18 ?_ _) | (with_reducible refine zz19 ?_ _) | (with_reducible refine zz20 ?_)));(case side2=>exact HC0_1.out);(case side3=>repeat (first | exact (Kd.C_below HR1_1.out HB.out) | (with_reducible refine zz18 ?_ _) | (with_reducible refine zz19 ?_ _) | (with_reducible refine zz20 ?_)));(case side4=>exact HC1_1.out);rintro e w11 ⟨rfl,hb⟩;refine ⟨_,rfl,?_⟩;have n0_:=zz31 (zz11 (g:=gb106) (o:=.cells #[.int .i64 a0_0,.slice A0_1 l0_1.length c0_1] 30 (0,0)) (by (with_reducible repeat (first | refine zz6 ?_ _ | refine zz7 ?_ | refine zz8 ?_ _));exact BK106.out) hb);have n1_:=zz31 (zz11 (g:=gb107) (o:=.cells #[.int .i64 a1_0,.slice A1_1 l1_1.length c1_1] 30 (0,0)) (by (with_reducible repeat (first | refine zz6 ?_ _ | refine zz7 ?_ | refine zz8 ?_ _));exact BK107.out) hb);have n2_:=zz31 (zz4 (by repeat first | exact HB.out | apply zz2 | apply zz0 | apply zz1 | refine zz3 ?_ GE106.out | refine zz3 ?_ GE107.out) hb);clear BK106;clear BK107;clear HB;have BK106:=n0_;have BK107:=n1_;have HB:=n2_;clear n0_ n1_ n2_;(try clear hb);(try clear hb2);(try clear hk);(try clear hi)))
   go_ret
   exact ⟨by first | rfl | (simp [errW_none,errW_some] <;> rfl) | (simp [*,errW_none,errW_some] <;> rfl),by repeat first | exact HB.out | apply zz2 | apply zz0 | apply zz1 | refine zz3 ?_ GE106.out | refine zz3 ?_ GE107.out⟩
  ·replace c5:=Bool.eq_false_iff.mpr c5
   subst c5
   have H1:(some false)=some r:=by rw [if_neg (show ¬ (false=true) by decide)] at H;exact H
   clear H
   have H:=H1
   clear H1
   obtain rfl:=Option.some.inj H
   go_enter Tryd.func9,Tryd.ntmps9
   go_wp2_with (first | ((with_reducible refine gate_dst (N:=2) rfl ?_);refine box_event ?hg (N:=2) ?hd (cs:=#[.int .i64 a0_0,.slice A0_1 l0_1.length c0_1]) (t:=30) ?hr ?_;(case hd=>rfl);(case hg=>rfl);(case hr=>first | (go_simp;done) | (go_simp;rfl));intro gb106 hg w12 hbox hb;have n0_:=zz31 (zz4 (by repeat first | exact HB.out | apply zz2 | apply zz0 | apply zz1) hb);have n1_:=zz31 (hbox);have n2_:=zz31 ((by rw [hg];exact (zz5 (by repeat first | exact HB.out | apply zz2 | apply zz0 | apply zz1)):w.heap.size≤gb106));have n3_:=zz31 ((by rw [hg];exact (zz5 (by repeat first | exact HB.out | apply zz2 | apply zz0 | apply zz1)):w.heap.size≤gb106));clear HB;have HB:=n0_;have BK106:=n1_;have GW106:=n2_;have GE106:=n3_;clear n0_ n1_ n2_ n3_;clear hb hbox hg) | ((with_reducible refine gate_dst (N:=3) rfl ?_);refine box_event ?hg (N:=3) ?hd (cs:=#[.int .i64 a1_0,.slice A1_1 l1_1.length c1_1]) (t:=30) ?hr ?_;(case hd=>rfl);(case hg=>rfl);(case hr=>first | (go_simp;done) | (go_simp;rfl));intro gb107 hg w13 hbox hb;have n0_:=zz31 (zz11 (g:=gb106) (o:=.cells #[.int .i64 a0_0,.slice A0_1 l0_1.length c0_1] 30 (0,0)) (by (with_reducible repeat (first | refine zz6 ?_ _ | refine zz7 ?_ | refine zz8 ?_ _));exact BK106.out) hb);have n1_:=zz31 (zz4 (by repeat first | exact HB.out | apply zz2 | apply zz0 | apply zz1 | refine zz3 ?_ GE106.out) hb);have n2_:=zz31 (hbox);have n3_:=zz31 ((by rw [hg];exact (zz5 (by repeat first | exact HB.out | apply zz2 | apply zz0 | apply zz1 | refine zz3 ?_ GE106.out)):w.heap.size≤gb107));have n4_:=zz31 ((by rw [hg];exact (zz5 (by repeat first | exact HB.out | apply zz2 | apply zz0 | apply zz1 | refine zz3 ?_ GE106.out)):w.heap.size≤gb107));have n5_:=zz31 ((by rw [hg];exact Nat.ne_of_lt (blk_lt (g:=gb106) (o:=.cells #[.int .i64 a0_0,.slice A0_1 l0_1.length c0_1] 30 (0,0)) (by (with_reducible repeat (first | refine zz6 ?_ _ | refine zz7 ?_ | refine zz8 ?_ _));exact BK106.out)):gb106 ≠ gb107));have n6_:=zz31 ((by rw [hg];exact Nat.ne_of_gt (blk_lt (g:=gb106) (o:=.cells #[.int .i64 a0_0,.slice A0_1 l0_1.length c0_1] 30 (0,0)) (by (with_reducible repeat (first | refine zz6 ?_ _ | refine zz7 ?_ | refine zz8 ?_ _));exact BK106.out)):gb107 ≠ gb106));clear BK106;clear HB;have BK106:=n0_;have HB:=n1_;have BK107:=n2_;have GW107:=n3_;have GE107:=n4_;have NB106_107:=n5_;have NB107_106:=n6_;clear n0_ n1_ n2_ n3_ n4_ n5_ n6_;clear hb hbox hg;have hnb14:=NB106_107.out;have hnc14:=NB107_106.out;have hcz15_0:w13.cell? ⟨gb106,0,none⟩=some (.int .i64 a0_0):=(zz9 BK106.out 0).trans rfl;have hcz15_1:w13.cell? ⟨gb106,1,none⟩=some (.slice A0_1 l0_1.length c0_1):=(zz9 BK106.out 1).trans rfl;have hfz15_0:=zz10 BK106.out 0;have hfz15_1:=zz10 BK106.out 1;have hcz16_0:w13.cell? ⟨gb107,0,none⟩=some (.int .i64 a1_0):=(zz9 BK107.out 0).trans rfl;have hcz16_1:w13.cell? ⟨gb107,1,none⟩=some (.slice A1_1 l1_1.length c1_1):=(zz9 BK107.out 1).trans rfl;have hfz16_0:=zz10 BK107.out 0;have hfz16_1:=zz10 BK107.out 1) | ((with_reducible refine gate_callee (f:=20) rfl ?_);refine goesL_ (some 14) rfl rfl Tryd.func20 (by kernel_rfl) rfl #[.slice A0_1 l0_1.length c0_1,.slice A1_1 l1_1.length c1_1] rfl (by (try simp only [zz26,zz27,zz28]);first | done | rfl | (simp only [zz24,zz25];rfl)) ?_;(with_reducible refine (laws_eqPairS.calls k _ _ l0_1 _ _ l1_1 false _ ?side1 ?side2 ?side3 ?side4 A4.out).mono ?_);(case side1=>repeat (first | exact (Kd.C_below HR0_1.out HB.out) | (with_reducible refine zz18 ?_ _) | (with_reducible refine zz19 ?_ _) | (with_reducible refine zz20 ?_)));(case side2=>exact HC0_1.out);(case side3=>repeat (first | exact (Kd.C_below HR1_1.out HB.out) | (with_reducible refine zz18 ?_ _) | (with_reducible refine zz19 ?_ _) | (with_reducible refine zz20 ?_)));(case side4=>exact HC1_1.out);rintro e w17 ⟨rfl,hb⟩;refine ⟨_,rfl,?_⟩;have n0_:=zz31 (zz11 (g:=gb106) (o:=.cells #[.int .i64 a0_0,.slice A0_1 l0_1.length c0_1] 30 (0,0)) (by (with_reducible repeat (first | refine zz6 ?_ _ | refine zz7 ?_ | refine zz8 ?_ _));exact BK106.out) hb);have n1_:=zz31 (zz11 (g:=gb107) (o:=.cells #[.int .i64 a1_0,.slice A1_1 l1_1.length c1_1] 30 (0,0)) (by (with_reducible repeat (first | refine zz6 ?_ _ | refine zz7 ?_ | refine zz8 ?_ _));exact BK107.out) hb);have n2_:=zz31 (zz4 (by repeat first | exact HB.out | apply zz2 | apply zz0 | apply zz1 | refine zz3 ?_ GE106.out | refine zz3 ?_ GE107.out) hb);clear BK106;clear BK107;clear HB;have BK106:=n0_;have BK107:=n1_;have HB:=n2_;clear n0_ n1_ n2_;(try clear hb);(try clear hb2);(try clear hk);(try clear hi)))
   go_ret
   exact ⟨by first | rfl | (simp [errW_none,errW_some] <;> rfl) | (simp [*,errW_none,errW_some] <;> rfl),by repeat first | exact HB.out | apply zz2 | apply zz0 | apply zz1 | refine zz3 ?_ GE106.out | refine zz3 ?_ GE107.out⟩
 ·rw [if_neg c3] at H
  have c3b0:(a0_0 == a1_0)=false:=beq_eq_false_iff_ne.mpr c3
  have c3b1:(a0_0 != a1_0)=true:=bne_iff_ne.mpr c3
  obtain rfl:=Option.some.inj H
  go_enter Tryd.func9,Tryd.ntmps9
  go_wp2_with (first | ((with_reducible refine gate_dst (N:=2) rfl ?_);refine box_event ?hg (N:=2) ?hd (cs:=#[.int .i64 a0_0,.slice A0_1 l0_1.length c0_1]) (t:=30) ?hr ?_;(case hd=>rfl);(case hg=>rfl);(case hr=>first | (go_simp;done) | (go_simp;rfl));intro gb106 hg w18 hbox hb;have n0_:=zz31 (zz4 (by repeat first | exact HB.out | apply zz2 | apply zz0 | apply zz1) hb);have n1_:=zz31 (hbox);have n2_:=zz31 ((by rw [hg];exact (zz5 (by repeat first | exact HB.out | apply zz2 | apply zz0 | apply zz1)):w.heap.size≤gb106));have n3_:=zz31 ((by rw [hg];exact (zz5 (by repeat first | exact HB.out | apply zz2 | apply zz0 | apply zz1)):w.heap.size≤gb106));clear HB;have HB:=n0_;have BK106:=n1_;have GW106:=n2_;have GE106:=n3_;clear n0_ n1_ n2_ n3_;clear hb hbox hg) | ((with_reducible refine gate_dst (N:=3) rfl ?_);refine box_event ?hg (N:=3) ?hd (cs:=#[.int .i64 a1_0,.slice A1_1 l1_1.length c1_1]) (t:=30) ?hr ?_;(case hd=>rfl);(case hg=>rfl);(case hr=>first | (go_simp;done) | (go_simp;rfl));intro gb107 hg w19 hbox hb;have n0_:=zz31 (zz11 (g:=gb106) (o:=.cells #[.int .i64 a0_0,.slice A0_1 l0_1.length c0_1] 30 (0,0)) (by (with_reducible repeat (first | refine zz6 ?_ _ | refine zz7 ?_ | refine zz8 ?_ _));exact BK106.out) hb);have n1_:=zz31 (zz4 (by repeat first | exact HB.out | apply zz2 | apply zz0 | apply zz1 | refine zz3 ?_ GE106.out) hb);have n2_:=zz31 (hbox);have n3_:=zz31 ((by rw [hg];exact (zz5 (by repeat first | exact HB.out | apply zz2 | apply zz0 | apply zz1 | refine zz3 ?_ GE106.out)):w.heap.size≤gb107));have n4_:=zz31 ((by rw [hg];exact (zz5 (by repeat first | exact HB.out | apply zz2 | apply zz0 | apply zz1 | refine zz3 ?_ GE106.out)):w.heap.size≤gb107));have n5_:=zz31 ((by rw [hg];exact Nat.ne_of_lt (blk_lt (g:=gb106) (o:=.cells #[.int .i64 a0_0,.slice A0_1 l0_1.length c0_1] 30 (0,0)) (by (with_reducible repeat (first | refine zz6 ?_ _ | refine zz7 ?_ | refine zz8 ?_ _));exact BK106.out)):gb106 ≠ gb107));have n6_:=zz31 ((by rw [hg];exact Nat.ne_of_gt (blk_lt (g:=gb106) (o:=.cells #[.int .i64 a0_0,.slice A0_1 l0_1.length c0_1] 30 (0,0)) (by (with_reducible repeat (first | refine zz6 ?_ _ | refine zz7 ?_ | refine zz8 ?_ _));exact BK106.out)):gb107 ≠ gb106));clear BK106;clear HB;have BK106:=n0_;have HB:=n1_;have BK107:=n2_;have GW107:=n3_;have GE107:=n4_;have NB106_107:=n5_;have NB107_106:=n6_;clear n0_ n1_ n2_ n3_ n4_ n5_ n6_;clear hb hbox hg;have hnb20:=NB106_107.out;have hnc20:=NB107_106.out;have hcz21_0:w19.cell? ⟨gb106,0,none⟩=some (.int .i64 a0_0):=(zz9 BK106.out 0).trans rfl;have hcz21_1:w19.cell? ⟨gb106,1,none⟩=some (.slice A0_1 l0_1.length c0_1):=(zz9 BK106.out 1).trans rfl;have hfz21_0:=zz10 BK106.out 0;have hfz21_1:=zz10 BK106.out 1;have hcz22_0:w19.cell? ⟨gb107,0,none⟩=some (.int .i64 a1_0):=(zz9 BK107.out 0).trans rfl;have hcz22_1:w19.cell? ⟨gb107,1,none⟩=some (.slice A1_1 l1_1.length c1_1):=(zz9 BK107.out 1).trans rfl;have hfz22_0:=zz10 BK107.out 0;have hfz22_1:=zz10 BK107.out 1))
  go_ret
  exact ⟨by first | rfl | (simp [errW_none,errW_some] <;> rfl) | (simp [*,errW_none,errW_some] <;> rfl),by repeat first | exact HB.out | apply zz2 | apply zz0 | apply zz1 | refine zz3 ?_ GE106.out | refine zz3 ?_ GE107.out⟩

/-! ### spec_l1In: function 27 -/
def spec_l1In.f (a0:Int) (a1:Int) (a2:Int):Option (Bool):=if a0 ≥ a1 then (some (decide (a0≤a2))) else (some false)
set_option maxHeartbeats 8000000 in
set_option maxRecDepth 100000 in
theorem spec_l1In.calls (a0:Int) (a1:Int) (a2:Int) (r:Bool) (w:World) (h:spec_l1In.f a0 a1 a2=some r) :
  Calls Tryd.prog 27 #[.int .i64 a0,.int .i64 a1,.int .i64 a2] w fun e w'=>e=.returned (.bool r)∧Drawn0 w w':=by
 have H:(if a0 ≥ a1 then (some (decide (a0≤a2))) else (some false))=some r:=h
 clear h
 by_cases c4:a0 ≥ a1
 ·rw [if_pos c4] at H
  have c4b0:decide (a1≤a0)=true:=decide_eq_true c4
  clear c4
  obtain rfl:=Option.some.inj H
  go_enter Tryd.func27,Tryd.ntmps27
  go_wp2
  go_ret
  exact ⟨by first | rfl | (simp;done) | (simp [*];done),by repeat (first | exact Drawn0.refl _ | apply Drawn0.step)⟩
 ·rw [if_neg c4] at H
  have c4b0:decide (a1≤a0)=false:=decide_eq_false c4
  clear c4
  obtain rfl:=Option.some.inj H
  go_enter Tryd.func27,Tryd.ntmps27
  go_wp2
  go_ret
  exact ⟨by first | rfl | (simp;done) | (simp [*];done),by repeat (first | exact Drawn0.refl _ | apply Drawn0.step)⟩

/-! ### spec_paPeople: function 26 -/
def spec_paPeople.f (a0:Int):Option (Bool):=(spec_l1In.f a0 0 12).bind fun t109=>(some t109)
set_option maxHeartbeats 8000000 in
set_option maxRecDepth 100000 in
theorem spec_paPeople.calls (a0:Int) (r:Bool) (w:World) (h:spec_paPeople.f a0=some r) :
  Calls Tryd.prog 26 #[.int .i64 a0] w fun e w'=>e=.returned (.bool r)∧Drawn0 w w':=by
 have H:((spec_l1In.f a0 0 12).bind fun t109=>(some t109))=some r:=h
 clear h
 replace H:=zz30.mp H
 obtain ⟨t109,A20,H⟩:=H
 replace H:(some t109)=some r:=H
 have A2:=zz31 A20
 clear A20
 obtain rfl:=Option.some.inj H
 go_enter Tryd.func26,Tryd.ntmps26
 go_wp2_with (first | ((with_reducible refine gate_callee (f:=27) rfl ?_);refine goesL_ (some 4) rfl rfl Tryd.func27 (by kernel_rfl) rfl #[.int .i64 a0,.int .i64 0,.int .i64 12] rfl (by (try simp only [zz26,zz27,zz28]);first | done | rfl | (simp only [zz24,zz25];rfl)) ?_;(with_reducible refine (spec_l1In.calls a0 0 12 t109 _ A2.out).mono ?_);rintro e w' ⟨rfl,⟨nd,rfl⟩⟩;refine ⟨_,rfl,?_⟩))
 go_ret
 exact ⟨by first | rfl | (simp;done) | (simp [*];done),by repeat (first | exact Drawn0.refl _ | apply Drawn0.step)⟩

/-! ### spec_paLess: function 28 -/
def spec_paLess.f (a0_0:Int) (a0_1:Int) (a1_0:Int) (a1_1:Int):Option (Bool):=if a0_0 < a1_0 then (some true) else (if a0_0=a1_0 then (some (decide (a0_1 < a1_1))) else (some false))
set_option maxHeartbeats 8000000 in
set_option maxRecDepth 100000 in
theorem spec_paLess.calls (a0_0:Int) (a0_1:Int) (a1_0:Int) (a1_1:Int) (r:Bool) (w:World) (h:spec_paLess.f a0_0 a0_1 a1_0 a1_1=some r) :
  Calls Tryd.prog 28 #[.agg #[.int .i64 a0_0,.int .i64 a0_1],.agg #[.int .i64 a1_0,.int .i64 a1_1]] w fun e w'=>e=.returned (.bool r)∧Below w.heap.size w w':=by
 have hu50:=Tryd.underlying50
 have HB:=zz31 (Below.refl w.heap.size w)
 have H:(if a0_0 < a1_0 then (some true) else (if a0_0=a1_0 then (some (decide (a0_1 < a1_1))) else (some false)))=some r:=h
 clear h
 by_cases c3:a0_0 < a1_0
 ·rw [if_pos c3] at H
  have c3b0:decide (a0_0 < a1_0)=true:=decide_eq_true c3
  clear c3
  obtain rfl:=Option.some.inj H
  go_enter Tryd.func28,Tryd.ntmps28
  go_wp2_with (first | ((with_reducible refine gate_dst (N:=2) rfl ?_);refine box_event ?hg (N:=2) ?hd (cs:=#[.int .i64 a0_0,.int .i64 a0_1]) (t:=50) ?hr ?_;(case hd=>rfl);(case hg=>rfl);(case hr=>first | (go_simp;done) | (go_simp;rfl));intro gb110 hg w4 hbox hb;have n0_:=zz31 (zz4 (by repeat first | exact HB.out | apply zz2 | apply zz0 | apply zz1) hb);have n1_:=zz31 (hbox);have n2_:=zz31 ((by rw [hg];exact (zz5 (by repeat first | exact HB.out | apply zz2 | apply zz0 | apply zz1)):w.heap.size≤gb110));have n3_:=zz31 ((by rw [hg];exact (zz5 (by repeat first | exact HB.out | apply zz2 | apply zz0 | apply zz1)):w.heap.size≤gb110));clear HB;have HB:=n0_;have BK110:=n1_;have GW110:=n2_;have GE110:=n3_;clear n0_ n1_ n2_ n3_;clear hb hbox hg) | ((with_reducible refine gate_dst (N:=3) rfl ?_);refine box_event ?hg (N:=3) ?hd (cs:=#[.int .i64 a1_0,.int .i64 a1_1]) (t:=50) ?hr ?_;(case hd=>rfl);(case hg=>rfl);(case hr=>first | (go_simp;done) | (go_simp;rfl));intro gb111 hg w5 hbox hb;have n0_:=zz31 (zz11 (g:=gb110) (o:=.cells #[.int .i64 a0_0,.int .i64 a0_1] 50 (0,0)) (by (with_reducible repeat (first | refine zz6 ?_ _ | refine zz7 ?_ | refine zz8 ?_ _));exact BK110.out) hb);have n1_:=zz31 (zz4 (by repeat first | exact HB.out | apply zz2 | apply zz0 | apply zz1 | refine zz3 ?_ GE110.out) hb);have n2_:=zz31 (hbox);have n3_:=zz31 ((by rw [hg];exact (zz5 (by repeat first | exact HB.out | apply zz2 | apply zz0 | apply zz1 | refine zz3 ?_ GE110.out)):w.heap.size≤gb111));have n4_:=zz31 ((by rw [hg];exact (zz5 (by repeat first | exact HB.out | apply zz2 | apply zz0 | apply zz1 | refine zz3 ?_ GE110.out)):w.heap.size≤gb111));have n5_:=zz31 ((by rw [hg];exact Nat.ne_of_lt (blk_lt (g:=gb110) (o:=.cells #[.int .i64 a0_0,.int .i64 a0_1] 50 (0,0)) (by (with_reducible repeat (first | refine zz6 ?_ _ | refine zz7 ?_ | refine zz8 ?_ _));exact BK110.out)):gb110 ≠ gb111));have n6_:=zz31 ((by rw [hg];exact Nat.ne_of_gt (blk_lt (g:=gb110) (o:=.cells #[.int .i64 a0_0,.int .i64 a0_1] 50 (0,0)) (by (with_reducible repeat (first | refine zz6 ?_ _ | refine zz7 ?_ | refine zz8 ?_ _));exact BK110.out)):gb111 ≠ gb110));clear BK110;clear HB;have BK110:=n0_;have HB:=n1_;have BK111:=n2_;have GW111:=n3_;have GE111:=n4_;have NB110_111:=n5_;have NB111_110:=n6_;clear n0_ n1_ n2_ n3_ n4_ n5_ n6_;clear hb hbox hg;have hnb6:=NB110_111.out;have hnc6:=NB111_110.out;have hcz7_0:w5.cell? ⟨gb110,0,none⟩=some (.int .i64 a0_0):=(zz9 BK110.out 0).trans rfl;have hcz7_1:w5.cell? ⟨gb110,1,none⟩=some (.int .i64 a0_1):=(zz9 BK110.out 1).trans rfl;have hfz7_0:=zz10 BK110.out 0;have hfz7_1:=zz10 BK110.out 1;have hcz8_0:w5.cell? ⟨gb111,0,none⟩=some (.int .i64 a1_0):=(zz9 BK111.out 0).trans rfl;have hcz8_1:w5.cell? ⟨gb111,1,none⟩=some (.int .i64 a1_1):=(zz9 BK111.out 1).trans rfl;have hfz8_0:=zz10 BK111.out 0;have hfz8_1:=zz10 BK111.out 1))
  go_ret
  exact ⟨by first | rfl | (simp [errW_none,errW_some] <;> rfl) | (simp [*,errW_none,errW_some] <;> rfl),by repeat first | exact HB.out | apply zz2 | apply zz0 | apply zz1 | refine zz3 ?_ GE110.out | refine zz3 ?_ GE111.out⟩
 ·rw [if_neg c3] at H
  have c3b0:decide (a0_0 < a1_0)=false:=decide_eq_false c3
  clear c3
  by_cases c9:a0_0=a1_0
  ·rw [if_pos c9] at H
   have c9b0:(a0_0 == a1_0)=true:=beq_iff_eq.mpr c9
   have c9b1:(a0_0 != a1_0)=false:=bne_eq_false_iff_eq.mpr c9
   clear c9
   obtain rfl:=Option.some.inj H
   go_enter Tryd.func28,Tryd.ntmps28
   go_wp2_with (first | ((with_reducible refine gate_dst (N:=2) rfl ?_);refine box_event ?hg (N:=2) ?hd (cs:=#[.int .i64 a0_0,.int .i64 a0_1]) (t:=50) ?hr ?_;(case hd=>rfl);(case hg=>rfl);(case hr=>first | (go_simp;done) | (go_simp;rfl));intro gb110 hg w10 hbox hb;have n0_:=zz31 (zz4 (by repeat first | exact HB.out | apply zz2 | apply zz0 | apply zz1) hb);have n1_:=zz31 (hbox);have n2_:=zz31 ((by rw [hg];exact (zz5 (by repeat first | exact HB.out | apply zz2 | apply zz0 | apply zz1)):w.heap.size≤gb110));have n3_:=zz31 ((by rw [hg];exact (zz5 (by repeat first | exact HB.out | apply zz2 | apply zz0 | apply zz1)):w.heap.size≤gb110));clear HB;have HB:=n0_;have BK110:=n1_;have GW110:=n2_;have GE110:=n3_;clear n0_ n1_ n2_ n3_;clear hb hbox hg) | ((with_reducible refine gate_dst (N:=3) rfl ?_);refine box_event ?hg (N:=3) ?hd (cs:=#[.int .i64 a1_0,.int .i64 a1_1]) (t:=50) ?hr ?_;(case hd=>rfl);(case hg=>rfl);(case hr=>first | (go_simp;done) | (go_simp;rfl));intro gb111 hg w11 hbox hb;have n0_:=zz31 (zz11 (g:=gb110) (o:=.cells #[.int .i64 a0_0,.int .i64 a0_1] 50 (0,0)) (by (with_reducible repeat (first | refine zz6 ?_ _ | refine zz7 ?_ | refine zz8 ?_ _));exact BK110.out) hb);have n1_:=zz31 (zz4 (by repeat first | exact HB.out | apply zz2 | apply zz0 | apply zz1 | refine zz3 ?_ GE110.out) hb);have n2_:=zz31 (hbox);have n3_:=zz31 ((by rw [hg];exact (zz5 (by repeat first | exact HB.out | apply zz2 | apply zz0 | apply zz1 | refine zz3 ?_ GE110.out)):w.heap.size≤gb111));have n4_:=zz31 ((by rw [hg];exact (zz5 (by repeat first | exact HB.out | apply zz2 | apply zz0 | apply zz1 | refine zz3 ?_ GE110.out)):w.heap.size≤gb111));have n5_:=zz31 ((by rw [hg];exact Nat.ne_of_lt (blk_lt (g:=gb110) (o:=.cells #[.int .i64 a0_0,.int .i64 a0_1] 50 (0,0)) (by (with_reducible repeat (first | refine zz6 ?_ _ | refine zz7 ?_ | refine zz8 ?_ _));exact BK110.out)):gb110 ≠ gb111));have n6_:=zz31 ((by rw [hg];exact Nat.ne_of_gt (blk_lt (g:=gb110) (o:=.cells #[.int .i64 a0_0,.int .i64 a0_1] 50 (0,0)) (by (with_reducible repeat (first | refine zz6 ?_ _ | refine zz7 ?_ | refine zz8 ?_ _));exact BK110.out)):gb111 ≠ gb110));clear BK110;clear HB;have BK110:=n0_;have HB:=n1_;have BK111:=n2_;have GW111:=n3_;have GE111:=n4_;have NB110_111:=n5_;have NB111_110:=n6_;clear n0_ n1_ n2_ n3_ n4_ n5_ n6_;clear hb hbox hg;have hnb12:=NB110_111.out;have hnc12:=NB111_110.out;have hcz13_0:w11.cell? ⟨gb110,0,none⟩=some (.int .i64 a0_0):=(zz9 BK110.out 0).trans rfl;have hcz13_1:w11.cell? ⟨gb110,1,none⟩=some (.int .i64 a0_1):=(zz9 BK110.out 1).trans rfl;have hfz13_0:=zz10 BK110.out 0;have hfz13_1:=zz10 BK110.out 1;have hcz14_0:w11.cell? ⟨gb111,0,none⟩=some (.int .i64 a1_0):=(zz9 BK111.out 0).trans rfl;have hcz14_1:w11.cell? ⟨gb111,1,none⟩=some (.int .i64 a1_1):=(zz9 BK111.out 1).trans rfl;have hfz14_0:=zz10 BK111.out 0;have hfz14_1:=zz10 BK111.out 1))
   go_ret
   exact ⟨by first | rfl | (simp [errW_none,errW_some] <;> rfl) | (simp [*,errW_none,errW_some] <;> rfl),by repeat first | exact HB.out | apply zz2 | apply zz0 | apply zz1 | refine zz3 ?_ GE110.out | refine zz3 ?_ GE111.out⟩
  ·rw [if_neg c9] at H
   have c9b0:(a0_0 == a1_0)=false:=beq_eq_false_iff_ne.mpr c9
   have c9b1:(a0_0 != a1_0)=true:=bne_iff_ne.mpr c9
   obtain rfl:=Option.some.inj H
   go_enter Tryd.func28,Tryd.ntmps28
   go_wp2_with (first | ((with_reducible refine gate_dst (N:=2) rfl ?_);refine box_event ?hg (N:=2) ?hd (cs:=#[.int .i64 a0_0,.int .i64 a0_1]) (t:=50) ?hr ?_;(case hd=>rfl);(case hg=>rfl);(case hr=>first | (go_simp;done) | (go_simp;rfl));intro gb110 hg w15 hbox hb;have n0_:=zz31 (zz4 (by repeat first | exact HB.out | apply zz2 | apply zz0 | apply zz1) hb);have n1_:=zz31 (hbox);have n2_:=zz31 ((by rw [hg];exact (zz5 (by repeat first | exact HB.out | apply zz2 | apply zz0 | apply zz1)):w.heap.size≤gb110));have n3_:=zz31 ((by rw [hg];exact (zz5 (by repeat first | exact HB.out | apply zz2 | apply zz0 | apply zz1)):w.heap.size≤gb110));clear HB;have HB:=n0_;have BK110:=n1_;have GW110:=n2_;have GE110:=n3_;clear n0_ n1_ n2_ n3_;clear hb hbox hg) | ((with_reducible refine gate_dst (N:=3) rfl ?_);refine box_event ?hg (N:=3) ?hd (cs:=#[.int .i64 a1_0,.int .i64 a1_1]) (t:=50) ?hr ?_;(case hd=>rfl);(case hg=>rfl);(case hr=>first | (go_simp;done) | (go_simp;rfl));intro gb111 hg w16 hbox hb;have n0_:=zz31 (zz11 (g:=gb110) (o:=.cells #[.int .i64 a0_0,.int .i64 a0_1] 50 (0,0)) (by (with_reducible repeat (first | refine zz6 ?_ _ | refine zz7 ?_ | refine zz8 ?_ _));exact BK110.out) hb);have n1_:=zz31 (zz4 (by repeat first | exact HB.out | apply zz2 | apply zz0 | apply zz1 | refine zz3 ?_ GE110.out) hb);have n2_:=zz31 (hbox);have n3_:=zz31 ((by rw [hg];exact (zz5 (by repeat first | exact HB.out | apply zz2 | apply zz0 | apply zz1 | refine zz3 ?_ GE110.out)):w.heap.size≤gb111));have n4_:=zz31 ((by rw [hg];exact (zz5 (by repeat first | exact HB.out | apply zz2 | apply zz0 | apply zz1 | refine zz3 ?_ GE110.out)):w.heap.size≤gb111));have n5_:=zz31 ((by rw [hg];exact Nat.ne_of_lt (blk_lt (g:=gb110) (o:=.cells #[.int .i64 a0_0,.int .i64 a0_1] 50 (0,0)) (by (with_reducible repeat (first | refine zz6 ?_ _ | refine zz7 ?_ | refine zz8 ?_ _));exact BK110.out)):gb110 ≠ gb111));have n6_:=zz31 ((by rw [hg];exact Nat.ne_of_gt (blk_lt (g:=gb110) (o:=.cells #[.int .i64 a0_0,.int .i64 a0_1] 50 (0,0)) (by (with_reducible repeat (first | refine zz6 ?_ _ | refine zz7 ?_ | refine zz8 ?_ _));exact BK110.out)):gb111 ≠ gb110));clear BK110;clear HB;have BK110:=n0_;have HB:=n1_;have BK111:=n2_;have GW111:=n3_;have GE111:=n4_;have NB110_111:=n5_;have NB111_110:=n6_;clear n0_ n1_ n2_ n3_ n4_ n5_ n6_;clear hb hbox hg;have hnb17:=NB110_111.out;have hnc17:=NB111_110.out;have hcz18_0:w16.cell? ⟨gb110,0,none⟩=some (.int .i64 a0_0):=(zz9 BK110.out 0).trans rfl;have hcz18_1:w16.cell? ⟨gb110,1,none⟩=some (.int .i64 a0_1):=(zz9 BK110.out 1).trans rfl;have hfz18_0:=zz10 BK110.out 0;have hfz18_1:=zz10 BK110.out 1;have hcz19_0:w16.cell? ⟨gb111,0,none⟩=some (.int .i64 a1_0):=(zz9 BK111.out 0).trans rfl;have hcz19_1:w16.cell? ⟨gb111,1,none⟩=some (.int .i64 a1_1):=(zz9 BK111.out 1).trans rfl;have hfz19_0:=zz10 BK111.out 0;have hfz19_1:=zz10 BK111.out 1))
   go_ret
   exact ⟨by first | rfl | (simp [errW_none,errW_some] <;> rfl) | (simp [*,errW_none,errW_some] <;> rfl),by repeat first | exact HB.out | apply zz2 | apply zz0 | apply zz1 | refine zz3 ?_ GE110.out | refine zz3 ?_ GE111.out⟩

/-! ### spec_paGood: function 15 -/
mutual
def spec_paGood.j0:Nat→Bool→Int→List (S50)→Option (Bool)
 | 0,_,_,_=>none
 | k+1,x21,x113000,x113001=>if x21=true then (some false) else (spec_paGood.l0 k x113001 (x113001.length:Int) 0 x113000 x113001)
def spec_paGood.l0:Nat→List (S50)→Int→Int→Int→List (S50)→Option (Bool)
 | 0,_,_,_,_,_=>none
 | k+1,x23,x24,x25,x113000,x113001=>if x25 < x24 then (if 0≤x25 then (if x25 < (x23.length:Int) then ((spec_l1In.f ((rd_T50 x23 x25).f0) 0 (wrap64 (x113000 - 1))).bind fun t116=>(if t116=true then ((spec_l1In.f ((rd_T50 x23 x25).f1) (wrap64 (((rd_T50 x23 x25).f0)+1)) (wrap64 (x113000 - 1))).bind fun t117=>(if t117=true then (if x25 > 0 then (if 0≤(wrap64 (x25 - 1)) then (if (wrap64 (x25 - 1)) < (x113001.length:Int) then ((spec_paLess.f ((rd_T50 x113001 (wrap64 (x25 - 1))).f0) ((rd_T50 x113001 (wrap64 (x25 - 1))).f1) ((rd_T50 x23 x25).f0) ((rd_T50 x23 x25).f1)).bind fun t119=>(if t119=true then (spec_paGood.l0 k x23 x24 (wrap64 (x25+1)) x113000 x113001) else (some false))) else (none)) else (none)) else (spec_paGood.l0 k x23 x24 (wrap64 (x25+1)) x113000 x113001)) else (some false))) else (some false))) else (none)) else (none)) else (some true)
end
def spec_paGood.f (k:Nat) (a0_0:Int) (l0_1:List (S50)):Option (Bool):=(spec_paPeople.f a0_0).bind fun t113=>(if t113=true then (spec_paGood.j0 k (decide ((l0_1.length:Int) > (wrap64 (Int.tdiv (wrap64 (a0_0 * (wrap64 (a0_0 - 1)))) 2)))) a0_0 l0_1) else (spec_paGood.j0 k true a0_0 l0_1))
theorem spec_paGood.mono_l:∀ k,(∀ y0 y1 y2,LeO (spec_paGood.j0 k y0 y1 y2) (spec_paGood.j0 (k+1) y0 y1 y2))∧(∀ y0 y1 y2 y3 y4,LeO (spec_paGood.l0 k y0 y1 y2 y3 y4) (spec_paGood.l0 (k+1) y0 y1 y2 y3 y4))
 | 0=>⟨fun _ _ _ r h=>by simp [spec_paGood.j0] at h,fun _ _ _ _ _ r h=>by simp [spec_paGood.l0] at h⟩
 | k+1=>by
  obtain ⟨ih0,ih1⟩:=spec_paGood.mono_l k
  refine ⟨?_,?_⟩
  ·intro y0 y1 y2
   unfold spec_paGood.j0
   repeat' first
   | (with_reducible exact ih0 _ _ _)
   | (with_reducible exact ih1 _ _ _ _ _)
   | (with_reducible exact LeO.refl _)
   | (with_reducible exact LeO.none _)
   | (with_reducible refine LeO.ite ?_ ?_)
   | (with_reducible refine LeO.bind ?_ (fun _=>?_))
   | exact ih0 _ _ _
   | exact ih1 _ _ _ _ _
   | exact LeO.none _
   | refine LeO.ite ?_ ?_
   | refine LeO.bind ?_ (fun _=>?_)
  ·intro y0 y1 y2 y3 y4
   unfold spec_paGood.l0
   repeat' first
   | (with_reducible exact ih0 _ _ _)
   | (with_reducible exact ih1 _ _ _ _ _)
   | (with_reducible exact LeO.refl _)
   | (with_reducible exact LeO.none _)
   | (with_reducible refine LeO.ite ?_ ?_)
   | (with_reducible refine LeO.bind ?_ (fun _=>?_))
   | exact ih0 _ _ _
   | exact ih1 _ _ _ _ _
   | exact LeO.none _
   | refine LeO.ite ?_ ?_
   | refine LeO.bind ?_ (fun _=>?_)
theorem spec_paGood.mono:∀ a0 a1 k,LeO (spec_paGood.f k a0 a1) (spec_paGood.f (k+1) a0 a1):=by
 intro a0 a1 k
 obtain ⟨ih0,ih1⟩:=spec_paGood.mono_l k
 unfold spec_paGood.f
 repeat' first
   | (with_reducible exact ih0 _ _ _)
   | (with_reducible exact ih1 _ _ _ _ _)
   | (with_reducible exact LeO.refl _)
   | (with_reducible exact LeO.none _)
   | (with_reducible refine LeO.ite ?_ ?_)
   | (with_reducible refine LeO.bind ?_ (fun _=>?_))
   | exact ih0 _ _ _
   | exact ih1 _ _ _ _ _
   | exact LeO.none _
   | refine LeO.ite ?_ ?_
   | refine LeO.bind ?_ (fun _=>?_)
def spec_paGood.T6:Bool × List (List Nat × List Nat):=(true,[([],[]),([0],[0]),([],[]),([2],[2]),([3],[3]),([1,4],[1,4]),([5],[5]),([6,5],[6]),([7],[7]),([8,7],[7,8]),([7],[7]),([10,7],[7,10]),([11,7],[7,11]),([7],[7]),([13,7],[7,13]),([14,7],[7,14]),([9,12,15,7,7],[7,9,12,15]),([16,7],[7,16]),([7,17],[7,17]),([18,16],[18]),([19],[19]),([20,19],[19,20]),([21,19,19],[19,21]),([22],[22]),([23,22],[22,23]),([22],[22]),([25,22],[22,25]),([24,26,22],[22,24,26]),([27,22],[22,27]),([22],[22]),([28,29,22,22],[22,28,29]),([30,22],[22,30]),([22,31,19],[19,22,31]),([19,32],[19,32])])
def spec_paGood.B6:List Nat:=[0,1,0,4,12,31,63,127,255,511,255,1279,3327,255,8447,24831,65535,131071,262143,524287,1048575,2097151,4194303,8388607,16777215,8388607,41943039,134217727,268435455,8388607,1073741823,2147483647,4294967295,8589934591]
theorem spec_paGood.tab6:rtab .any (opsOf Tryd.f15 6)=spec_paGood.T6:=by kernel_rfl
theorem spec_paGood.bits6:waitsOk spec_paGood.T6.2 spec_paGood.B6=true:=by kernel_rfl
set_option maxHeartbeats 8000000 in
set_option maxRecDepth 100000 in
theorem spec_paGood.calls (k:Nat) (a0_0:Int) (A0_1:Option Addr) (c0_1:Nat) (l0_1:List (S50)) (r:Bool) (w:World) (hr0_1:Kd.C k50 w A0_1 l0_1.length l0_1) (hc0_1:l0_1.length≤c0_1) (h:spec_paGood.f k a0_0 l0_1=some r) :
  Calls Tryd.prog 15 #[.agg #[.int .i64 a0_0,.slice A0_1 l0_1.length c0_1]] w fun e w'=>e=.returned (.bool r)∧Below w.heap.size w w':=by
 have hu30:=Tryd.underlying30
 have hu50:=Tryd.underlying50
 have HR0_1:=zz31 hr0_1
 have HC0_1:=zz31 hc0_1
 clear hr0_1 hc0_1
 have HB:=zz31 (Below.refl w.heap.size w)
 have H:((spec_paPeople.f a0_0).bind fun t113=>(if t113=true then (spec_paGood.j0 k (decide ((l0_1.length:Int) > (wrap64 (Int.tdiv (wrap64 (a0_0 * (wrap64 (a0_0 - 1)))) 2)))) a0_0 l0_1) else (spec_paGood.j0 k true a0_0 l0_1)))=some r:=h
 clear h
 have HC2:=zz31 H
 clear H
 go_enter Tryd.func15,Tryd.ntmps15
 go_upto_region 1 with (first | ((with_reducible refine gate_dst (N:=1) rfl ?_);(try (refine gate_guard (by rfl) ?_;dsimp only));refine box_event ?hg (N:=1) ?hd (cs:=#[.int .i64 a0_0,.slice A0_1 l0_1.length c0_1]) (t:=30) ?hr ?_;(case hd=>rfl);(case hg=>rfl);(case hr=>first | (go_simp;done) | (go_simp;rfl));intro gb112 hg w3 hbox hb;have n0_:=zz31 (zz4 (by repeat first | exact HB.out | apply zz2 | apply zz0 | apply zz1) hb);have n1_:=zz31 (hbox);have n2_:=zz31 ((by rw [hg];exact (zz5 (by repeat first | exact HB.out | apply zz2 | apply zz0 | apply zz1)):w.heap.size≤gb112));have n3_:=zz31 ((by rw [hg];exact (zz5 (by repeat first | exact HB.out | apply zz2 | apply zz0 | apply zz1)):w.heap.size≤gb112));clear HB;have HB:=n0_;have BK112:=n1_;have GW112:=n2_;have GE112:=n3_;clear n0_ n1_ n2_ n3_;clear hb hbox hg))
 (try simp only [Act.put,zz21,zz22,zz23])
 go_cut [21] (fun v21 wc=>∃ (kq:Nat) (x21_1:Bool),v21=.bool x21_1∧Aside0 (spec_paGood.j0 kq x21_1 a0_0 l0_1=some r)∧Aside0 (kq≤k)∧Aside0 (wc.heap[gb112]?=some (.cells #[.int .i64 a0_0,(.slice A0_1 l0_1.length c0_1)] 30 (0,0)))∧Aside0 (Below w.heap.size w wc))
 case first =>
  have H:=HC2.out
  clear HC2
  replace H:=zz30.mp H
  obtain ⟨t113,A40,H⟩:=H
  replace H:(if t113=true then (spec_paGood.j0 k (decide ((l0_1.length:Int) > (wrap64 (Int.tdiv (wrap64 (a0_0 * (wrap64 (a0_0 - 1)))) 2)))) a0_0 l0_1) else (spec_paGood.j0 k true a0_0 l0_1))=some r:=H
  have A4:=zz31 A40
  clear A40
  by_cases c5:t113=true
  ·subst c5
   have H1:(spec_paGood.j0 k (decide ((l0_1.length:Int) > (wrap64 (Int.tdiv (wrap64 (a0_0 * (wrap64 (a0_0 - 1)))) 2)))) a0_0 l0_1)=some r:=by rw [if_pos rfl] at H;exact H
   clear H
   have H:=H1
   clear H1
   have H':=zz31 H
   clear H
   have hcz6_0:w3.cell? ⟨gb112,0,none⟩=some (.int .i64 a0_0):=(zz9 BK112.out 0).trans rfl
   have hcz6_1:w3.cell? ⟨gb112,1,none⟩=some (.slice A0_1 l0_1.length c0_1):=(zz9 BK112.out 1).trans rfl
   have hfz6_0:=zz10 BK112.out 0
   have hfz6_1:=zz10 BK112.out 1
   go_wp2_with (first | ((with_reducible refine gate_callee (f:=26) rfl ?_);refine goesL_ (some 7) rfl rfl Tryd.func26 (by kernel_rfl) rfl #[.int .i64 a0_0] rfl (by (try simp only [zz26,zz27,zz28]);first | done | rfl | (simp only [zz24,zz25];rfl)) ?_;(with_reducible refine (spec_paPeople.calls a0_0 true _ A4.out).mono ?_);rintro e w' ⟨rfl,⟨nd,rfl⟩⟩;refine ⟨_,rfl,?_⟩))
   go_meet
   case rel=>exact ⟨_,(decide ((l0_1.length:Int) > (wrap64 (Int.tdiv (wrap64 (a0_0 * (wrap64 (a0_0 - 1)))) 2)))),(by first | rfl | (simp;done) | (simp [*];done)),H',⟨by first | omega | exact Nat.le_refl _⟩,⟨by (with_reducible repeat (first | refine zz6 ?_ _ | refine zz7 ?_ | refine zz8 ?_ _));exact BK112.out⟩,⟨by repeat first | exact HB.out | apply zz2 | apply zz0 | apply zz1 | refine zz3 ?_ GE112.out⟩⟩
  ·replace c5:=Bool.eq_false_iff.mpr c5
   subst c5
   have H1:(spec_paGood.j0 k true a0_0 l0_1)=some r:=by rw [if_neg (show ¬ (false=true) by decide)] at H;exact H
   clear H
   have H:=H1
   clear H1
   have H':=zz31 H
   clear H
   have hcz7_0:w3.cell? ⟨gb112,0,none⟩=some (.int .i64 a0_0):=(zz9 BK112.out 0).trans rfl
   have hcz7_1:w3.cell? ⟨gb112,1,none⟩=some (.slice A0_1 l0_1.length c0_1):=(zz9 BK112.out 1).trans rfl
   have hfz7_0:=zz10 BK112.out 0
   have hfz7_1:=zz10 BK112.out 1
   go_wp2_with (first | ((with_reducible refine gate_callee (f:=26) rfl ?_);refine goesL_ (some 7) rfl rfl Tryd.func26 (by kernel_rfl) rfl #[.int .i64 a0_0] rfl (by (try simp only [zz26,zz27,zz28]);first | done | rfl | (simp only [zz24,zz25];rfl)) ?_;(with_reducible refine (spec_paPeople.calls a0_0 false _ A4.out).mono ?_);rintro e w' ⟨rfl,⟨nd,rfl⟩⟩;refine ⟨_,rfl,?_⟩))
   go_meet
   case rel=>exact ⟨_,(true),(by first | rfl | (simp;done) | (simp [*];done)),H',⟨by first | omega | exact Nat.le_refl _⟩,⟨by (with_reducible repeat (first | refine zz6 ?_ _ | refine zz7 ?_ | refine zz8 ?_ _));exact BK112.out⟩,⟨by repeat first | exact HB.out | apply zz2 | apply zz0 | apply zz1 | refine zz3 ?_ GE112.out⟩⟩
 case rest =>
  clear HC2
  try clear c1
  try clear c2
  try clear p2
  try clear c5
  try clear p6
  try clear hcz6_0
  try clear hcz6_1
  try clear hcz7_0
  try clear hcz7_1
  try clear hfz6_0
  try clear hfz6_1
  try clear hfz7_0
  try clear hfz7_1
  obtain ⟨kq,x21_1,rfl,HA,HJ1,BK112,HB⟩:=hcut
  cases kq with
  | zero=>exact absurd HA.out (by simp [spec_paGood.j0])
  | succ kj1 =>
   have H:=HA.out
   clear HA
   simp only [spec_paGood.j0] at H
   by_cases c8:x21_1=true
   ·subst c8
    have H1:(some false)=some r:=by rw [if_pos rfl] at H;exact H
    clear H
    have H:=H1
    clear H1
    obtain rfl:=Option.some.inj H
    go_wp2
    go_ret
    exact ⟨by first | rfl | (simp [errW_none,errW_some] <;> rfl) | (simp [*,errW_none,errW_some] <;> rfl),by repeat first | exact HB.out | apply zz2 | apply zz0 | apply zz1 | refine zz3 ?_ GE112.out⟩
   ·replace c8:=Bool.eq_false_iff.mpr c8
    subst c8
    have H1:(spec_paGood.l0 kj1 l0_1 (l0_1.length:Int) 0 a0_0 l0_1)=some r:=by rw [if_neg (show ¬ (false=true) by decide)] at H;exact H
    clear H
    have H:=H1
    clear H1
    have H':=zz31 H
    clear H
    have hcz9_0:wc.cell? ⟨gb112,0,none⟩=some (.int .i64 a0_0):=(zz9 BK112.out 0).trans rfl
    have hcz9_1:wc.cell? ⟨gb112,1,none⟩=some (.slice A0_1 l0_1.length c0_1):=(zz9 BK112.out 1).trans rfl
    have hfz9_0:=zz10 BK112.out 0
    have hfz9_1:=zz10 BK112.out 1
    go_wp2
    go_loopg [25] kj1 (fun kq v25 w'=>∃ (x25_2:Int),v25=.int .i64 x25_2∧Aside0 (spec_paGood.l0 kq l0_1 (l0_1.length:Int) x25_2 a0_0 l0_1=some r)∧Aside0 (kq≤kj1)∧Aside0 (w'.heap[gb112]?=some (.cells #[.int .i64 a0_0,(.slice A0_1 l0_1.length c0_1)] 30 (0,0)))∧Aside0 (Below w.heap.size w w'))
    case atStart=>exact ⟨(0),(by first | rfl | (simp;done) | (simp [*];done)),H',⟨Nat.le_refl _⟩,⟨by (with_reducible repeat (first | refine zz6 ?_ _ | refine zz7 ?_ | refine zz8 ?_ _));exact BK112.out⟩,⟨by repeat first | exact HB.out | apply zz2 | apply zz0 | apply zz1 | refine zz3 ?_ GE112.out⟩⟩
    case round =>
     clear H'
     try clear c1
     try clear c2
     try clear p2
     try clear c5
     try clear p6
     try clear c8
     try clear hcz6_0
     try clear hcz6_1
     try clear hcz7_0
     try clear hcz7_1
     try clear hcz9_0
     try clear hcz9_1
     try clear hfz6_0
     try clear hfz6_1
     try clear hfz7_0
     try clear hfz7_1
     try clear hfz9_0
     try clear hfz9_1
     try clear p2
     try clear p6
     obtain ⟨x25_2,rfl,HA,HK2,BK112,HB⟩:=hrel
     cases gk with
     | zero=>exact absurd HA.out (by simp [spec_paGood.l0])
     | succ k2 =>
      have H:=HA.out
      clear HA
      simp only [spec_paGood.l0] at H
      by_cases c10:x25_2 < (l0_1.length:Int)
      ·rw [if_pos c10] at H
       have c10b0:decide (x25_2 < (l0_1.length:Int))=true:=decide_eq_true c10
       clear c10
       by_cases c11:0≤x25_2
       ·rw [if_pos c11] at H
        have c11b0:decide (0≤x25_2)=true:=decide_eq_true c11
        clear c11
        by_cases c12:x25_2 < (l0_1.length:Int)
        ·rw [if_pos c12] at H
         have c12b0:decide (x25_2 < (l0_1.length:Int))=true:=decide_eq_true c12
         clear c12
         replace H:=zz30.mp H
         obtain ⟨t116,A130,H⟩:=H
         replace H:(if t116=true then ((spec_l1In.f ((rd_T50 l0_1 x25_2).f1) (wrap64 (((rd_T50 l0_1 x25_2).f0)+1)) (wrap64 (a0_0 - 1))).bind fun t117=>(if t117=true then (if x25_2 > 0 then (if 0≤(wrap64 (x25_2 - 1)) then (if (wrap64 (x25_2 - 1)) < (l0_1.length:Int) then ((spec_paLess.f ((rd_T50 l0_1 (wrap64 (x25_2 - 1))).f0) ((rd_T50 l0_1 (wrap64 (x25_2 - 1))).f1) ((rd_T50 l0_1 x25_2).f0) ((rd_T50 l0_1 x25_2).f1)).bind fun t119=>(if t119=true then (spec_paGood.l0 k2 l0_1 (l0_1.length:Int) (wrap64 (x25_2+1)) a0_0 l0_1) else (some false))) else (none)) else (none)) else (spec_paGood.l0 k2 l0_1 (l0_1.length:Int) (wrap64 (x25_2+1)) a0_0 l0_1)) else (some false))) else (some false))=some r:=H
         have A13:=zz31 A130
         clear A130
         by_cases c14:t116=true
         ·subst c14
          have H1:((spec_l1In.f ((rd_T50 l0_1 x25_2).f1) (wrap64 (((rd_T50 l0_1 x25_2).f0)+1)) (wrap64 (a0_0 - 1))).bind fun t117=>(if t117=true then (if x25_2 > 0 then (if 0≤(wrap64 (x25_2 - 1)) then (if (wrap64 (x25_2 - 1)) < (l0_1.length:Int) then ((spec_paLess.f ((rd_T50 l0_1 (wrap64 (x25_2 - 1))).f0) ((rd_T50 l0_1 (wrap64 (x25_2 - 1))).f1) ((rd_T50 l0_1 x25_2).f0) ((rd_T50 l0_1 x25_2).f1)).bind fun t119=>(if t119=true then (spec_paGood.l0 k2 l0_1 (l0_1.length:Int) (wrap64 (x25_2+1)) a0_0 l0_1) else (some false))) else (none)) else (none)) else (spec_paGood.l0 k2 l0_1 (l0_1.length:Int) (wrap64 (x25_2+1)) a0_0 l0_1)) else (some false)))=some r:=by rw [if_pos rfl] at H;exact H
          clear H
          have H:=H1
          clear H1
          replace H:=zz30.mp H
          obtain ⟨t117,A150,H⟩:=H
          replace H:(if t117=true then (if x25_2 > 0 then (if 0≤(wrap64 (x25_2 - 1)) then (if (wrap64 (x25_2 - 1)) < (l0_1.length:Int) then ((spec_paLess.f ((rd_T50 l0_1 (wrap64 (x25_2 - 1))).f0) ((rd_T50 l0_1 (wrap64 (x25_2 - 1))).f1) ((rd_T50 l0_1 x25_2).f0) ((rd_T50 l0_1 x25_2).f1)).bind fun t119=>(if t119=true then (spec_paGood.l0 k2 l0_1 (l0_1.length:Int) (wrap64 (x25_2+1)) a0_0 l0_1) else (some false))) else (none)) else (none)) else (spec_paGood.l0 k2 l0_1 (l0_1.length:Int) (wrap64 (x25_2+1)) a0_0 l0_1)) else (some false))=some r:=H
          have A15:=zz31 A150
          clear A150
          by_cases c16:t117=true
          ·subst c16
           have H1:(if x25_2 > 0 then (if 0≤(wrap64 (x25_2 - 1)) then (if (wrap64 (x25_2 - 1)) < (l0_1.length:Int) then ((spec_paLess.f ((rd_T50 l0_1 (wrap64 (x25_2 - 1))).f0) ((rd_T50 l0_1 (wrap64 (x25_2 - 1))).f1) ((rd_T50 l0_1 x25_2).f0) ((rd_T50 l0_1 x25_2).f1)).bind fun t119=>(if t119=true then (spec_paGood.l0 k2 l0_1 (l0_1.length:Int) (wrap64 (x25_2+1)) a0_0 l0_1) else (some false))) else (none)) else (none)) else (spec_paGood.l0 k2 l0_1 (l0_1.length:Int) (wrap64 (x25_2+1)) a0_0 l0_1))=some r:=by rw [if_pos rfl] at H;exact H
           clear H
           have H:=H1
           clear H1
           by_cases c17:x25_2 > 0
           ·rw [if_pos c17] at H
            have c17b0:decide (0 < x25_2)=true:=decide_eq_true c17
            clear c17
            obtain ⟨ji18,hji18⟩:∃ j_:Int,(wrap64 (x25_2 - 1))=j_:=⟨_,rfl⟩
            replace H:(if 0≤(ji18) then (if (ji18) < (l0_1.length:Int) then ((spec_paLess.f ((rd_T50 l0_1 (ji18)).f0) ((rd_T50 l0_1 (ji18)).f1) ((rd_T50 l0_1 x25_2).f0) ((rd_T50 l0_1 x25_2).f1)).bind fun t119=>(if t119=true then (spec_paGood.l0 k2 l0_1 (l0_1.length:Int) (wrap64 (x25_2+1)) a0_0 l0_1) else (some false))) else (none)) else (none))=some r:=by first | (rw [hji18] at H;exact H) | (simp only [hji18] at H ⊢;exact H)
            (try rw [hji18] at A13)
            (try rw [hji18] at A15)
            have hji18w:(IntKind.i64.wrap (x25_2 - 1))=ji18:=(i64_w _).trans hji18
            by_cases c19:0≤(ji18)
            ·rw [if_pos c19] at H
             have c19b0:decide (0≤(ji18))=true:=decide_eq_true c19
             clear c19
             by_cases c20:(ji18) < (l0_1.length:Int)
             ·rw [if_pos c20] at H
              have c20b0:decide ((ji18) < (l0_1.length:Int))=true:=decide_eq_true c20
              clear c20
              replace H:=zz30.mp H
              obtain ⟨t119,A210,H⟩:=H
              replace H:(if t119=true then (spec_paGood.l0 k2 l0_1 (l0_1.length:Int) (wrap64 (x25_2+1)) a0_0 l0_1) else (some false))=some r:=H
              have A21:=zz31 A210
              clear A210
              by_cases c22:t119=true
              ·subst c22
               have H1:(spec_paGood.l0 k2 l0_1 (l0_1.length:Int) (wrap64 (x25_2+1)) a0_0 l0_1)=some r:=by rw [if_pos rfl] at H;exact H
               clear H
               have H:=H1
               clear H1
               have H':=zz31 H
               clear H
               have p114:0≤(x25_2:Int):=zz29 (by first | (with_reducible assumption) | assumption)
               have q114:x25_2 < (l0_1.length:Int):=zz29 (by first | (with_reducible assumption) | assumption)
               obtain ⟨ad114,e114,hx114_0,hx114_1⟩:=at_T50 HR0_1.out x25_2 p114 q114
               cases e114
               try replace hx114_0:=(HB.out.cell (World.block_lt_of_cell? w _ hx114_0)).trans hx114_0
               try replace hx114_1:=(HB.out.cell (World.block_lt_of_cell? w _ hx114_1)).trans hx114_1
               replace p114:=eq_true p114
               replace q114:=eq_true q114
               try go_wp2_with (first | ((with_reducible refine gate_dst (N:=4) rfl ?_);(try (refine gate_guard (by rfl) ?_;dsimp only));refine box_event ?hg (N:=4) ?hd (cs:=#[.int .i64 0,.int .i64 0]) (t:=50) ?hr ?_;(case hd=>rfl);(case hg=>rfl);(case hr=>first | (go_simp;done) | (go_simp;rfl));intro gb115 hg w23 hbox hb;have n0_:=zz31 (zz11 (g:=gb112) (o:=.cells #[.int .i64 a0_0,.slice (some ad114) l0_1.length c0_1] 30 (0,0)) (by (with_reducible repeat (first | refine zz6 ?_ _ | refine zz7 ?_ | refine zz8 ?_ _));exact BK112.out) hb);have n1_:=zz31 (zz4 (by repeat first | exact HB.out | apply zz2 | apply zz0 | apply zz1 | refine zz3 ?_ GE112.out) hb);have n2_:=zz31 (hbox);have n3_:=zz31 ((by rw [hg];exact (zz5 (by repeat first | exact HB.out | apply zz2 | apply zz0 | apply zz1 | refine zz3 ?_ GE112.out)):w.heap.size≤gb115));have n4_:=zz31 ((by rw [hg];exact (zz5 (by repeat first | exact HB.out | apply zz2 | apply zz0 | apply zz1 | refine zz3 ?_ GE112.out)):w.heap.size≤gb115));have n5_:=zz31 ((by rw [hg];exact Nat.ne_of_lt (blk_lt (g:=gb112) (o:=.cells #[.int .i64 a0_0,.slice (some ad114) l0_1.length c0_1] 30 (0,0)) (by (with_reducible repeat (first | refine zz6 ?_ _ | refine zz7 ?_ | refine zz8 ?_ _));exact BK112.out)):gb112 ≠ gb115));have n6_:=zz31 ((by rw [hg];exact Nat.ne_of_gt (blk_lt (g:=gb112) (o:=.cells #[.int .i64 a0_0,.slice (some ad114) l0_1.length c0_1] 30 (0,0)) (by (with_reducible repeat (first | refine zz6 ?_ _ | refine zz7 ?_ | refine zz8 ?_ _));exact BK112.out)):gb115 ≠ gb112));clear BK112;clear HB;have BK112:=n0_;have HB:=n1_;have BK115:=n2_;have GW115:=n3_;have GE115:=n4_;have NB112_115:=n5_;have NB115_112:=n6_;clear n0_ n1_ n2_ n3_ n4_ n5_ n6_;clear hb hbox hg;have hnb24:=NB115_112.out;have hnc24:=NB112_115.out;have hcz25_0:w23.cell? ⟨gb115,0,none⟩=some (.int .i64 0):=(zz9 BK115.out 0).trans rfl;have hcz25_1:w23.cell? ⟨gb115,1,none⟩=some (.int .i64 0):=(zz9 BK115.out 1).trans rfl;have hfz25_0:=zz10 BK115.out 0;have hfz25_1:=zz10 BK115.out 1))
               have n0_:Aside0 (((w23.setCell ⟨gb115,0,none⟩ (.int .i64 ((rd_T50 l0_1 x25_2).f0))).setCell ⟨gb115,1,none⟩ (.int .i64 ((rd_T50 l0_1 x25_2).f1))).heap[gb112]?=some (.cells #[.int .i64 a0_0,.slice (some ad114) l0_1.length c0_1] 30 (0,0))):=⟨by (with_reducible repeat (first | refine zz6 ?_ _ | refine zz7 ?_ | refine zz8 ?_ _));refine blk_far ?_ NB112_115.out _;(with_reducible repeat (first | refine zz6 ?_ _ | refine zz7 ?_ | refine zz8 ?_ _));refine blk_far ?_ NB112_115.out _;(with_reducible repeat (first | refine zz6 ?_ _ | refine zz7 ?_ | refine zz8 ?_ _));exact BK112.out⟩
               have n1_:Aside0 (((w23.setCell ⟨gb115,0,none⟩ (.int .i64 ((rd_T50 l0_1 x25_2).f0))).setCell ⟨gb115,1,none⟩ (.int .i64 ((rd_T50 l0_1 x25_2).f1))).heap[gb115]?=some (.cells #[.int .i64 ((rd_T50 l0_1 x25_2).f0),.int .i64 ((rd_T50 l0_1 x25_2).f1)] 50 (0,0))):=⟨by (with_reducible repeat (first | refine zz6 ?_ _ | refine zz7 ?_ | refine zz8 ?_ _));refine blk_put (cs:=#[.int .i64 ((rd_T50 l0_1 x25_2).f0),.int .i64 0]) ?_ 1 _ rfl;(with_reducible repeat (first | refine zz6 ?_ _ | refine zz7 ?_ | refine zz8 ?_ _));refine blk_put (cs:=#[.int .i64 0,.int .i64 0]) ?_ 0 _ rfl;(with_reducible repeat (first | refine zz6 ?_ _ | refine zz7 ?_ | refine zz8 ?_ _));exact BK115.out⟩
               have n2_:Aside0 (Below w.heap.size w ((w23.setCell ⟨gb115,0,none⟩ (.int .i64 ((rd_T50 l0_1 x25_2).f0))).setCell ⟨gb115,1,none⟩ (.int .i64 ((rd_T50 l0_1 x25_2).f1)))):=⟨by repeat first | exact HB.out | apply zz2 | apply zz0 | apply zz1 | refine zz3 ?_ GE112.out | refine zz3 ?_ GE115.out⟩
               (try clear BK112)
               (try clear BK115)
               (try clear HB)
               generalize ((w23.setCell ⟨gb115,0,none⟩ (.int .i64 ((rd_T50 l0_1 x25_2).f0))).setCell ⟨gb115,1,none⟩ (.int .i64 ((rd_T50 l0_1 x25_2).f1)))=w26 at n0_ n1_ n2_ ⊢
               have BK112:=n0_
               have BK115:=n1_
               have HB:=n2_
               clear n0_ n1_ n2_
               have n0_:=zz31 (zz7 BK112.out)
               have n1_:=zz31 (zz7 BK115.out)
               have n2_:=zz31 (zz1 HB.out)
               clear BK112
               clear BK115
               clear HB
               have BK112:=n0_
               have BK115:=n1_
               have HB:=n2_
               clear n0_ n1_ n2_
               have p118:0≤((ji18):Int):=zz29 (by first | (with_reducible assumption) | assumption)
               have q118:(ji18) < (l0_1.length:Int):=zz29 (by first | (with_reducible assumption) | assumption)
               obtain ⟨ad118,e118,hx118_0,hx118_1⟩:=at_T50 HR0_1.out (ji18) p118 q118
               have hw118_1:=hx118_1
               have hw118_0:=hx118_0
               obtain rfl:ad114=ad118:=(by injection e118)
               try replace hx118_0:=(HB.out.cell (World.block_lt_of_cell? w _ hx118_0)).trans hx118_0
               try replace hx118_1:=(HB.out.cell (World.block_lt_of_cell? w _ hx118_1)).trans hx118_1
               replace p118:=eq_true p118
               replace q118:=eq_true q118
               refine start_ (n:=34) (S:=fun w'=>w'.cell? ⟨gb115,0,none⟩=some (.int .i64 ((rd_T50 l0_1 x25_2).f0))∧w'.cell? ⟨gb115,1,none⟩=some (.int .i64 ((rd_T50 l0_1 x25_2).f1))∧w'.cell? ⟨gb112,0,none⟩=some (.int .i64 a0_0)∧w'.cell? ⟨gb112,1,none⟩=some (.slice (some ad114) l0_1.length c0_1)∧w'.cell? (ad114.add (((ji18)).toNat * 2))=some (.int .i64 ((rd_T50 l0_1 (ji18)).f0))∧w'.cell? ⟨(ad114.add (((ji18)).toNat * 2)).block,(ad114.add (((ji18)).toNat * 2)).off+1,none⟩=some (.int .i64 ((rd_T50 l0_1 (ji18)).f1))) (ds:=[]) #[F,F,F,F,F,F,F,F,F,F,F,F,F,F,F,F,F,F,F,F,F,F,F,F,F,F,F,F,F,F,F,F,F,F] (by kernel_rfl) rfl rfl ⟨(zz9 BK115.out 0).trans rfl,(zz9 BK115.out 1).trans rfl,(zz9 BK112.out 0).trans rfl,(zz9 BK112.out 1).trans rfl,((HB.out.cell (World.block_lt_of_cell? w _ hw118_0)).trans hw118_0),((HB.out.cell (World.block_lt_of_cell? w _ hw118_1)).trans hw118_1)⟩ (fun hHeld=>?_);refine with_tabW spec_paGood.tab6 spec_paGood.bits6 (fun HT_ HW_=>?_)
               generalize w26.drew=w27 at BK112 BK115 HB hx118_0 hx118_1 hHeld ⊢
               refine pure_ (i:=0) (N:=some 30) (v:=?_) (a':=?_) #[T,F,F,F,F,F,F,F,F,F,F,F,F,F,F,F,F,F,F,F,F,F,F,F,F,F,F,F,F,F,F,F,F,F] rfl rfl (any_of HT_.out (by kernel_rfl)) (fun _ _ _ h=>h) (Or.inl ⟨by rfl,?_⟩) ?_ ?_
               rotate_left
               ·intro w'
                go_simp
                with_reducible rfl
               rotate_left
               ·simp only [Act.put,zz21,zz22,zz23,i64_w,i32_w]
                rfl
               refine pure_ (i:=2) (N:=some 32) (v:=?_) (a':=?_) #[T,F,T,F,F,F,F,F,F,F,F,F,F,F,F,F,F,F,F,F,F,F,F,F,F,F,F,F,F,F,F,F,F,F] rfl rfl (any_of HT_.out (by kernel_rfl)) (fun _ _ _ h=>h) (Or.inl ⟨by rfl,?_⟩) ?_ ?_
               rotate_left
               ·intro w'
                go_simp
                with_reducible rfl
               rotate_left
               ·simp only [Act.put,zz21,zz22,zz23,i64_w,i32_w]
                rfl
               refine take_ (i:=1) (N:=some 31) (v:=?_) (a':=?_) #[T,T,T,F,F,F,F,F,F,F,F,F,F,F,F,F,F,F,F,F,F,F,F,F,F,F,F,F,F,F,F,F,F,F] rfl rfl (take_ofW HT_.out HW_.out (by kernel_rfl)) (fun _ _ _ h=>h) (Or.inl ⟨by rfl,?_⟩) hHeld ?_ ?_
               rotate_left
               ·rintro w' ⟨s0,s1,s2,s3,s4,s5⟩
                go_simp
                with_reducible rfl
               rotate_left
               ·simp only [Act.put,zz21,zz22,zz23,i64_w,i32_w]
                rfl
               refine take_ (i:=3) (N:=some 33) (v:=?_) (a':=?_) #[T,T,T,T,F,F,F,F,F,F,F,F,F,F,F,F,F,F,F,F,F,F,F,F,F,F,F,F,F,F,F,F,F,F] rfl rfl (take_ofW HT_.out HW_.out (by kernel_rfl)) (fun _ _ _ h=>h) (Or.inl ⟨by rfl,?_⟩) hHeld ?_ ?_
               rotate_left
               ·rintro w' ⟨s0,s1,s2,s3,s4,s5⟩
                go_simp
                with_reducible rfl
               rotate_left
               ·simp only [Act.put,zz21,zz22,zz23,i64_w,i32_w]
                rfl
               refine pure_ (i:=4) (N:=some 34) (v:=?_) (a':=?_) #[T,T,T,T,T,F,F,F,F,F,F,F,F,F,F,F,F,F,F,F,F,F,F,F,F,F,F,F,F,F,F,F,F,F] rfl rfl (any_of HT_.out (by kernel_rfl)) (fun _ _ _ h=>h) (Or.inl ⟨by rfl,?_⟩) ?_ ?_
               rotate_left
               ·intro w'
                go_simp
                with_reducible rfl
               rotate_left
               ·simp only [Act.put,zz21,zz22,zz23,i64_w,i32_w]
                rfl
               refine one_ (i:=5) (N:=some 35) #[T,T,T,T,T,T,F,F,F,F,F,F,F,F,F,F,F,F,F,F,F,F,F,F,F,F,F,F,F,F,F,F,F,F] rfl rfl (one_of HT_.out (by kernel_rfl)) (by decide) (fun K hK=>?_)
               refine goes_ Tryd.func27 (by kernel_rfl) rfl #[.int .i64 ((rd_T50 l0_1 x25_2).f0),.int .i64 0,.int .i64 (wrap64 (a0_0 - 1))] (by rfl) rfl rfl (by (try simp only [zz26,zz27,zz28]);first | done | rfl | (simp only [zz24,zz25];rfl)) ?_
               with_reducible refine (spec_l1In.calls ((rd_T50 l0_1 x25_2).f0) 0 (wrap64 (a0_0 - 1)) true _ A13.out).mono ?_
               rintro e w' ⟨rfl,⟨nd,rfl⟩⟩
               refine ⟨_,rfl,?_⟩
               refine hK.out _ _ ⟨(zz9 BK115.out 0).trans rfl,(zz9 BK115.out 1).trans rfl,(zz9 BK112.out 0).trans rfl,(zz9 BK112.out 1).trans rfl,((HB.out.cell (World.block_lt_of_cell? w _ hw118_0)).trans hw118_0),((HB.out.cell (World.block_lt_of_cell? w _ hw118_1)).trans hw118_1)⟩ (fun hHeld=>?_)
               clear hK K
               refine norm_ (a':=?_) ?_ ?_
               rotate_left
               ·show Act.put _ (some 35) _=_
                simp only [Act.put,zz21,zz22,zz23,i64_w,i32_w]
                rfl
               refine pure_ (i:=6) (N:=some 36) (v:=?_) (a':=?_) #[T,T,T,T,T,T,T,F,F,F,F,F,F,F,F,F,F,F,F,F,F,F,F,F,F,F,F,F,F,F,F,F,F,F] rfl rfl (any_of HT_.out (by kernel_rfl)) (fun _ _ _ h=>h) (Or.inl ⟨by rfl,?_⟩) ?_ ?_
               rotate_left
               ·intro w'
                go_simp
                with_reducible rfl
               rotate_left
               ·simp only [Act.put,zz21,zz22,zz23,i64_w,i32_w]
                rfl
               refine pure_ (i:=7) (N:=some 37) (v:=?_) (a':=?_) #[T,T,T,T,T,T,T,T,F,F,F,F,F,F,F,F,F,F,F,F,F,F,F,F,F,F,F,F,F,F,F,F,F,F] rfl rfl (any_of HT_.out (by kernel_rfl)) (fun _ _ _ h=>h) (Or.inl ⟨by rfl,?_⟩) ?_ ?_
               rotate_left
               ·intro w'
                go_simp
                with_reducible rfl
               rotate_left
               ·simp only [Act.put,zz21,zz22,zz23,i64_w,i32_w]
                rfl
               refine pure_ (i:=8) (N:=some 38) (v:=?_) (a':=?_) #[T,T,T,T,T,T,T,T,T,F,F,F,F,F,F,F,F,F,F,F,F,F,F,F,F,F,F,F,F,F,F,F,F,F] rfl rfl (any_of HT_.out (by kernel_rfl)) (fun _ _ _ h=>h) (Or.inl ⟨by rfl,?_⟩) ?_ ?_
               rotate_left
               ·intro w'
                go_simp
                with_reducible rfl
               rotate_left
               ·simp only [Act.put,zz21,zz22,zz23,i64_w,i32_w]
                rfl
               refine pure_ (i:=10) (N:=some 40) (v:=?_) (a':=?_) #[T,T,T,T,T,T,T,T,T,F,T,F,F,F,F,F,F,F,F,F,F,F,F,F,F,F,F,F,F,F,F,F,F,F] rfl rfl (any_of HT_.out (by kernel_rfl)) (fun _ _ _ h=>h) (Or.inl ⟨by rfl,?_⟩) ?_ ?_
               rotate_left
               ·intro w'
                go_simp
                with_reducible rfl
               rotate_left
               ·simp only [Act.put,zz21,zz22,zz23,i64_w,i32_w]
                rfl
               refine pure_ (i:=13) (N:=some 43) (v:=?_) (a':=?_) #[T,T,T,T,T,T,T,T,T,F,T,F,F,T,F,F,F,F,F,F,F,F,F,F,F,F,F,F,F,F,F,F,F,F] rfl rfl (any_of HT_.out (by kernel_rfl)) (fun _ _ _ h=>h) (Or.inl ⟨by rfl,?_⟩) ?_ ?_
               rotate_left
               ·intro w'
                go_simp
                with_reducible rfl
               rotate_left
               ·simp only [Act.put,zz21,zz22,zz23,i64_w,i32_w]
                rfl
               refine take_ (i:=9) (N:=some 39) (v:=?_) (a':=?_) #[T,T,T,T,T,T,T,T,T,T,T,F,F,T,F,F,F,F,F,F,F,F,F,F,F,F,F,F,F,F,F,F,F,F] rfl rfl (take_ofW HT_.out HW_.out (by kernel_rfl)) (fun _ _ _ h=>h) (Or.inl ⟨by rfl,?_⟩) hHeld ?_ ?_
               rotate_left
               ·rintro w' ⟨s0,s1,s2,s3,s4,s5⟩
                go_simp
                with_reducible rfl
               rotate_left
               ·simp only [Act.put,zz21,zz22,zz23,i64_w,i32_w]
                rfl
               refine take_ (i:=11) (N:=some 41) (v:=?_) (a':=?_) #[T,T,T,T,T,T,T,T,T,T,T,T,F,T,F,F,F,F,F,F,F,F,F,F,F,F,F,F,F,F,F,F,F,F] rfl rfl (take_ofW HT_.out HW_.out (by kernel_rfl)) (fun _ _ _ h=>h) (Or.inl ⟨by rfl,?_⟩) hHeld ?_ ?_
               rotate_left
               ·rintro w' ⟨s0,s1,s2,s3,s4,s5⟩
                go_simp
                with_reducible rfl
               rotate_left
               ·simp only [Act.put,zz21,zz22,zz23,i64_w,i32_w]
                rfl
               refine pure_ (i:=12) (N:=some 42) (v:=?_) (a':=?_) #[T,T,T,T,T,T,T,T,T,T,T,T,T,T,F,F,F,F,F,F,F,F,F,F,F,F,F,F,F,F,F,F,F,F] rfl rfl (any_of HT_.out (by kernel_rfl)) (fun _ _ _ h=>h) (Or.inl ⟨by rfl,?_⟩) ?_ ?_
               rotate_left
               ·intro w'
                go_simp
                with_reducible rfl
               rotate_left
               ·simp only [Act.put,zz21,zz22,zz23,i64_w,i32_w]
                rfl
               refine take_ (i:=14) (N:=some 44) (v:=?_) (a':=?_) #[T,T,T,T,T,T,T,T,T,T,T,T,T,T,T,F,F,F,F,F,F,F,F,F,F,F,F,F,F,F,F,F,F,F] rfl rfl (take_ofW HT_.out HW_.out (by kernel_rfl)) (fun _ _ _ h=>h) (Or.inl ⟨by rfl,?_⟩) hHeld ?_ ?_
               rotate_left
               ·rintro w' ⟨s0,s1,s2,s3,s4,s5⟩
                go_simp
                with_reducible rfl
               rotate_left
               ·simp only [Act.put,zz21,zz22,zz23,i64_w,i32_w]
                rfl
               refine pure_ (i:=15) (N:=some 45) (v:=?_) (a':=?_) #[T,T,T,T,T,T,T,T,T,T,T,T,T,T,T,T,F,F,F,F,F,F,F,F,F,F,F,F,F,F,F,F,F,F] rfl rfl (any_of HT_.out (by kernel_rfl)) (fun _ _ _ h=>h) (Or.inl ⟨by rfl,?_⟩) ?_ ?_
               rotate_left
               ·intro w'
                go_simp
                with_reducible rfl
               rotate_left
               ·simp only [Act.put,zz21,zz22,zz23,i64_w,i32_w]
                rfl
               refine one_ (i:=16) (N:=some 46) #[T,T,T,T,T,T,T,T,T,T,T,T,T,T,T,T,T,F,F,F,F,F,F,F,F,F,F,F,F,F,F,F,F,F] rfl rfl (one_of HT_.out (by kernel_rfl)) (by decide) (fun K hK=>?_)
               refine goes_ Tryd.func27 (by kernel_rfl) rfl #[.int .i64 ((rd_T50 l0_1 x25_2).f1),.int .i64 (wrap64 (((rd_T50 l0_1 x25_2).f0)+1)),.int .i64 (wrap64 (a0_0 - 1))] (by rfl) rfl rfl (by (try simp only [zz26,zz27,zz28]);first | done | rfl | (simp only [zz24,zz25];rfl)) ?_
               with_reducible refine (spec_l1In.calls ((rd_T50 l0_1 x25_2).f1) (wrap64 (((rd_T50 l0_1 x25_2).f0)+1)) (wrap64 (a0_0 - 1)) true _ A15.out).mono ?_
               rintro e w' ⟨rfl,⟨nd,rfl⟩⟩
               refine ⟨_,rfl,?_⟩
               refine hK.out _ _ ⟨(zz9 BK115.out 0).trans rfl,(zz9 BK115.out 1).trans rfl,(zz9 BK112.out 0).trans rfl,(zz9 BK112.out 1).trans rfl,((HB.out.cell (World.block_lt_of_cell? w _ hw118_0)).trans hw118_0),((HB.out.cell (World.block_lt_of_cell? w _ hw118_1)).trans hw118_1)⟩ (fun hHeld=>?_)
               clear hK K
               refine norm_ (a':=?_) ?_ ?_
               rotate_left
               ·show Act.put _ (some 46) _=_
                simp only [Act.put,zz21,zz22,zz23,i64_w,i32_w]
                rfl
               refine pure_ (i:=17) (N:=some 47) (v:=?_) (a':=?_) #[T,T,T,T,T,T,T,T,T,T,T,T,T,T,T,T,T,T,F,F,F,F,F,F,F,F,F,F,F,F,F,F,F,F] rfl rfl (any_of HT_.out (by kernel_rfl)) (fun _ _ _ h=>h) (Or.inl ⟨by rfl,?_⟩) ?_ ?_
               rotate_left
               ·intro w'
                go_simp
                with_reducible rfl
               rotate_left
               ·simp only [Act.put,zz21,zz22,zz23,i64_w,i32_w]
                rfl
               refine pure_ (i:=18) (N:=some 48) (v:=?_) (a':=?_) #[T,T,T,T,T,T,T,T,T,T,T,T,T,T,T,T,T,T,T,F,F,F,F,F,F,F,F,F,F,F,F,F,F,F] rfl rfl (any_of HT_.out (by kernel_rfl)) (fun _ _ _ h=>h) (Or.inl ⟨by rfl,?_⟩) ?_ ?_
               rotate_left
               ·intro w'
                go_simp
                with_reducible rfl
               rotate_left
               ·simp only [Act.put,zz21,zz22,zz23,i64_w,i32_w]
                rfl
               refine pure_ (i:=19) (N:=some 49) (v:=?_) (a':=?_) #[T,T,T,T,T,T,T,T,T,T,T,T,T,T,T,T,T,T,T,T,F,F,F,F,F,F,F,F,F,F,F,F,F,F] rfl rfl (any_of HT_.out (by kernel_rfl)) (fun _ _ _ h=>h) (Or.inl ⟨by rfl,?_⟩) ?_ ?_
               rotate_left
               ·intro w'
                go_simp
                with_reducible rfl
               rotate_left
               ·simp only [Act.put,zz21,zz22,zz23,i64_w,i32_w]
                rfl
               refine pure_ (i:=20) (N:=some 50) (v:=?_) (a':=?_) #[T,T,T,T,T,T,T,T,T,T,T,T,T,T,T,T,T,T,T,T,T,F,F,F,F,F,F,F,F,F,F,F,F,F] rfl rfl (any_of HT_.out (by kernel_rfl)) (fun _ _ _ h=>h) (Or.inl ⟨by rfl,?_⟩) ?_ ?_
               rotate_left
               ·intro w'
                go_simp
                with_reducible rfl
               rotate_left
               ·simp only [Act.put,zz21,zz22,zz23,i64_w,i32_w]
                rfl
               refine pure_ (i:=21) (N:=some 51) (v:=?_) (a':=?_) #[T,T,T,T,T,T,T,T,T,T,T,T,T,T,T,T,T,T,T,T,T,T,F,F,F,F,F,F,F,F,F,F,F,F] rfl rfl (any_of HT_.out (by kernel_rfl)) (fun _ _ _ h=>h) (Or.inl ⟨by rfl,?_⟩) ?_ ?_
               rotate_left
               ·intro w'
                go_simp
                with_reducible rfl
               rotate_left
               ·simp only [Act.put,zz21,zz22,zz23,i64_w,i32_w]
                rfl
               refine pure_ (i:=22) (N:=some 52) (v:=?_) (a':=?_) #[T,T,T,T,T,T,T,T,T,T,T,T,T,T,T,T,T,T,T,T,T,T,T,F,F,F,F,F,F,F,F,F,F,F] rfl rfl (any_of HT_.out (by kernel_rfl)) (fun _ _ _ h=>h) (Or.inl ⟨by rfl,?_⟩) ?_ ?_
               rotate_left
               ·intro w'
                go_simp
                with_reducible rfl
               rotate_left
               ·simp only [Act.put,zz21,zz22,zz23,i64_w,i32_w]
                rfl
               refine pure_ (i:=23) (N:=some 53) (v:=?_) (a':=?_) #[T,T,T,T,T,T,T,T,T,T,T,T,T,T,T,T,T,T,T,T,T,T,T,T,F,F,F,F,F,F,F,F,F,F] rfl rfl (any_of HT_.out (by kernel_rfl)) (fun _ _ _ h=>h) (Or.inl ⟨by rfl,?_⟩) ?_ ?_
               rotate_left
               ·intro w'
                go_simp
                with_reducible rfl
               rotate_left
               ·simp only [Act.put,zz21,zz22,zz23,i64_w,i32_w]
                rfl
               refine pure_ (i:=25) (N:=some 55) (v:=?_) (a':=?_) #[T,T,T,T,T,T,T,T,T,T,T,T,T,T,T,T,T,T,T,T,T,T,T,T,F,T,F,F,F,F,F,F,F,F] rfl rfl (any_of HT_.out (by kernel_rfl)) (fun _ _ _ h=>h) (Or.inl ⟨by rfl,?_⟩) ?_ ?_
               rotate_left
               ·intro w'
                go_simp
                with_reducible rfl
               rotate_left
               ·simp only [Act.put,zz21,zz22,zz23,i64_w,i32_w]
                rfl
               refine pure_ (i:=26) (N:=some 56) (v:=?_) (a':=?_) #[T,T,T,T,T,T,T,T,T,T,T,T,T,T,T,T,T,T,T,T,T,T,T,T,F,T,T,F,F,F,F,F,F,F] rfl rfl (any_of HT_.out (by kernel_rfl)) (fun _ _ _ h=>h) (Or.inl ⟨by rfl,?_⟩) ?_ ?_
               rotate_left
               ·intro w'
                go_simp
                with_reducible rfl
               rotate_left
               ·simp only [Act.put,zz21,zz22,zz23,i64_w,i32_w]
                rfl
               refine take_ (i:=24) (N:=some 54) (v:=?_) (a':=?_) #[T,T,T,T,T,T,T,T,T,T,T,T,T,T,T,T,T,T,T,T,T,T,T,T,T,T,T,F,F,F,F,F,F,F] rfl rfl (take_ofW HT_.out HW_.out (by kernel_rfl)) (fun _ _ _ h=>h) (Or.inl ⟨by rfl,?_⟩) hHeld ?_ ?_
               rotate_left
               ·rintro w' ⟨s0,s1,s2,s3,s4,s5⟩
                go_simp
                with_reducible rfl
               rotate_left
               ·simp only [Act.put,zz21,zz22,zz23,i64_w,i32_w]
                rfl
               refine pure_ (i:=27) (N:=some 57) (v:=?_) (a':=?_) #[T,T,T,T,T,T,T,T,T,T,T,T,T,T,T,T,T,T,T,T,T,T,T,T,T,T,T,T,F,F,F,F,F,F] rfl rfl (any_of HT_.out (by kernel_rfl)) (fun _ _ _ h=>h) (Or.inl ⟨by rfl,?_⟩) ?_ ?_
               rotate_left
               ·intro w'
                go_simp
                with_reducible rfl
               rotate_left
               ·simp only [Act.put,zz21,zz22,zz23,i64_w,i32_w]
                rfl
               refine take_ (i:=28) (N:=some 58) (v:=?_) (a':=?_) #[T,T,T,T,T,T,T,T,T,T,T,T,T,T,T,T,T,T,T,T,T,T,T,T,T,T,T,T,T,F,F,F,F,F] rfl rfl (take_ofW HT_.out HW_.out (by kernel_rfl)) (fun _ _ _ h=>h) (Or.inl ⟨by rfl,?_⟩) hHeld ?_ ?_
               rotate_left
               ·rintro w' ⟨s0,s1,s2,s3,s4,s5⟩
                go_simp
                with_reducible rfl
               rotate_left
               ·simp only [Act.put,zz21,zz22,zz23,i64_w,i32_w]
                rfl
               refine take_ (i:=29) (N:=some 59) (v:=?_) (a':=?_) #[T,T,T,T,T,T,T,T,T,T,T,T,T,T,T,T,T,T,T,T,T,T,T,T,T,T,T,T,T,T,F,F,F,F] rfl rfl (take_ofW HT_.out HW_.out (by kernel_rfl)) (fun _ _ _ h=>h) (Or.inl ⟨by rfl,?_⟩) hHeld ?_ ?_
               rotate_left
               ·rintro w' ⟨s0,s1,s2,s3,s4,s5⟩
                go_simp
                with_reducible rfl
               rotate_left
               ·simp only [Act.put,zz21,zz22,zz23,i64_w,i32_w]
                rfl
               refine one_ (i:=30) (N:=some 60) #[T,T,T,T,T,T,T,T,T,T,T,T,T,T,T,T,T,T,T,T,T,T,T,T,T,T,T,T,T,T,T,F,F,F] rfl rfl (one_of HT_.out (by kernel_rfl)) (by decide) (fun K hK=>?_)
               refine goes_ Tryd.func28 (by kernel_rfl) rfl #[.agg #[.int .i64 ((rd_T50 l0_1 (ji18)).f0),.int .i64 ((rd_T50 l0_1 (ji18)).f1)],.agg #[.int .i64 ((rd_T50 l0_1 x25_2).f0),.int .i64 ((rd_T50 l0_1 x25_2).f1)]] (by rfl) rfl rfl (by (try simp only [zz26,zz27,zz28]);first | done | (simp only [hji18];rfl) | rfl | (simp only [zz24,zz25];rfl)) ?_
               with_reducible refine (spec_paLess.calls ((rd_T50 l0_1 (ji18)).f0) ((rd_T50 l0_1 (ji18)).f1) ((rd_T50 l0_1 x25_2).f0) ((rd_T50 l0_1 x25_2).f1) true _ A21.out).mono ?_
               rintro e w28 ⟨rfl,hb⟩
               refine ⟨_,rfl,?_⟩
               have n0_:=zz31 (zz11 (g:=gb112) (o:=.cells #[.int .i64 a0_0,.slice (some ad114) l0_1.length c0_1] 30 (0,0)) (by (with_reducible repeat (first | refine zz6 ?_ _ | refine zz7 ?_ | refine zz8 ?_ _));exact BK112.out) hb)
               have n1_:=zz31 (zz11 (g:=gb115) (o:=.cells #[.int .i64 ((rd_T50 l0_1 x25_2).f0),.int .i64 ((rd_T50 l0_1 x25_2).f1)] 50 (0,0)) (by (with_reducible repeat (first | refine zz6 ?_ _ | refine zz7 ?_ | refine zz8 ?_ _));exact BK115.out) hb)
               have n2_:=zz31 (zz4 (by repeat first | exact HB.out | apply zz2 | apply zz0 | apply zz1 | refine zz3 ?_ GE112.out | refine zz3 ?_ GE115.out) hb)
               clear BK112
               clear BK115
               clear HB
               have BK112:=n0_
               have BK115:=n1_
               have HB:=n2_
               clear n0_ n1_ n2_
               (try clear hb)
               (try clear hb2)
               (try clear hk)
               (try clear hi)
               refine hK.out _ _ ⟨(zz9 BK115.out 0).trans rfl,(zz9 BK115.out 1).trans rfl,(zz9 BK112.out 0).trans rfl,(zz9 BK112.out 1).trans rfl,((HB.out.cell (World.block_lt_of_cell? w _ hw118_0)).trans hw118_0),((HB.out.cell (World.block_lt_of_cell? w _ hw118_1)).trans hw118_1)⟩ (fun hHeld=>?_)
               clear hK K
               refine norm_ (a':=?_) ?_ ?_
               rotate_left
               ·show Act.put _ (some 60) _=_
                simp only [Act.put,zz21,zz22,zz23,i64_w,i32_w]
                rfl
               refine pure_ (i:=31) (N:=some 61) (v:=?_) (a':=?_) #[T,T,T,T,T,T,T,T,T,T,T,T,T,T,T,T,T,T,T,T,T,T,T,T,T,T,T,T,T,T,T,T,F,F] rfl rfl (any_of HT_.out (by kernel_rfl)) (fun _ _ _ h=>h) (Or.inl ⟨by rfl,?_⟩) ?_ ?_
               rotate_left
               ·intro w'
                go_simp
                with_reducible rfl
               rotate_left
               ·simp only [Act.put,zz21,zz22,zz23,i64_w,i32_w]
                rfl
               refine pure_ (i:=32) (N:=some 62) (v:=?_) (a':=?_) #[T,T,T,T,T,T,T,T,T,T,T,T,T,T,T,T,T,T,T,T,T,T,T,T,T,T,T,T,T,T,T,T,T,F] rfl rfl (any_of HT_.out (by kernel_rfl)) (fun _ _ _ h=>h) (Or.inl ⟨by rfl,?_⟩) ?_ ?_
               rotate_left
               ·intro w'
                go_simp
                with_reducible rfl
               rotate_left
               ·simp only [Act.put,zz21,zz22,zz23,i64_w,i32_w]
                rfl
               refine pure_ (i:=33) (N:=some 63) (v:=?_) (a':=?_) #[T,T,T,T,T,T,T,T,T,T,T,T,T,T,T,T,T,T,T,T,T,T,T,T,T,T,T,T,T,T,T,T,T,T] rfl rfl (any_of HT_.out (by kernel_rfl)) (fun _ _ _ h=>h) (Or.inl ⟨by rfl,?_⟩) ?_ ?_
               rotate_left
               ·intro w'
                go_simp
                with_reducible rfl
               rotate_left
               ·simp only [Act.put,zz21,zz22,zz23,i64_w,i32_w]
                rfl
               refine done_ (done_of HT_.out (by kernel_rfl)) ?_
               try go_wp2
               go_roundg k2
               case measure=>have:=HJ1.out;have:=HK2.out;omega
               case rel=>exact ⟨(wrap64 (x25_2+1)),(by first | rfl | (simp;done) | (simp [*];done)),H',⟨by have:=HJ1.out;have:=HK2.out;omega⟩,⟨by (with_reducible repeat (first | refine zz6 ?_ _ | refine zz7 ?_ | refine zz8 ?_ _));exact BK112.out⟩,⟨by repeat first | exact HB.out | apply zz2 | apply zz0 | apply zz1 | refine zz3 ?_ GE112.out | refine zz3 ?_ GE115.out⟩⟩
              ·replace c22:=Bool.eq_false_iff.mpr c22
               subst c22
               have H1:(some false)=some r:=by rw [if_neg (show ¬ (false=true) by decide)] at H;exact H
               clear H
               have H:=H1
               clear H1
               obtain rfl:=Option.some.inj H
               have p114:0≤(x25_2:Int):=zz29 (by first | (with_reducible assumption) | assumption)
               have q114:x25_2 < (l0_1.length:Int):=zz29 (by first | (with_reducible assumption) | assumption)
               obtain ⟨ad114,e114,hx114_0,hx114_1⟩:=at_T50 HR0_1.out x25_2 p114 q114
               cases e114
               try replace hx114_0:=(HB.out.cell (World.block_lt_of_cell? w _ hx114_0)).trans hx114_0
               try replace hx114_1:=(HB.out.cell (World.block_lt_of_cell? w _ hx114_1)).trans hx114_1
               replace p114:=eq_true p114
               replace q114:=eq_true q114
               try go_wp2_with (first | ((with_reducible refine gate_dst (N:=4) rfl ?_);(try (refine gate_guard (by rfl) ?_;dsimp only));refine box_event ?hg (N:=4) ?hd (cs:=#[.int .i64 0,.int .i64 0]) (t:=50) ?hr ?_;(case hd=>rfl);(case hg=>rfl);(case hr=>first | (go_simp;done) | (go_simp;rfl));intro gb115 hg w29 hbox hb;have n0_:=zz31 (zz11 (g:=gb112) (o:=.cells #[.int .i64 a0_0,.slice (some ad114) l0_1.length c0_1] 30 (0,0)) (by (with_reducible repeat (first | refine zz6 ?_ _ | refine zz7 ?_ | refine zz8 ?_ _));exact BK112.out) hb);have n1_:=zz31 (zz4 (by repeat first | exact HB.out | apply zz2 | apply zz0 | apply zz1 | refine zz3 ?_ GE112.out) hb);have n2_:=zz31 (hbox);have n3_:=zz31 ((by rw [hg];exact (zz5 (by repeat first | exact HB.out | apply zz2 | apply zz0 | apply zz1 | refine zz3 ?_ GE112.out)):w.heap.size≤gb115));have n4_:=zz31 ((by rw [hg];exact (zz5 (by repeat first | exact HB.out | apply zz2 | apply zz0 | apply zz1 | refine zz3 ?_ GE112.out)):w.heap.size≤gb115));have n5_:=zz31 ((by rw [hg];exact Nat.ne_of_lt (blk_lt (g:=gb112) (o:=.cells #[.int .i64 a0_0,.slice (some ad114) l0_1.length c0_1] 30 (0,0)) (by (with_reducible repeat (first | refine zz6 ?_ _ | refine zz7 ?_ | refine zz8 ?_ _));exact BK112.out)):gb112 ≠ gb115));have n6_:=zz31 ((by rw [hg];exact Nat.ne_of_gt (blk_lt (g:=gb112) (o:=.cells #[.int .i64 a0_0,.slice (some ad114) l0_1.length c0_1] 30 (0,0)) (by (with_reducible repeat (first | refine zz6 ?_ _ | refine zz7 ?_ | refine zz8 ?_ _));exact BK112.out)):gb115 ≠ gb112));clear BK112;clear HB;have BK112:=n0_;have HB:=n1_;have BK115:=n2_;have GW115:=n3_;have GE115:=n4_;have NB112_115:=n5_;have NB115_112:=n6_;clear n0_ n1_ n2_ n3_ n4_ n5_ n6_;clear hb hbox hg;have hnb30:=NB115_112.out;have hnc30:=NB112_115.out;have hcz31_0:w29.cell? ⟨gb115,0,none⟩=some (.int .i64 0):=(zz9 BK115.out 0).trans rfl;have hcz31_1:w29.cell? ⟨gb115,1,none⟩=some (.int .i64 0):=(zz9 BK115.out 1).trans rfl;have hfz31_0:=zz10 BK115.out 0;have hfz31_1:=zz10 BK115.out 1))
               have n0_:Aside0 (((w29.setCell ⟨gb115,0,none⟩ (.int .i64 ((rd_T50 l0_1 x25_2).f0))).setCell ⟨gb115,1,none⟩ (.int .i64 ((rd_T50 l0_1 x25_2).f1))).heap[gb112]?=some (.cells #[.int .i64 a0_0,.slice (some ad114) l0_1.length c0_1] 30 (0,0))):=⟨by (with_reducible repeat (first | refine zz6 ?_ _ | refine zz7 ?_ | refine zz8 ?_ _));refine blk_far ?_ NB112_115.out _;(with_reducible repeat (first | refine zz6 ?_ _ | refine zz7 ?_ | refine zz8 ?_ _));refine blk_far ?_ NB112_115.out _;(with_reducible repeat (first | refine zz6 ?_ _ | refine zz7 ?_ | refine zz8 ?_ _));exact BK112.out⟩
               have n1_:Aside0 (((w29.setCell ⟨gb115,0,none⟩ (.int .i64 ((rd_T50 l0_1 x25_2).f0))).setCell ⟨gb115,1,none⟩ (.int .i64 ((rd_T50 l0_1 x25_2).f1))).heap[gb115]?=some (.cells #[.int .i64 ((rd_T50 l0_1 x25_2).f0),.int .i64 ((rd_T50 l0_1 x25_2).f1)] 50 (0,0))):=⟨by (with_reducible repeat (first | refine zz6 ?_ _ | refine zz7 ?_ | refine zz8 ?_ _));refine blk_put (cs:=#[.int .i64 ((rd_T50 l0_1 x25_2).f0),.int .i64 0]) ?_ 1 _ rfl;(with_reducible repeat (first | refine zz6 ?_ _ | refine zz7 ?_ | refine zz8 ?_ _));refine blk_put (cs:=#[.int .i64 0,.int .i64 0]) ?_ 0 _ rfl;(with_reducible repeat (first | refine zz6 ?_ _ | refine zz7 ?_ | refine zz8 ?_ _));exact BK115.out⟩
               have n2_:Aside0 (Below w.heap.size w ((w29.setCell ⟨gb115,0,none⟩ (.int .i64 ((rd_T50 l0_1 x25_2).f0))).setCell ⟨gb115,1,none⟩ (.int .i64 ((rd_T50 l0_1 x25_2).f1)))):=⟨by repeat first | exact HB.out | apply zz2 | apply zz0 | apply zz1 | refine zz3 ?_ GE112.out | refine zz3 ?_ GE115.out⟩
               (try clear BK112)
               (try clear BK115)
               (try clear HB)
               generalize ((w29.setCell ⟨gb115,0,none⟩ (.int .i64 ((rd_T50 l0_1 x25_2).f0))).setCell ⟨gb115,1,none⟩ (.int .i64 ((rd_T50 l0_1 x25_2).f1)))=w32 at n0_ n1_ n2_ ⊢
               have BK112:=n0_
               have BK115:=n1_
               have HB:=n2_
               clear n0_ n1_ n2_
               have n0_:=zz31 (zz7 BK112.out)
               have n1_:=zz31 (zz7 BK115.out)
               have n2_:=zz31 (zz1 HB.out)
               clear BK112
               clear BK115
               clear HB
               have BK112:=n0_
               have BK115:=n1_
               have HB:=n2_
               clear n0_ n1_ n2_
               have p118:0≤((ji18):Int):=zz29 (by first | (with_reducible assumption) | assumption)
               have q118:(ji18) < (l0_1.length:Int):=zz29 (by first | (with_reducible assumption) | assumption)
               obtain ⟨ad118,e118,hx118_0,hx118_1⟩:=at_T50 HR0_1.out (ji18) p118 q118
               have hw118_1:=hx118_1
               have hw118_0:=hx118_0
               obtain rfl:ad114=ad118:=(by injection e118)
               try replace hx118_0:=(HB.out.cell (World.block_lt_of_cell? w _ hx118_0)).trans hx118_0
               try replace hx118_1:=(HB.out.cell (World.block_lt_of_cell? w _ hx118_1)).trans hx118_1
               replace p118:=eq_true p118
               replace q118:=eq_true q118
               refine start_ (n:=34) (S:=fun w'=>w'.cell? ⟨gb115,0,none⟩=some (.int .i64 ((rd_T50 l0_1 x25_2).f0))∧w'.cell? ⟨gb115,1,none⟩=some (.int .i64 ((rd_T50 l0_1 x25_2).f1))∧w'.cell? ⟨gb112,0,none⟩=some (.int .i64 a0_0)∧w'.cell? ⟨gb112,1,none⟩=some (.slice (some ad114) l0_1.length c0_1)∧w'.cell? (ad114.add (((ji18)).toNat * 2))=some (.int .i64 ((rd_T50 l0_1 (ji18)).f0))∧w'.cell? ⟨(ad114.add (((ji18)).toNat * 2)).block,(ad114.add (((ji18)).toNat * 2)).off+1,none⟩=some (.int .i64 ((rd_T50 l0_1 (ji18)).f1))) (ds:=[]) #[F,F,F,F,F,F,F,F,F,F,F,F,F,F,F,F,F,F,F,F,F,F,F,F,F,F,F,F,F,F,F,F,F,F] (by kernel_rfl) rfl rfl ⟨(zz9 BK115.out 0).trans rfl,(zz9 BK115.out 1).trans rfl,(zz9 BK112.out 0).trans rfl,(zz9 BK112.out 1).trans rfl,((HB.out.cell (World.block_lt_of_cell? w _ hw118_0)).trans hw118_0),((HB.out.cell (World.block_lt_of_cell? w _ hw118_1)).trans hw118_1)⟩ (fun hHeld=>?_);refine with_tabW spec_paGood.tab6 spec_paGood.bits6 (fun HT_ HW_=>?_)
               generalize w32.drew=w33 at BK112 BK115 HB hx118_0 hx118_1 hHeld ⊢
               refine pure_ (i:=0) (N:=some 30) (v:=?_) (a':=?_) #[T,F,F,F,F,F,F,F,F,F,F,F,F,F,F,F,F,F,F,F,F,F,F,F,F,F,F,F,F,F,F,F,F,F] rfl rfl (any_of HT_.out (by kernel_rfl)) (fun _ _ _ h=>h) (Or.inl ⟨by rfl,?_⟩) ?_ ?_
               rotate_left
               ·intro w'
                go_simp
                with_reducible rfl
               rotate_left
               ·simp only [Act.put,zz21,zz22,zz23,i64_w,i32_w]
                rfl
               refine pure_ (i:=2) (N:=some 32) (v:=?_) (a':=?_) #[T,F,T,F,F,F,F,F,F,F,F,F,F,F,F,F,F,F,F,F,F,F,F,F,F,F,F,F,F,F,F,F,F,F] rfl rfl (any_of HT_.out (by kernel_rfl)) (fun _ _ _ h=>h) (Or.inl ⟨by rfl,?_⟩) ?_ ?_
               rotate_left
               ·intro w'
                go_simp
                with_reducible rfl
               rotate_left
               ·simp only [Act.put,zz21,zz22,zz23,i64_w,i32_w]
                rfl
               refine take_ (i:=1) (N:=some 31) (v:=?_) (a':=?_) #[T,T,T,F,F,F,F,F,F,F,F,F,F,F,F,F,F,F,F,F,F,F,F,F,F,F,F,F,F,F,F,F,F,F] rfl rfl (take_ofW HT_.out HW_.out (by kernel_rfl)) (fun _ _ _ h=>h) (Or.inl ⟨by rfl,?_⟩) hHeld ?_ ?_
               rotate_left
               ·rintro w' ⟨s0,s1,s2,s3,s4,s5⟩
                go_simp
                with_reducible rfl
               rotate_left
               ·simp only [Act.put,zz21,zz22,zz23,i64_w,i32_w]
                rfl
               refine take_ (i:=3) (N:=some 33) (v:=?_) (a':=?_) #[T,T,T,T,F,F,F,F,F,F,F,F,F,F,F,F,F,F,F,F,F,F,F,F,F,F,F,F,F,F,F,F,F,F] rfl rfl (take_ofW HT_.out HW_.out (by kernel_rfl)) (fun _ _ _ h=>h) (Or.inl ⟨by rfl,?_⟩) hHeld ?_ ?_
               rotate_left
               ·rintro w' ⟨s0,s1,s2,s3,s4,s5⟩
                go_simp
                with_reducible rfl
               rotate_left
               ·simp only [Act.put,zz21,zz22,zz23,i64_w,i32_w]
                rfl
               refine pure_ (i:=4) (N:=some 34) (v:=?_) (a':=?_) #[T,T,T,T,T,F,F,F,F,F,F,F,F,F,F,F,F,F,F,F,F,F,F,F,F,F,F,F,F,F,F,F,F,F] rfl rfl (any_of HT_.out (by kernel_rfl)) (fun _ _ _ h=>h) (Or.inl ⟨by rfl,?_⟩) ?_ ?_
               rotate_left
               ·intro w'
                go_simp
                with_reducible rfl
               rotate_left
               ·simp only [Act.put,zz21,zz22,zz23,i64_w,i32_w]
                rfl
               refine one_ (i:=5) (N:=some 35) #[T,T,T,T,T,T,F,F,F,F,F,F,F,F,F,F,F,F,F,F,F,F,F,F,F,F,F,F,F,F,F,F,F,F] rfl rfl (one_of HT_.out (by kernel_rfl)) (by decide) (fun K hK=>?_)
               refine goes_ Tryd.func27 (by kernel_rfl) rfl #[.int .i64 ((rd_T50 l0_1 x25_2).f0),.int .i64 0,.int .i64 (wrap64 (a0_0 - 1))] (by rfl) rfl rfl (by (try simp only [zz26,zz27,zz28]);first | done | rfl | (simp only [zz24,zz25];rfl)) ?_
               with_reducible refine (spec_l1In.calls ((rd_T50 l0_1 x25_2).f0) 0 (wrap64 (a0_0 - 1)) true _ A13.out).mono ?_
               rintro e w' ⟨rfl,⟨nd,rfl⟩⟩
               refine ⟨_,rfl,?_⟩
               refine hK.out _ _ ⟨(zz9 BK115.out 0).trans rfl,(zz9 BK115.out 1).trans rfl,(zz9 BK112.out 0).trans rfl,(zz9 BK112.out 1).trans rfl,((HB.out.cell (World.block_lt_of_cell? w _ hw118_0)).trans hw118_0),((HB.out.cell (World.block_lt_of_cell? w _ hw118_1)).trans hw118_1)⟩ (fun hHeld=>?_)
               clear hK K
               refine norm_ (a':=?_) ?_ ?_
               rotate_left
               ·show Act.put _ (some 35) _=_
                simp only [Act.put,zz21,zz22,zz23,i64_w,i32_w]
                rfl
               refine pure_ (i:=6) (N:=some 36) (v:=?_) (a':=?_) #[T,T,T,T,T,T,T,F,F,F,F,F,F,F,F,F,F,F,F,F,F,F,F,F,F,F,F,F,F,F,F,F,F,F] rfl rfl (any_of HT_.out (by kernel_rfl)) (fun _ _ _ h=>h) (Or.inl ⟨by rfl,?_⟩) ?_ ?_
               rotate_left
               ·intro w'
                go_simp
                with_reducible rfl
               rotate_left
               ·simp only [Act.put,zz21,zz22,zz23,i64_w,i32_w]
                rfl
               refine pure_ (i:=7) (N:=some 37) (v:=?_) (a':=?_) #[T,T,T,T,T,T,T,T,F,F,F,F,F,F,F,F,F,F,F,F,F,F,F,F,F,F,F,F,F,F,F,F,F,F] rfl rfl (any_of HT_.out (by kernel_rfl)) (fun _ _ _ h=>h) (Or.inl ⟨by rfl,?_⟩) ?_ ?_
               rotate_left
               ·intro w'
                go_simp
                with_reducible rfl
               rotate_left
               ·simp only [Act.put,zz21,zz22,zz23,i64_w,i32_w]
                rfl
               refine pure_ (i:=8) (N:=some 38) (v:=?_) (a':=?_) #[T,T,T,T,T,T,T,T,T,F,F,F,F,F,F,F,F,F,F,F,F,F,F,F,F,F,F,F,F,F,F,F,F,F] rfl rfl (any_of HT_.out (by kernel_rfl)) (fun _ _ _ h=>h) (Or.inl ⟨by rfl,?_⟩) ?_ ?_
               rotate_left
               ·intro w'
                go_simp
                with_reducible rfl
               rotate_left
               ·simp only [Act.put,zz21,zz22,zz23,i64_w,i32_w]
                rfl
               refine pure_ (i:=10) (N:=some 40) (v:=?_) (a':=?_) #[T,T,T,T,T,T,T,T,T,F,T,F,F,F,F,F,F,F,F,F,F,F,F,F,F,F,F,F,F,F,F,F,F,F] rfl rfl (any_of HT_.out (by kernel_rfl)) (fun _ _ _ h=>h) (Or.inl ⟨by rfl,?_⟩) ?_ ?_
               rotate_left
               ·intro w'
                go_simp
                with_reducible rfl
               rotate_left
               ·simp only [Act.put,zz21,zz22,zz23,i64_w,i32_w]
                rfl
               refine pure_ (i:=13) (N:=some 43) (v:=?_) (a':=?_) #[T,T,T,T,T,T,T,T,T,F,T,F,F,T,F,F,F,F,F,F,F,F,F,F,F,F,F,F,F,F,F,F,F,F] rfl rfl (any_of HT_.out (by kernel_rfl)) (fun _ _ _ h=>h) (Or.inl ⟨by rfl,?_⟩) ?_ ?_
               rotate_left
               ·intro w'
                go_simp
                with_reducible rfl
               rotate_left
               ·simp only [Act.put,zz21,zz22,zz23,i64_w,i32_w]
                rfl
               refine take_ (i:=9) (N:=some 39) (v:=?_) (a':=?_) #[T,T,T,T,T,T,T,T,T,T,T,F,F,T,F,F,F,F,F,F,F,F,F,F,F,F,F,F,F,F,F,F,F,F] rfl rfl (take_ofW HT_.out HW_.out (by kernel_rfl)) (fun _ _ _ h=>h) (Or.inl ⟨by rfl,?_⟩) hHeld ?_ ?_
               rotate_left
               ·rintro w' ⟨s0,s1,s2,s3,s4,s5⟩
                go_simp
                with_reducible rfl
               rotate_left
               ·simp only [Act.put,zz21,zz22,zz23,i64_w,i32_w]
                rfl
               refine take_ (i:=11) (N:=some 41) (v:=?_) (a':=?_) #[T,T,T,T,T,T,T,T,T,T,T,T,F,T,F,F,F,F,F,F,F,F,F,F,F,F,F,F,F,F,F,F,F,F] rfl rfl (take_ofW HT_.out HW_.out (by kernel_rfl)) (fun _ _ _ h=>h) (Or.inl ⟨by rfl,?_⟩) hHeld ?_ ?_
               rotate_left
               ·rintro w' ⟨s0,s1,s2,s3,s4,s5⟩
                go_simp
                with_reducible rfl
               rotate_left
               ·simp only [Act.put,zz21,zz22,zz23,i64_w,i32_w]
                rfl
               refine pure_ (i:=12) (N:=some 42) (v:=?_) (a':=?_) #[T,T,T,T,T,T,T,T,T,T,T,T,T,T,F,F,F,F,F,F,F,F,F,F,F,F,F,F,F,F,F,F,F,F] rfl rfl (any_of HT_.out (by kernel_rfl)) (fun _ _ _ h=>h) (Or.inl ⟨by rfl,?_⟩) ?_ ?_
               rotate_left
               ·intro w'
                go_simp
                with_reducible rfl
               rotate_left
               ·simp only [Act.put,zz21,zz22,zz23,i64_w,i32_w]
                rfl
               refine take_ (i:=14) (N:=some 44) (v:=?_) (a':=?_) #[T,T,T,T,T,T,T,T,T,T,T,T,T,T,T,F,F,F,F,F,F,F,F,F,F,F,F,F,F,F,F,F,F,F] rfl rfl (take_ofW HT_.out HW_.out (by kernel_rfl)) (fun _ _ _ h=>h) (Or.inl ⟨by rfl,?_⟩) hHeld ?_ ?_
               rotate_left
               ·rintro w' ⟨s0,s1,s2,s3,s4,s5⟩
                go_simp
                with_reducible rfl
               rotate_left
               ·simp only [Act.put,zz21,zz22,zz23,i64_w,i32_w]
                rfl
               refine pure_ (i:=15) (N:=some 45) (v:=?_) (a':=?_) #[T,T,T,T,T,T,T,T,T,T,T,T,T,T,T,T,F,F,F,F,F,F,F,F,F,F,F,F,F,F,F,F,F,F] rfl rfl (any_of HT_.out (by kernel_rfl)) (fun _ _ _ h=>h) (Or.inl ⟨by rfl,?_⟩) ?_ ?_
               rotate_left
               ·intro w'
                go_simp
                with_reducible rfl
               rotate_left
               ·simp only [Act.put,zz21,zz22,zz23,i64_w,i32_w]
                rfl
               refine one_ (i:=16) (N:=some 46) #[T,T,T,T,T,T,T,T,T,T,T,T,T,T,T,T,T,F,F,F,F,F,F,F,F,F,F,F,F,F,F,F,F,F] rfl rfl (one_of HT_.out (by kernel_rfl)) (by decide) (fun K hK=>?_)
               refine goes_ Tryd.func27 (by kernel_rfl) rfl #[.int .i64 ((rd_T50 l0_1 x25_2).f1),.int .i64 (wrap64 (((rd_T50 l0_1 x25_2).f0)+1)),.int .i64 (wrap64 (a0_0 - 1))] (by rfl) rfl rfl (by (try simp only [zz26,zz27,zz28]);first | done | rfl | (simp only [zz24,zz25];rfl)) ?_
               with_reducible refine (spec_l1In.calls ((rd_T50 l0_1 x25_2).f1) (wrap64 (((rd_T50 l0_1 x25_2).f0)+1)) (wrap64 (a0_0 - 1)) true _ A15.out).mono ?_
               rintro e w' ⟨rfl,⟨nd,rfl⟩⟩
               refine ⟨_,rfl,?_⟩
               refine hK.out _ _ ⟨(zz9 BK115.out 0).trans rfl,(zz9 BK115.out 1).trans rfl,(zz9 BK112.out 0).trans rfl,(zz9 BK112.out 1).trans rfl,((HB.out.cell (World.block_lt_of_cell? w _ hw118_0)).trans hw118_0),((HB.out.cell (World.block_lt_of_cell? w _ hw118_1)).trans hw118_1)⟩ (fun hHeld=>?_)
               clear hK K
               refine norm_ (a':=?_) ?_ ?_
               rotate_left
               ·show Act.put _ (some 46) _=_
                simp only [Act.put,zz21,zz22,zz23,i64_w,i32_w]
                rfl
               refine pure_ (i:=17) (N:=some 47) (v:=?_) (a':=?_) #[T,T,T,T,T,T,T,T,T,T,T,T,T,T,T,T,T,T,F,F,F,F,F,F,F,F,F,F,F,F,F,F,F,F] rfl rfl (any_of HT_.out (by kernel_rfl)) (fun _ _ _ h=>h) (Or.inl ⟨by rfl,?_⟩) ?_ ?_
               rotate_left
               ·intro w'
                go_simp
                with_reducible rfl
               rotate_left
               ·simp only [Act.put,zz21,zz22,zz23,i64_w,i32_w]
                rfl
               refine pure_ (i:=18) (N:=some 48) (v:=?_) (a':=?_) #[T,T,T,T,T,T,T,T,T,T,T,T,T,T,T,T,T,T,T,F,F,F,F,F,F,F,F,F,F,F,F,F,F,F] rfl rfl (any_of HT_.out (by kernel_rfl)) (fun _ _ _ h=>h) (Or.inl ⟨by rfl,?_⟩) ?_ ?_
               rotate_left
               ·intro w'
                go_simp
                with_reducible rfl
               rotate_left
               ·simp only [Act.put,zz21,zz22,zz23,i64_w,i32_w]
                rfl
               refine pure_ (i:=19) (N:=some 49) (v:=?_) (a':=?_) #[T,T,T,T,T,T,T,T,T,T,T,T,T,T,T,T,T,T,T,T,F,F,F,F,F,F,F,F,F,F,F,F,F,F] rfl rfl (any_of HT_.out (by kernel_rfl)) (fun _ _ _ h=>h) (Or.inl ⟨by rfl,?_⟩) ?_ ?_
               rotate_left
               ·intro w'
                go_simp
                with_reducible rfl
               rotate_left
               ·simp only [Act.put,zz21,zz22,zz23,i64_w,i32_w]
                rfl
               refine pure_ (i:=20) (N:=some 50) (v:=?_) (a':=?_) #[T,T,T,T,T,T,T,T,T,T,T,T,T,T,T,T,T,T,T,T,T,F,F,F,F,F,F,F,F,F,F,F,F,F] rfl rfl (any_of HT_.out (by kernel_rfl)) (fun _ _ _ h=>h) (Or.inl ⟨by rfl,?_⟩) ?_ ?_
               rotate_left
               ·intro w'
                go_simp
                with_reducible rfl
               rotate_left
               ·simp only [Act.put,zz21,zz22,zz23,i64_w,i32_w]
                rfl
               refine pure_ (i:=21) (N:=some 51) (v:=?_) (a':=?_) #[T,T,T,T,T,T,T,T,T,T,T,T,T,T,T,T,T,T,T,T,T,T,F,F,F,F,F,F,F,F,F,F,F,F] rfl rfl (any_of HT_.out (by kernel_rfl)) (fun _ _ _ h=>h) (Or.inl ⟨by rfl,?_⟩) ?_ ?_
               rotate_left
               ·intro w'
                go_simp
                with_reducible rfl
               rotate_left
               ·simp only [Act.put,zz21,zz22,zz23,i64_w,i32_w]
                rfl
               refine pure_ (i:=22) (N:=some 52) (v:=?_) (a':=?_) #[T,T,T,T,T,T,T,T,T,T,T,T,T,T,T,T,T,T,T,T,T,T,T,F,F,F,F,F,F,F,F,F,F,F] rfl rfl (any_of HT_.out (by kernel_rfl)) (fun _ _ _ h=>h) (Or.inl ⟨by rfl,?_⟩) ?_ ?_
               rotate_left
               ·intro w'
                go_simp
                with_reducible rfl
               rotate_left
               ·simp only [Act.put,zz21,zz22,zz23,i64_w,i32_w]
                rfl
               refine pure_ (i:=23) (N:=some 53) (v:=?_) (a':=?_) #[T,T,T,T,T,T,T,T,T,T,T,T,T,T,T,T,T,T,T,T,T,T,T,T,F,F,F,F,F,F,F,F,F,F] rfl rfl (any_of HT_.out (by kernel_rfl)) (fun _ _ _ h=>h) (Or.inl ⟨by rfl,?_⟩) ?_ ?_
               rotate_left
               ·intro w'
                go_simp
                with_reducible rfl
               rotate_left
               ·simp only [Act.put,zz21,zz22,zz23,i64_w,i32_w]
                rfl
               refine pure_ (i:=25) (N:=some 55) (v:=?_) (a':=?_) #[T,T,T,T,T,T,T,T,T,T,T,T,T,T,T,T,T,T,T,T,T,T,T,T,F,T,F,F,F,F,F,F,F,F] rfl rfl (any_of HT_.out (by kernel_rfl)) (fun _ _ _ h=>h) (Or.inl ⟨by rfl,?_⟩) ?_ ?_
               rotate_left
               ·intro w'
                go_simp
                with_reducible rfl
               rotate_left
               ·simp only [Act.put,zz21,zz22,zz23,i64_w,i32_w]
                rfl
               refine pure_ (i:=26) (N:=some 56) (v:=?_) (a':=?_) #[T,T,T,T,T,T,T,T,T,T,T,T,T,T,T,T,T,T,T,T,T,T,T,T,F,T,T,F,F,F,F,F,F,F] rfl rfl (any_of HT_.out (by kernel_rfl)) (fun _ _ _ h=>h) (Or.inl ⟨by rfl,?_⟩) ?_ ?_
               rotate_left
               ·intro w'
                go_simp
                with_reducible rfl
               rotate_left
               ·simp only [Act.put,zz21,zz22,zz23,i64_w,i32_w]
                rfl
               refine take_ (i:=24) (N:=some 54) (v:=?_) (a':=?_) #[T,T,T,T,T,T,T,T,T,T,T,T,T,T,T,T,T,T,T,T,T,T,T,T,T,T,T,F,F,F,F,F,F,F] rfl rfl (take_ofW HT_.out HW_.out (by kernel_rfl)) (fun _ _ _ h=>h) (Or.inl ⟨by rfl,?_⟩) hHeld ?_ ?_
               rotate_left
               ·rintro w' ⟨s0,s1,s2,s3,s4,s5⟩
                go_simp
                with_reducible rfl
               rotate_left
               ·simp only [Act.put,zz21,zz22,zz23,i64_w,i32_w]
                rfl
               refine pure_ (i:=27) (N:=some 57) (v:=?_) (a':=?_) #[T,T,T,T,T,T,T,T,T,T,T,T,T,T,T,T,T,T,T,T,T,T,T,T,T,T,T,T,F,F,F,F,F,F] rfl rfl (any_of HT_.out (by kernel_rfl)) (fun _ _ _ h=>h) (Or.inl ⟨by rfl,?_⟩) ?_ ?_
               rotate_left
               ·intro w'
                go_simp
                with_reducible rfl
               rotate_left
               ·simp only [Act.put,zz21,zz22,zz23,i64_w,i32_w]
                rfl
               refine take_ (i:=28) (N:=some 58) (v:=?_) (a':=?_) #[T,T,T,T,T,T,T,T,T,T,T,T,T,T,T,T,T,T,T,T,T,T,T,T,T,T,T,T,T,F,F,F,F,F] rfl rfl (take_ofW HT_.out HW_.out (by kernel_rfl)) (fun _ _ _ h=>h) (Or.inl ⟨by rfl,?_⟩) hHeld ?_ ?_
               rotate_left
               ·rintro w' ⟨s0,s1,s2,s3,s4,s5⟩
                go_simp
                with_reducible rfl
               rotate_left
               ·simp only [Act.put,zz21,zz22,zz23,i64_w,i32_w]
                rfl
               refine take_ (i:=29) (N:=some 59) (v:=?_) (a':=?_) #[T,T,T,T,T,T,T,T,T,T,T,T,T,T,T,T,T,T,T,T,T,T,T,T,T,T,T,T,T,T,F,F,F,F] rfl rfl (take_ofW HT_.out HW_.out (by kernel_rfl)) (fun _ _ _ h=>h) (Or.inl ⟨by rfl,?_⟩) hHeld ?_ ?_
               rotate_left
               ·rintro w' ⟨s0,s1,s2,s3,s4,s5⟩
                go_simp
                with_reducible rfl
               rotate_left
               ·simp only [Act.put,zz21,zz22,zz23,i64_w,i32_w]
                rfl
               refine one_ (i:=30) (N:=some 60) #[T,T,T,T,T,T,T,T,T,T,T,T,T,T,T,T,T,T,T,T,T,T,T,T,T,T,T,T,T,T,T,F,F,F] rfl rfl (one_of HT_.out (by kernel_rfl)) (by decide) (fun K hK=>?_)
               refine goes_ Tryd.func28 (by kernel_rfl) rfl #[.agg #[.int .i64 ((rd_T50 l0_1 (ji18)).f0),.int .i64 ((rd_T50 l0_1 (ji18)).f1)],.agg #[.int .i64 ((rd_T50 l0_1 x25_2).f0),.int .i64 ((rd_T50 l0_1 x25_2).f1)]] (by rfl) rfl rfl (by (try simp only [zz26,zz27,zz28]);first | done | (simp only [hji18];rfl) | rfl | (simp only [zz24,zz25];rfl)) ?_
               with_reducible refine (spec_paLess.calls ((rd_T50 l0_1 (ji18)).f0) ((rd_T50 l0_1 (ji18)).f1) ((rd_T50 l0_1 x25_2).f0) ((rd_T50 l0_1 x25_2).f1) false _ A21.out).mono ?_
               rintro e w34 ⟨rfl,hb⟩
               refine ⟨_,rfl,?_⟩
               have n0_:=zz31 (zz11 (g:=gb112) (o:=.cells #[.int .i64 a0_0,.slice (some ad114) l0_1.length c0_1] 30 (0,0)) (by (with_reducible repeat (first | refine zz6 ?_ _ | refine zz7 ?_ | refine zz8 ?_ _));exact BK112.out) hb)
               have n1_:=zz31 (zz11 (g:=gb115) (o:=.cells #[.int .i64 ((rd_T50 l0_1 x25_2).f0),.int .i64 ((rd_T50 l0_1 x25_2).f1)] 50 (0,0)) (by (with_reducible repeat (first | refine zz6 ?_ _ | refine zz7 ?_ | refine zz8 ?_ _));exact BK115.out) hb)
               have n2_:=zz31 (zz4 (by repeat first | exact HB.out | apply zz2 | apply zz0 | apply zz1 | refine zz3 ?_ GE112.out | refine zz3 ?_ GE115.out) hb)
               clear BK112
               clear BK115
               clear HB
               have BK112:=n0_
               have BK115:=n1_
               have HB:=n2_
               clear n0_ n1_ n2_
               (try clear hb)
               (try clear hb2)
               (try clear hk)
               (try clear hi)
               refine hK.out _ _ ⟨(zz9 BK115.out 0).trans rfl,(zz9 BK115.out 1).trans rfl,(zz9 BK112.out 0).trans rfl,(zz9 BK112.out 1).trans rfl,((HB.out.cell (World.block_lt_of_cell? w _ hw118_0)).trans hw118_0),((HB.out.cell (World.block_lt_of_cell? w _ hw118_1)).trans hw118_1)⟩ (fun hHeld=>?_)
               clear hK K
               refine norm_ (a':=?_) ?_ ?_
               rotate_left
               ·show Act.put _ (some 60) _=_
                simp only [Act.put,zz21,zz22,zz23,i64_w,i32_w]
                rfl
               refine pure_ (i:=31) (N:=some 61) (v:=?_) (a':=?_) #[T,T,T,T,T,T,T,T,T,T,T,T,T,T,T,T,T,T,T,T,T,T,T,T,T,T,T,T,T,T,T,T,F,F] rfl rfl (any_of HT_.out (by kernel_rfl)) (fun _ _ _ h=>h) (Or.inl ⟨by rfl,?_⟩) ?_ ?_
               rotate_left
               ·intro w'
                go_simp
                with_reducible rfl
               rotate_left
               ·simp only [Act.put,zz21,zz22,zz23,i64_w,i32_w]
                rfl
               refine pure_ (i:=32) (N:=some 62) (v:=?_) (a':=?_) #[T,T,T,T,T,T,T,T,T,T,T,T,T,T,T,T,T,T,T,T,T,T,T,T,T,T,T,T,T,T,T,T,T,F] rfl rfl (any_of HT_.out (by kernel_rfl)) (fun _ _ _ h=>h) (Or.inl ⟨by rfl,?_⟩) ?_ ?_
               rotate_left
               ·intro w'
                go_simp
                with_reducible rfl
               rotate_left
               ·simp only [Act.put,zz21,zz22,zz23,i64_w,i32_w]
                rfl
               refine pure_ (i:=33) (N:=some 63) (v:=?_) (a':=?_) #[T,T,T,T,T,T,T,T,T,T,T,T,T,T,T,T,T,T,T,T,T,T,T,T,T,T,T,T,T,T,T,T,T,T] rfl rfl (any_of HT_.out (by kernel_rfl)) (fun _ _ _ h=>h) (Or.inl ⟨by rfl,?_⟩) ?_ ?_
               rotate_left
               ·intro w'
                go_simp
                with_reducible rfl
               rotate_left
               ·simp only [Act.put,zz21,zz22,zz23,i64_w,i32_w]
                rfl
               refine done_ (done_of HT_.out (by kernel_rfl)) ?_
               try go_wp2
               go_ret
               exact ⟨by first | rfl | (simp [errW_none,errW_some] <;> rfl) | (simp only [← hji18];first | rfl | (simp [errW_none,errW_some] <;> rfl)) | (simp [*,errW_none,errW_some] <;> rfl),by repeat first | exact HB.out | apply zz2 | apply zz0 | apply zz1 | refine zz3 ?_ GE112.out | refine zz3 ?_ GE115.out⟩
             ·rw [if_neg c20] at H
              exact absurd H (by simp)
            ·rw [if_neg c19] at H
             exact absurd H (by simp)
           ·rw [if_neg c17] at H
            have c17b0:decide (0 < x25_2)=false:=decide_eq_false c17
            clear c17
            have H':=zz31 H
            clear H
            have p114:0≤(x25_2:Int):=zz29 (by first | (with_reducible assumption) | assumption)
            have q114:x25_2 < (l0_1.length:Int):=zz29 (by first | (with_reducible assumption) | assumption)
            obtain ⟨ad114,e114,hx114_0,hx114_1⟩:=at_T50 HR0_1.out x25_2 p114 q114
            cases e114
            try replace hx114_0:=(HB.out.cell (World.block_lt_of_cell? w _ hx114_0)).trans hx114_0
            try replace hx114_1:=(HB.out.cell (World.block_lt_of_cell? w _ hx114_1)).trans hx114_1
            replace p114:=eq_true p114
            replace q114:=eq_true q114
            try go_wp2_with (first | ((with_reducible refine gate_dst (N:=4) rfl ?_);(try (refine gate_guard (by rfl) ?_;dsimp only));refine box_event ?hg (N:=4) ?hd (cs:=#[.int .i64 0,.int .i64 0]) (t:=50) ?hr ?_;(case hd=>rfl);(case hg=>rfl);(case hr=>first | (go_simp;done) | (go_simp;rfl));intro gb115 hg w35 hbox hb;have n0_:=zz31 (zz11 (g:=gb112) (o:=.cells #[.int .i64 a0_0,.slice (some ad114) l0_1.length c0_1] 30 (0,0)) (by (with_reducible repeat (first | refine zz6 ?_ _ | refine zz7 ?_ | refine zz8 ?_ _));exact BK112.out) hb);have n1_:=zz31 (zz4 (by repeat first | exact HB.out | apply zz2 | apply zz0 | apply zz1 | refine zz3 ?_ GE112.out) hb);have n2_:=zz31 (hbox);have n3_:=zz31 ((by rw [hg];exact (zz5 (by repeat first | exact HB.out | apply zz2 | apply zz0 | apply zz1 | refine zz3 ?_ GE112.out)):w.heap.size≤gb115));have n4_:=zz31 ((by rw [hg];exact (zz5 (by repeat first | exact HB.out | apply zz2 | apply zz0 | apply zz1 | refine zz3 ?_ GE112.out)):w.heap.size≤gb115));have n5_:=zz31 ((by rw [hg];exact Nat.ne_of_lt (blk_lt (g:=gb112) (o:=.cells #[.int .i64 a0_0,.slice (some ad114) l0_1.length c0_1] 30 (0,0)) (by (with_reducible repeat (first | refine zz6 ?_ _ | refine zz7 ?_ | refine zz8 ?_ _));exact BK112.out)):gb112 ≠ gb115));have n6_:=zz31 ((by rw [hg];exact Nat.ne_of_gt (blk_lt (g:=gb112) (o:=.cells #[.int .i64 a0_0,.slice (some ad114) l0_1.length c0_1] 30 (0,0)) (by (with_reducible repeat (first | refine zz6 ?_ _ | refine zz7 ?_ | refine zz8 ?_ _));exact BK112.out)):gb115 ≠ gb112));clear BK112;clear HB;have BK112:=n0_;have HB:=n1_;have BK115:=n2_;have GW115:=n3_;have GE115:=n4_;have NB112_115:=n5_;have NB115_112:=n6_;clear n0_ n1_ n2_ n3_ n4_ n5_ n6_;clear hb hbox hg;have hnb36:=NB115_112.out;have hnc36:=NB112_115.out;have hcz37_0:w35.cell? ⟨gb115,0,none⟩=some (.int .i64 0):=(zz9 BK115.out 0).trans rfl;have hcz37_1:w35.cell? ⟨gb115,1,none⟩=some (.int .i64 0):=(zz9 BK115.out 1).trans rfl;have hfz37_0:=zz10 BK115.out 0;have hfz37_1:=zz10 BK115.out 1))
            have n0_:Aside0 (((w35.setCell ⟨gb115,0,none⟩ (.int .i64 ((rd_T50 l0_1 x25_2).f0))).setCell ⟨gb115,1,none⟩ (.int .i64 ((rd_T50 l0_1 x25_2).f1))).heap[gb112]?=some (.cells #[.int .i64 a0_0,.slice (some ad114) l0_1.length c0_1] 30 (0,0))):=⟨by (with_reducible repeat (first | refine zz6 ?_ _ | refine zz7 ?_ | refine zz8 ?_ _));refine blk_far ?_ NB112_115.out _;(with_reducible repeat (first | refine zz6 ?_ _ | refine zz7 ?_ | refine zz8 ?_ _));refine blk_far ?_ NB112_115.out _;(with_reducible repeat (first | refine zz6 ?_ _ | refine zz7 ?_ | refine zz8 ?_ _));exact BK112.out⟩
            have n1_:Aside0 (((w35.setCell ⟨gb115,0,none⟩ (.int .i64 ((rd_T50 l0_1 x25_2).f0))).setCell ⟨gb115,1,none⟩ (.int .i64 ((rd_T50 l0_1 x25_2).f1))).heap[gb115]?=some (.cells #[.int .i64 ((rd_T50 l0_1 x25_2).f0),.int .i64 ((rd_T50 l0_1 x25_2).f1)] 50 (0,0))):=⟨by (with_reducible repeat (first | refine zz6 ?_ _ | refine zz7 ?_ | refine zz8 ?_ _));refine blk_put (cs:=#[.int .i64 ((rd_T50 l0_1 x25_2).f0),.int .i64 0]) ?_ 1 _ rfl;(with_reducible repeat (first | refine zz6 ?_ _ | refine zz7 ?_ | refine zz8 ?_ _));refine blk_put (cs:=#[.int .i64 0,.int .i64 0]) ?_ 0 _ rfl;(with_reducible repeat (first | refine zz6 ?_ _ | refine zz7 ?_ | refine zz8 ?_ _));exact BK115.out⟩
            have n2_:Aside0 (Below w.heap.size w ((w35.setCell ⟨gb115,0,none⟩ (.int .i64 ((rd_T50 l0_1 x25_2).f0))).setCell ⟨gb115,1,none⟩ (.int .i64 ((rd_T50 l0_1 x25_2).f1)))):=⟨by repeat first | exact HB.out | apply zz2 | apply zz0 | apply zz1 | refine zz3 ?_ GE112.out | refine zz3 ?_ GE115.out⟩
            (try clear BK112)
            (try clear BK115)
            (try clear HB)
            generalize ((w35.setCell ⟨gb115,0,none⟩ (.int .i64 ((rd_T50 l0_1 x25_2).f0))).setCell ⟨gb115,1,none⟩ (.int .i64 ((rd_T50 l0_1 x25_2).f1)))=w38 at n0_ n1_ n2_ ⊢
            have BK112:=n0_
            have BK115:=n1_
            have HB:=n2_
            clear n0_ n1_ n2_
            have n0_:=zz31 (zz7 BK112.out)
            have n1_:=zz31 (zz7 BK115.out)
            have n2_:=zz31 (zz1 HB.out)
            clear BK112
            clear BK115
            clear HB
            have BK112:=n0_
            have BK115:=n1_
            have HB:=n2_
            clear n0_ n1_ n2_
            refine start_ (n:=34) (S:=fun w'=>w'.cell? ⟨gb115,0,none⟩=some (.int .i64 ((rd_T50 l0_1 x25_2).f0))∧w'.cell? ⟨gb115,1,none⟩=some (.int .i64 ((rd_T50 l0_1 x25_2).f1))∧w'.cell? ⟨gb112,0,none⟩=some (.int .i64 a0_0)∧w'.cell? ⟨gb112,1,none⟩=some (.slice (some ad114) l0_1.length c0_1)) (ds:=[]) #[F,F,F,F,F,F,F,F,F,F,F,F,F,F,F,F,F,F,F,F,F,F,F,F,F,F,F,F,F,F,F,F,F,F] (by kernel_rfl) rfl rfl ⟨(zz9 BK115.out 0).trans rfl,(zz9 BK115.out 1).trans rfl,(zz9 BK112.out 0).trans rfl,(zz9 BK112.out 1).trans rfl⟩ (fun hHeld=>?_);refine with_tabW spec_paGood.tab6 spec_paGood.bits6 (fun HT_ HW_=>?_)
            generalize w38.drew=w39 at BK112 BK115 HB hHeld ⊢
            refine pure_ (i:=0) (N:=some 30) (v:=?_) (a':=?_) #[T,F,F,F,F,F,F,F,F,F,F,F,F,F,F,F,F,F,F,F,F,F,F,F,F,F,F,F,F,F,F,F,F,F] rfl rfl (any_of HT_.out (by kernel_rfl)) (fun _ _ _ h=>h) (Or.inl ⟨by rfl,?_⟩) ?_ ?_
            rotate_left
            ·intro w'
             go_simp
             with_reducible rfl
            rotate_left
            ·simp only [Act.put,zz21,zz22,zz23,i64_w,i32_w]
             rfl
            refine pure_ (i:=2) (N:=some 32) (v:=?_) (a':=?_) #[T,F,T,F,F,F,F,F,F,F,F,F,F,F,F,F,F,F,F,F,F,F,F,F,F,F,F,F,F,F,F,F,F,F] rfl rfl (any_of HT_.out (by kernel_rfl)) (fun _ _ _ h=>h) (Or.inl ⟨by rfl,?_⟩) ?_ ?_
            rotate_left
            ·intro w'
             go_simp
             with_reducible rfl
            rotate_left
            ·simp only [Act.put,zz21,zz22,zz23,i64_w,i32_w]
             rfl
            refine take_ (i:=1) (N:=some 31) (v:=?_) (a':=?_) #[T,T,T,F,F,F,F,F,F,F,F,F,F,F,F,F,F,F,F,F,F,F,F,F,F,F,F,F,F,F,F,F,F,F] rfl rfl (take_ofW HT_.out HW_.out (by kernel_rfl)) (fun _ _ _ h=>h) (Or.inl ⟨by rfl,?_⟩) hHeld ?_ ?_
            rotate_left
            ·rintro w' ⟨s0,s1,s2,s3⟩
             go_simp
             with_reducible rfl
            rotate_left
            ·simp only [Act.put,zz21,zz22,zz23,i64_w,i32_w]
             rfl
            refine take_ (i:=3) (N:=some 33) (v:=?_) (a':=?_) #[T,T,T,T,F,F,F,F,F,F,F,F,F,F,F,F,F,F,F,F,F,F,F,F,F,F,F,F,F,F,F,F,F,F] rfl rfl (take_ofW HT_.out HW_.out (by kernel_rfl)) (fun _ _ _ h=>h) (Or.inl ⟨by rfl,?_⟩) hHeld ?_ ?_
            rotate_left
            ·rintro w' ⟨s0,s1,s2,s3⟩
             go_simp
             with_reducible rfl
            rotate_left
            ·simp only [Act.put,zz21,zz22,zz23,i64_w,i32_w]
             rfl
            refine pure_ (i:=4) (N:=some 34) (v:=?_) (a':=?_) #[T,T,T,T,T,F,F,F,F,F,F,F,F,F,F,F,F,F,F,F,F,F,F,F,F,F,F,F,F,F,F,F,F,F] rfl rfl (any_of HT_.out (by kernel_rfl)) (fun _ _ _ h=>h) (Or.inl ⟨by rfl,?_⟩) ?_ ?_
            rotate_left
            ·intro w'
             go_simp
             with_reducible rfl
            rotate_left
            ·simp only [Act.put,zz21,zz22,zz23,i64_w,i32_w]
             rfl
            refine one_ (i:=5) (N:=some 35) #[T,T,T,T,T,T,F,F,F,F,F,F,F,F,F,F,F,F,F,F,F,F,F,F,F,F,F,F,F,F,F,F,F,F] rfl rfl (one_of HT_.out (by kernel_rfl)) (by decide) (fun K hK=>?_)
            refine goes_ Tryd.func27 (by kernel_rfl) rfl #[.int .i64 ((rd_T50 l0_1 x25_2).f0),.int .i64 0,.int .i64 (wrap64 (a0_0 - 1))] (by rfl) rfl rfl (by (try simp only [zz26,zz27,zz28]);first | done | rfl | (simp only [zz24,zz25];rfl)) ?_
            with_reducible refine (spec_l1In.calls ((rd_T50 l0_1 x25_2).f0) 0 (wrap64 (a0_0 - 1)) true _ A13.out).mono ?_
            rintro e w' ⟨rfl,⟨nd,rfl⟩⟩
            refine ⟨_,rfl,?_⟩
            refine hK.out _ _ ⟨(zz9 BK115.out 0).trans rfl,(zz9 BK115.out 1).trans rfl,(zz9 BK112.out 0).trans rfl,(zz9 BK112.out 1).trans rfl⟩ (fun hHeld=>?_)
            clear hK K
            refine norm_ (a':=?_) ?_ ?_
            rotate_left
            ·show Act.put _ (some 35) _=_
             simp only [Act.put,zz21,zz22,zz23,i64_w,i32_w]
             rfl
            refine pure_ (i:=6) (N:=some 36) (v:=?_) (a':=?_) #[T,T,T,T,T,T,T,F,F,F,F,F,F,F,F,F,F,F,F,F,F,F,F,F,F,F,F,F,F,F,F,F,F,F] rfl rfl (any_of HT_.out (by kernel_rfl)) (fun _ _ _ h=>h) (Or.inl ⟨by rfl,?_⟩) ?_ ?_
            rotate_left
            ·intro w'
             go_simp
             with_reducible rfl
            rotate_left
            ·simp only [Act.put,zz21,zz22,zz23,i64_w,i32_w]
             rfl
            refine pure_ (i:=7) (N:=some 37) (v:=?_) (a':=?_) #[T,T,T,T,T,T,T,T,F,F,F,F,F,F,F,F,F,F,F,F,F,F,F,F,F,F,F,F,F,F,F,F,F,F] rfl rfl (any_of HT_.out (by kernel_rfl)) (fun _ _ _ h=>h) (Or.inl ⟨by rfl,?_⟩) ?_ ?_
            rotate_left
            ·intro w'
             go_simp
             with_reducible rfl
            rotate_left
            ·simp only [Act.put,zz21,zz22,zz23,i64_w,i32_w]
             rfl
            refine pure_ (i:=8) (N:=some 38) (v:=?_) (a':=?_) #[T,T,T,T,T,T,T,T,T,F,F,F,F,F,F,F,F,F,F,F,F,F,F,F,F,F,F,F,F,F,F,F,F,F] rfl rfl (any_of HT_.out (by kernel_rfl)) (fun _ _ _ h=>h) (Or.inl ⟨by rfl,?_⟩) ?_ ?_
            rotate_left
            ·intro w'
             go_simp
             with_reducible rfl
            rotate_left
            ·simp only [Act.put,zz21,zz22,zz23,i64_w,i32_w]
             rfl
            refine pure_ (i:=10) (N:=some 40) (v:=?_) (a':=?_) #[T,T,T,T,T,T,T,T,T,F,T,F,F,F,F,F,F,F,F,F,F,F,F,F,F,F,F,F,F,F,F,F,F,F] rfl rfl (any_of HT_.out (by kernel_rfl)) (fun _ _ _ h=>h) (Or.inl ⟨by rfl,?_⟩) ?_ ?_
            rotate_left
            ·intro w'
             go_simp
             with_reducible rfl
            rotate_left
            ·simp only [Act.put,zz21,zz22,zz23,i64_w,i32_w]
             rfl
            refine pure_ (i:=13) (N:=some 43) (v:=?_) (a':=?_) #[T,T,T,T,T,T,T,T,T,F,T,F,F,T,F,F,F,F,F,F,F,F,F,F,F,F,F,F,F,F,F,F,F,F] rfl rfl (any_of HT_.out (by kernel_rfl)) (fun _ _ _ h=>h) (Or.inl ⟨by rfl,?_⟩) ?_ ?_
            rotate_left
            ·intro w'
             go_simp
             with_reducible rfl
            rotate_left
            ·simp only [Act.put,zz21,zz22,zz23,i64_w,i32_w]
             rfl
            refine take_ (i:=9) (N:=some 39) (v:=?_) (a':=?_) #[T,T,T,T,T,T,T,T,T,T,T,F,F,T,F,F,F,F,F,F,F,F,F,F,F,F,F,F,F,F,F,F,F,F] rfl rfl (take_ofW HT_.out HW_.out (by kernel_rfl)) (fun _ _ _ h=>h) (Or.inl ⟨by rfl,?_⟩) hHeld ?_ ?_
            rotate_left
            ·rintro w' ⟨s0,s1,s2,s3⟩
             go_simp
             with_reducible rfl
            rotate_left
            ·simp only [Act.put,zz21,zz22,zz23,i64_w,i32_w]
             rfl
            refine take_ (i:=11) (N:=some 41) (v:=?_) (a':=?_) #[T,T,T,T,T,T,T,T,T,T,T,T,F,T,F,F,F,F,F,F,F,F,F,F,F,F,F,F,F,F,F,F,F,F] rfl rfl (take_ofW HT_.out HW_.out (by kernel_rfl)) (fun _ _ _ h=>h) (Or.inl ⟨by rfl,?_⟩) hHeld ?_ ?_
            rotate_left
            ·rintro w' ⟨s0,s1,s2,s3⟩
             go_simp
             with_reducible rfl
            rotate_left
            ·simp only [Act.put,zz21,zz22,zz23,i64_w,i32_w]
             rfl
            refine pure_ (i:=12) (N:=some 42) (v:=?_) (a':=?_) #[T,T,T,T,T,T,T,T,T,T,T,T,T,T,F,F,F,F,F,F,F,F,F,F,F,F,F,F,F,F,F,F,F,F] rfl rfl (any_of HT_.out (by kernel_rfl)) (fun _ _ _ h=>h) (Or.inl ⟨by rfl,?_⟩) ?_ ?_
            rotate_left
            ·intro w'
             go_simp
             with_reducible rfl
            rotate_left
            ·simp only [Act.put,zz21,zz22,zz23,i64_w,i32_w]
             rfl
            refine take_ (i:=14) (N:=some 44) (v:=?_) (a':=?_) #[T,T,T,T,T,T,T,T,T,T,T,T,T,T,T,F,F,F,F,F,F,F,F,F,F,F,F,F,F,F,F,F,F,F] rfl rfl (take_ofW HT_.out HW_.out (by kernel_rfl)) (fun _ _ _ h=>h) (Or.inl ⟨by rfl,?_⟩) hHeld ?_ ?_
            rotate_left
            ·rintro w' ⟨s0,s1,s2,s3⟩
             go_simp
             with_reducible rfl
            rotate_left
            ·simp only [Act.put,zz21,zz22,zz23,i64_w,i32_w]
             rfl
            refine pure_ (i:=15) (N:=some 45) (v:=?_) (a':=?_) #[T,T,T,T,T,T,T,T,T,T,T,T,T,T,T,T,F,F,F,F,F,F,F,F,F,F,F,F,F,F,F,F,F,F] rfl rfl (any_of HT_.out (by kernel_rfl)) (fun _ _ _ h=>h) (Or.inl ⟨by rfl,?_⟩) ?_ ?_
            rotate_left
            ·intro w'
             go_simp
             with_reducible rfl
            rotate_left
            ·simp only [Act.put,zz21,zz22,zz23,i64_w,i32_w]
             rfl
            refine one_ (i:=16) (N:=some 46) #[T,T,T,T,T,T,T,T,T,T,T,T,T,T,T,T,T,F,F,F,F,F,F,F,F,F,F,F,F,F,F,F,F,F] rfl rfl (one_of HT_.out (by kernel_rfl)) (by decide) (fun K hK=>?_)
            refine goes_ Tryd.func27 (by kernel_rfl) rfl #[.int .i64 ((rd_T50 l0_1 x25_2).f1),.int .i64 (wrap64 (((rd_T50 l0_1 x25_2).f0)+1)),.int .i64 (wrap64 (a0_0 - 1))] (by rfl) rfl rfl (by (try simp only [zz26,zz27,zz28]);first | done | rfl | (simp only [zz24,zz25];rfl)) ?_
            with_reducible refine (spec_l1In.calls ((rd_T50 l0_1 x25_2).f1) (wrap64 (((rd_T50 l0_1 x25_2).f0)+1)) (wrap64 (a0_0 - 1)) true _ A15.out).mono ?_
            rintro e w' ⟨rfl,⟨nd,rfl⟩⟩
            refine ⟨_,rfl,?_⟩
            refine hK.out _ _ ⟨(zz9 BK115.out 0).trans rfl,(zz9 BK115.out 1).trans rfl,(zz9 BK112.out 0).trans rfl,(zz9 BK112.out 1).trans rfl⟩ (fun hHeld=>?_)
            clear hK K
            refine norm_ (a':=?_) ?_ ?_
            rotate_left
            ·show Act.put _ (some 46) _=_
             simp only [Act.put,zz21,zz22,zz23,i64_w,i32_w]
             rfl
            refine pure_ (i:=17) (N:=some 47) (v:=?_) (a':=?_) #[T,T,T,T,T,T,T,T,T,T,T,T,T,T,T,T,T,T,F,F,F,F,F,F,F,F,F,F,F,F,F,F,F,F] rfl rfl (any_of HT_.out (by kernel_rfl)) (fun _ _ _ h=>h) (Or.inl ⟨by rfl,?_⟩) ?_ ?_
            rotate_left
            ·intro w'
             go_simp
             with_reducible rfl
            rotate_left
            ·simp only [Act.put,zz21,zz22,zz23,i64_w,i32_w]
             rfl
            refine pure_ (i:=18) (N:=some 48) (v:=?_) (a':=?_) #[T,T,T,T,T,T,T,T,T,T,T,T,T,T,T,T,T,T,T,F,F,F,F,F,F,F,F,F,F,F,F,F,F,F] rfl rfl (any_of HT_.out (by kernel_rfl)) (fun _ _ _ h=>h) (Or.inl ⟨by rfl,?_⟩) ?_ ?_
            rotate_left
            ·intro w'
             go_simp
             with_reducible rfl
            rotate_left
            ·simp only [Act.put,zz21,zz22,zz23,i64_w,i32_w]
             rfl
            refine pure_ (i:=19) (N:=some 49) (v:=?_) (a':=?_) #[T,T,T,T,T,T,T,T,T,T,T,T,T,T,T,T,T,T,T,T,F,F,F,F,F,F,F,F,F,F,F,F,F,F] rfl rfl (any_of HT_.out (by kernel_rfl)) (fun _ _ _ h=>h) (Or.inl ⟨by rfl,?_⟩) ?_ ?_
            rotate_left
            ·intro w'
             go_simp
             with_reducible rfl
            rotate_left
            ·simp only [Act.put,zz21,zz22,zz23,i64_w,i32_w]
             rfl
            refine pure_ (i:=20) (N:=some 50) (v:=?_) (a':=?_) #[T,T,T,T,T,T,T,T,T,T,T,T,T,T,T,T,T,T,T,T,T,F,F,F,F,F,F,F,F,F,F,F,F,F] rfl rfl (any_of HT_.out (by kernel_rfl)) (fun _ _ _ h=>h) (Or.inl ⟨by rfl,?_⟩) ?_ ?_
            rotate_left
            ·intro w'
             go_simp
             with_reducible rfl
            rotate_left
            ·simp only [Act.put,zz21,zz22,zz23,i64_w,i32_w]
             rfl
            refine pure_ (i:=21) (N:=some 51) (v:=?_) (a':=?_) #[T,T,T,T,T,T,T,T,T,T,T,T,T,T,T,T,T,T,T,T,T,T,F,F,F,F,F,F,F,F,F,F,F,F] rfl rfl (any_of HT_.out (by kernel_rfl)) (fun _ _ _ h=>h) (Or.inl ⟨by rfl,?_⟩) ?_ ?_
            rotate_left
            ·intro w'
             go_simp
             with_reducible rfl
            rotate_left
            ·simp only [Act.put,zz21,zz22,zz23,i64_w,i32_w]
             rfl
            refine pure_ (i:=22) (N:=some 52) (v:=?_) (a':=?_) #[T,T,T,T,T,T,T,T,T,T,T,T,T,T,T,T,T,T,T,T,T,T,T,F,F,F,F,F,F,F,F,F,F,F] rfl rfl (any_of HT_.out (by kernel_rfl)) (fun _ _ _ h=>h) (Or.inl ⟨by rfl,?_⟩) ?_ ?_
            rotate_left
            ·intro w'
             go_simp
             with_reducible rfl
            rotate_left
            ·simp only [Act.put,zz21,zz22,zz23,i64_w,i32_w]
             rfl
            refine pure_ (i:=23) (N:=some 53) (v:=undef) (a':=?_) #[T,T,T,T,T,T,T,T,T,T,T,T,T,T,T,T,T,T,T,T,T,T,T,T,F,F,F,F,F,F,F,F,F,F] rfl rfl (any_of HT_.out (by kernel_rfl)) (fun _ _ _ h=>h) (Or.inr ⟨by rfl,rfl⟩) ?_ ?_
            rotate_left
            ·simp only [Act.put,zz21,zz22,zz23,i64_w,i32_w]
             rfl
            refine pure_ (i:=24) (N:=some 54) (v:=undef) (a':=?_) #[T,T,T,T,T,T,T,T,T,T,T,T,T,T,T,T,T,T,T,T,T,T,T,T,T,F,F,F,F,F,F,F,F,F] rfl rfl (any_of HT_.out (by kernel_rfl)) (fun _ _ _ h=>h) (Or.inr ⟨by rfl,rfl⟩) ?_ ?_
            rotate_left
            ·simp only [Act.put,zz21,zz22,zz23,i64_w,i32_w]
             rfl
            refine pure_ (i:=25) (N:=some 55) (v:=undef) (a':=?_) #[T,T,T,T,T,T,T,T,T,T,T,T,T,T,T,T,T,T,T,T,T,T,T,T,T,T,F,F,F,F,F,F,F,F] rfl rfl (any_of HT_.out (by kernel_rfl)) (fun _ _ _ h=>h) (Or.inr ⟨by rfl,rfl⟩) ?_ ?_
            rotate_left
            ·simp only [Act.put,zz21,zz22,zz23,i64_w,i32_w]
             rfl
            refine pure_ (i:=26) (N:=some 56) (v:=undef) (a':=?_) #[T,T,T,T,T,T,T,T,T,T,T,T,T,T,T,T,T,T,T,T,T,T,T,T,T,T,T,F,F,F,F,F,F,F] rfl rfl (any_of HT_.out (by kernel_rfl)) (fun _ _ _ h=>h) (Or.inr ⟨by rfl,rfl⟩) ?_ ?_
            rotate_left
            ·simp only [Act.put,zz21,zz22,zz23,i64_w,i32_w]
             rfl
            refine pure_ (i:=27) (N:=some 57) (v:=undef) (a':=?_) #[T,T,T,T,T,T,T,T,T,T,T,T,T,T,T,T,T,T,T,T,T,T,T,T,T,T,T,T,F,F,F,F,F,F] rfl rfl (any_of HT_.out (by kernel_rfl)) (fun _ _ _ h=>h) (Or.inr ⟨by rfl,rfl⟩) ?_ ?_
            rotate_left
            ·simp only [Act.put,zz21,zz22,zz23,i64_w,i32_w]
             rfl
            refine pure_ (i:=28) (N:=some 58) (v:=undef) (a':=?_) #[T,T,T,T,T,T,T,T,T,T,T,T,T,T,T,T,T,T,T,T,T,T,T,T,T,T,T,T,T,F,F,F,F,F] rfl rfl (any_of HT_.out (by kernel_rfl)) (fun _ _ _ h=>h) (Or.inr ⟨by rfl,rfl⟩) ?_ ?_
            rotate_left
            ·simp only [Act.put,zz21,zz22,zz23,i64_w,i32_w]
             rfl
            refine pure_ (i:=29) (N:=some 59) (v:=undef) (a':=?_) #[T,T,T,T,T,T,T,T,T,T,T,T,T,T,T,T,T,T,T,T,T,T,T,T,T,T,T,T,T,T,F,F,F,F] rfl rfl (any_of HT_.out (by kernel_rfl)) (fun _ _ _ h=>h) (Or.inr ⟨by rfl,rfl⟩) ?_ ?_
            rotate_left
            ·simp only [Act.put,zz21,zz22,zz23,i64_w,i32_w]
             rfl
            refine pure_ (i:=30) (N:=some 60) (v:=undef) (a':=?_) #[T,T,T,T,T,T,T,T,T,T,T,T,T,T,T,T,T,T,T,T,T,T,T,T,T,T,T,T,T,T,T,F,F,F] rfl rfl (any_of HT_.out (by kernel_rfl)) (fun _ _ _ h=>h) (Or.inr ⟨by rfl,rfl⟩) ?_ ?_
            rotate_left
            ·simp only [Act.put,zz21,zz22,zz23,i64_w,i32_w]
             rfl
            refine pure_ (i:=31) (N:=some 61) (v:=undef) (a':=?_) #[T,T,T,T,T,T,T,T,T,T,T,T,T,T,T,T,T,T,T,T,T,T,T,T,T,T,T,T,T,T,T,T,F,F] rfl rfl (any_of HT_.out (by kernel_rfl)) (fun _ _ _ h=>h) (Or.inr ⟨by rfl,rfl⟩) ?_ ?_
            rotate_left
            ·simp only [Act.put,zz21,zz22,zz23,i64_w,i32_w]
             rfl
            refine pure_ (i:=32) (N:=some 62) (v:=?_) (a':=?_) #[T,T,T,T,T,T,T,T,T,T,T,T,T,T,T,T,T,T,T,T,T,T,T,T,T,T,T,T,T,T,T,T,T,F] rfl rfl (any_of HT_.out (by kernel_rfl)) (fun _ _ _ h=>h) (Or.inl ⟨by rfl,?_⟩) ?_ ?_
            rotate_left
            ·intro w'
             go_simp
             with_reducible rfl
            rotate_left
            ·simp only [Act.put,zz21,zz22,zz23,i64_w,i32_w]
             rfl
            refine pure_ (i:=33) (N:=some 63) (v:=?_) (a':=?_) #[T,T,T,T,T,T,T,T,T,T,T,T,T,T,T,T,T,T,T,T,T,T,T,T,T,T,T,T,T,T,T,T,T,T] rfl rfl (any_of HT_.out (by kernel_rfl)) (fun _ _ _ h=>h) (Or.inl ⟨by rfl,?_⟩) ?_ ?_
            rotate_left
            ·intro w'
             go_simp
             with_reducible rfl
            rotate_left
            ·simp only [Act.put,zz21,zz22,zz23,i64_w,i32_w]
             rfl
            refine done_ (done_of HT_.out (by kernel_rfl)) ?_
            try go_wp2
            go_roundg k2
            case measure=>have:=HJ1.out;have:=HK2.out;omega
            case rel=>exact ⟨(wrap64 (x25_2+1)),(by first | rfl | (simp;done) | (simp [*];done)),H',⟨by have:=HJ1.out;have:=HK2.out;omega⟩,⟨by (with_reducible repeat (first | refine zz6 ?_ _ | refine zz7 ?_ | refine zz8 ?_ _));exact BK112.out⟩,⟨by repeat first | exact HB.out | apply zz2 | apply zz0 | apply zz1 | refine zz3 ?_ GE112.out | refine zz3 ?_ GE115.out⟩⟩
          ·replace c16:=Bool.eq_false_iff.mpr c16
           subst c16
           have H1:(some false)=some r:=by rw [if_neg (show ¬ (false=true) by decide)] at H;exact H
           clear H
           have H:=H1
           clear H1
           obtain rfl:=Option.some.inj H
           have p114:0≤(x25_2:Int):=zz29 (by first | (with_reducible assumption) | assumption)
           have q114:x25_2 < (l0_1.length:Int):=zz29 (by first | (with_reducible assumption) | assumption)
           obtain ⟨ad114,e114,hx114_0,hx114_1⟩:=at_T50 HR0_1.out x25_2 p114 q114
           cases e114
           try replace hx114_0:=(HB.out.cell (World.block_lt_of_cell? w _ hx114_0)).trans hx114_0
           try replace hx114_1:=(HB.out.cell (World.block_lt_of_cell? w _ hx114_1)).trans hx114_1
           replace p114:=eq_true p114
           replace q114:=eq_true q114
           try go_wp2_with (first | ((with_reducible refine gate_dst (N:=4) rfl ?_);(try (refine gate_guard (by rfl) ?_;dsimp only));refine box_event ?hg (N:=4) ?hd (cs:=#[.int .i64 0,.int .i64 0]) (t:=50) ?hr ?_;(case hd=>rfl);(case hg=>rfl);(case hr=>first | (go_simp;done) | (go_simp;rfl));intro gb115 hg w40 hbox hb;have n0_:=zz31 (zz11 (g:=gb112) (o:=.cells #[.int .i64 a0_0,.slice (some ad114) l0_1.length c0_1] 30 (0,0)) (by (with_reducible repeat (first | refine zz6 ?_ _ | refine zz7 ?_ | refine zz8 ?_ _));exact BK112.out) hb);have n1_:=zz31 (zz4 (by repeat first | exact HB.out | apply zz2 | apply zz0 | apply zz1 | refine zz3 ?_ GE112.out) hb);have n2_:=zz31 (hbox);have n3_:=zz31 ((by rw [hg];exact (zz5 (by repeat first | exact HB.out | apply zz2 | apply zz0 | apply zz1 | refine zz3 ?_ GE112.out)):w.heap.size≤gb115));have n4_:=zz31 ((by rw [hg];exact (zz5 (by repeat first | exact HB.out | apply zz2 | apply zz0 | apply zz1 | refine zz3 ?_ GE112.out)):w.heap.size≤gb115));have n5_:=zz31 ((by rw [hg];exact Nat.ne_of_lt (blk_lt (g:=gb112) (o:=.cells #[.int .i64 a0_0,.slice (some ad114) l0_1.length c0_1] 30 (0,0)) (by (with_reducible repeat (first | refine zz6 ?_ _ | refine zz7 ?_ | refine zz8 ?_ _));exact BK112.out)):gb112 ≠ gb115));have n6_:=zz31 ((by rw [hg];exact Nat.ne_of_gt (blk_lt (g:=gb112) (o:=.cells #[.int .i64 a0_0,.slice (some ad114) l0_1.length c0_1] 30 (0,0)) (by (with_reducible repeat (first | refine zz6 ?_ _ | refine zz7 ?_ | refine zz8 ?_ _));exact BK112.out)):gb115 ≠ gb112));clear BK112;clear HB;have BK112:=n0_;have HB:=n1_;have BK115:=n2_;have GW115:=n3_;have GE115:=n4_;have NB112_115:=n5_;have NB115_112:=n6_;clear n0_ n1_ n2_ n3_ n4_ n5_ n6_;clear hb hbox hg;have hnb41:=NB115_112.out;have hnc41:=NB112_115.out;have hcz42_0:w40.cell? ⟨gb115,0,none⟩=some (.int .i64 0):=(zz9 BK115.out 0).trans rfl;have hcz42_1:w40.cell? ⟨gb115,1,none⟩=some (.int .i64 0):=(zz9 BK115.out 1).trans rfl;have hfz42_0:=zz10 BK115.out 0;have hfz42_1:=zz10 BK115.out 1))
           have n0_:Aside0 (((w40.setCell ⟨gb115,0,none⟩ (.int .i64 ((rd_T50 l0_1 x25_2).f0))).setCell ⟨gb115,1,none⟩ (.int .i64 ((rd_T50 l0_1 x25_2).f1))).heap[gb112]?=some (.cells #[.int .i64 a0_0,.slice (some ad114) l0_1.length c0_1] 30 (0,0))):=⟨by (with_reducible repeat (first | refine zz6 ?_ _ | refine zz7 ?_ | refine zz8 ?_ _));refine blk_far ?_ NB112_115.out _;(with_reducible repeat (first | refine zz6 ?_ _ | refine zz7 ?_ | refine zz8 ?_ _));refine blk_far ?_ NB112_115.out _;(with_reducible repeat (first | refine zz6 ?_ _ | refine zz7 ?_ | refine zz8 ?_ _));exact BK112.out⟩
           have n1_:Aside0 (((w40.setCell ⟨gb115,0,none⟩ (.int .i64 ((rd_T50 l0_1 x25_2).f0))).setCell ⟨gb115,1,none⟩ (.int .i64 ((rd_T50 l0_1 x25_2).f1))).heap[gb115]?=some (.cells #[.int .i64 ((rd_T50 l0_1 x25_2).f0),.int .i64 ((rd_T50 l0_1 x25_2).f1)] 50 (0,0))):=⟨by (with_reducible repeat (first | refine zz6 ?_ _ | refine zz7 ?_ | refine zz8 ?_ _));refine blk_put (cs:=#[.int .i64 ((rd_T50 l0_1 x25_2).f0),.int .i64 0]) ?_ 1 _ rfl;(with_reducible repeat (first | refine zz6 ?_ _ | refine zz7 ?_ | refine zz8 ?_ _));refine blk_put (cs:=#[.int .i64 0,.int .i64 0]) ?_ 0 _ rfl;(with_reducible repeat (first | refine zz6 ?_ _ | refine zz7 ?_ | refine zz8 ?_ _));exact BK115.out⟩
           have n2_:Aside0 (Below w.heap.size w ((w40.setCell ⟨gb115,0,none⟩ (.int .i64 ((rd_T50 l0_1 x25_2).f0))).setCell ⟨gb115,1,none⟩ (.int .i64 ((rd_T50 l0_1 x25_2).f1)))):=⟨by repeat first | exact HB.out | apply zz2 | apply zz0 | apply zz1 | refine zz3 ?_ GE112.out | refine zz3 ?_ GE115.out⟩
           (try clear BK112)
           (try clear BK115)
           (try clear HB)
           generalize ((w40.setCell ⟨gb115,0,none⟩ (.int .i64 ((rd_T50 l0_1 x25_2).f0))).setCell ⟨gb115,1,none⟩ (.int .i64 ((rd_T50 l0_1 x25_2).f1)))=w43 at n0_ n1_ n2_ ⊢
           have BK112:=n0_
           have BK115:=n1_
           have HB:=n2_
           clear n0_ n1_ n2_
           have n0_:=zz31 (zz7 BK112.out)
           have n1_:=zz31 (zz7 BK115.out)
           have n2_:=zz31 (zz1 HB.out)
           clear BK112
           clear BK115
           clear HB
           have BK112:=n0_
           have BK115:=n1_
           have HB:=n2_
           clear n0_ n1_ n2_
           refine start_ (n:=34) (S:=fun w'=>w'.cell? ⟨gb115,0,none⟩=some (.int .i64 ((rd_T50 l0_1 x25_2).f0))∧w'.cell? ⟨gb115,1,none⟩=some (.int .i64 ((rd_T50 l0_1 x25_2).f1))∧w'.cell? ⟨gb112,0,none⟩=some (.int .i64 a0_0)∧w'.cell? ⟨gb112,1,none⟩=some (.slice (some ad114) l0_1.length c0_1)) (ds:=[]) #[F,F,F,F,F,F,F,F,F,F,F,F,F,F,F,F,F,F,F,F,F,F,F,F,F,F,F,F,F,F,F,F,F,F] (by kernel_rfl) rfl rfl ⟨(zz9 BK115.out 0).trans rfl,(zz9 BK115.out 1).trans rfl,(zz9 BK112.out 0).trans rfl,(zz9 BK112.out 1).trans rfl⟩ (fun hHeld=>?_);refine with_tabW spec_paGood.tab6 spec_paGood.bits6 (fun HT_ HW_=>?_)
           generalize w43.drew=w44 at BK112 BK115 HB hHeld ⊢
           refine pure_ (i:=0) (N:=some 30) (v:=?_) (a':=?_) #[T,F,F,F,F,F,F,F,F,F,F,F,F,F,F,F,F,F,F,F,F,F,F,F,F,F,F,F,F,F,F,F,F,F] rfl rfl (any_of HT_.out (by kernel_rfl)) (fun _ _ _ h=>h) (Or.inl ⟨by rfl,?_⟩) ?_ ?_
           rotate_left
           ·intro w'
            go_simp
            with_reducible rfl
           rotate_left
           ·simp only [Act.put,zz21,zz22,zz23,i64_w,i32_w]
            rfl
           refine pure_ (i:=2) (N:=some 32) (v:=?_) (a':=?_) #[T,F,T,F,F,F,F,F,F,F,F,F,F,F,F,F,F,F,F,F,F,F,F,F,F,F,F,F,F,F,F,F,F,F] rfl rfl (any_of HT_.out (by kernel_rfl)) (fun _ _ _ h=>h) (Or.inl ⟨by rfl,?_⟩) ?_ ?_
           rotate_left
           ·intro w'
            go_simp
            with_reducible rfl
           rotate_left
           ·simp only [Act.put,zz21,zz22,zz23,i64_w,i32_w]
            rfl
           refine take_ (i:=1) (N:=some 31) (v:=?_) (a':=?_) #[T,T,T,F,F,F,F,F,F,F,F,F,F,F,F,F,F,F,F,F,F,F,F,F,F,F,F,F,F,F,F,F,F,F] rfl rfl (take_ofW HT_.out HW_.out (by kernel_rfl)) (fun _ _ _ h=>h) (Or.inl ⟨by rfl,?_⟩) hHeld ?_ ?_
           rotate_left
           ·rintro w' ⟨s0,s1,s2,s3⟩
            go_simp
            with_reducible rfl
           rotate_left
           ·simp only [Act.put,zz21,zz22,zz23,i64_w,i32_w]
            rfl
           refine take_ (i:=3) (N:=some 33) (v:=?_) (a':=?_) #[T,T,T,T,F,F,F,F,F,F,F,F,F,F,F,F,F,F,F,F,F,F,F,F,F,F,F,F,F,F,F,F,F,F] rfl rfl (take_ofW HT_.out HW_.out (by kernel_rfl)) (fun _ _ _ h=>h) (Or.inl ⟨by rfl,?_⟩) hHeld ?_ ?_
           rotate_left
           ·rintro w' ⟨s0,s1,s2,s3⟩
            go_simp
            with_reducible rfl
           rotate_left
           ·simp only [Act.put,zz21,zz22,zz23,i64_w,i32_w]
            rfl
           refine pure_ (i:=4) (N:=some 34) (v:=?_) (a':=?_) #[T,T,T,T,T,F,F,F,F,F,F,F,F,F,F,F,F,F,F,F,F,F,F,F,F,F,F,F,F,F,F,F,F,F] rfl rfl (any_of HT_.out (by kernel_rfl)) (fun _ _ _ h=>h) (Or.inl ⟨by rfl,?_⟩) ?_ ?_
           rotate_left
           ·intro w'
            go_simp
            with_reducible rfl
           rotate_left
           ·simp only [Act.put,zz21,zz22,zz23,i64_w,i32_w]
            rfl
           refine one_ (i:=5) (N:=some 35) #[T,T,T,T,T,T,F,F,F,F,F,F,F,F,F,F,F,F,F,F,F,F,F,F,F,F,F,F,F,F,F,F,F,F] rfl rfl (one_of HT_.out (by kernel_rfl)) (by decide) (fun K hK=>?_)
           refine goes_ Tryd.func27 (by kernel_rfl) rfl #[.int .i64 ((rd_T50 l0_1 x25_2).f0),.int .i64 0,.int .i64 (wrap64 (a0_0 - 1))] (by rfl) rfl rfl (by (try simp only [zz26,zz27,zz28]);first | done | rfl | (simp only [zz24,zz25];rfl)) ?_
           with_reducible refine (spec_l1In.calls ((rd_T50 l0_1 x25_2).f0) 0 (wrap64 (a0_0 - 1)) true _ A13.out).mono ?_
           rintro e w' ⟨rfl,⟨nd,rfl⟩⟩
           refine ⟨_,rfl,?_⟩
           refine hK.out _ _ ⟨(zz9 BK115.out 0).trans rfl,(zz9 BK115.out 1).trans rfl,(zz9 BK112.out 0).trans rfl,(zz9 BK112.out 1).trans rfl⟩ (fun hHeld=>?_)
           clear hK K
           refine norm_ (a':=?_) ?_ ?_
           rotate_left
           ·show Act.put _ (some 35) _=_
            simp only [Act.put,zz21,zz22,zz23,i64_w,i32_w]
            rfl
           refine pure_ (i:=6) (N:=some 36) (v:=?_) (a':=?_) #[T,T,T,T,T,T,T,F,F,F,F,F,F,F,F,F,F,F,F,F,F,F,F,F,F,F,F,F,F,F,F,F,F,F] rfl rfl (any_of HT_.out (by kernel_rfl)) (fun _ _ _ h=>h) (Or.inl ⟨by rfl,?_⟩) ?_ ?_
           rotate_left
           ·intro w'
            go_simp
            with_reducible rfl
           rotate_left
           ·simp only [Act.put,zz21,zz22,zz23,i64_w,i32_w]
            rfl
           refine pure_ (i:=7) (N:=some 37) (v:=?_) (a':=?_) #[T,T,T,T,T,T,T,T,F,F,F,F,F,F,F,F,F,F,F,F,F,F,F,F,F,F,F,F,F,F,F,F,F,F] rfl rfl (any_of HT_.out (by kernel_rfl)) (fun _ _ _ h=>h) (Or.inl ⟨by rfl,?_⟩) ?_ ?_
           rotate_left
           ·intro w'
            go_simp
            with_reducible rfl
           rotate_left
           ·simp only [Act.put,zz21,zz22,zz23,i64_w,i32_w]
            rfl
           refine pure_ (i:=8) (N:=some 38) (v:=?_) (a':=?_) #[T,T,T,T,T,T,T,T,T,F,F,F,F,F,F,F,F,F,F,F,F,F,F,F,F,F,F,F,F,F,F,F,F,F] rfl rfl (any_of HT_.out (by kernel_rfl)) (fun _ _ _ h=>h) (Or.inl ⟨by rfl,?_⟩) ?_ ?_
           rotate_left
           ·intro w'
            go_simp
            with_reducible rfl
           rotate_left
           ·simp only [Act.put,zz21,zz22,zz23,i64_w,i32_w]
            rfl
           refine pure_ (i:=10) (N:=some 40) (v:=?_) (a':=?_) #[T,T,T,T,T,T,T,T,T,F,T,F,F,F,F,F,F,F,F,F,F,F,F,F,F,F,F,F,F,F,F,F,F,F] rfl rfl (any_of HT_.out (by kernel_rfl)) (fun _ _ _ h=>h) (Or.inl ⟨by rfl,?_⟩) ?_ ?_
           rotate_left
           ·intro w'
            go_simp
            with_reducible rfl
           rotate_left
           ·simp only [Act.put,zz21,zz22,zz23,i64_w,i32_w]
            rfl
           refine pure_ (i:=13) (N:=some 43) (v:=?_) (a':=?_) #[T,T,T,T,T,T,T,T,T,F,T,F,F,T,F,F,F,F,F,F,F,F,F,F,F,F,F,F,F,F,F,F,F,F] rfl rfl (any_of HT_.out (by kernel_rfl)) (fun _ _ _ h=>h) (Or.inl ⟨by rfl,?_⟩) ?_ ?_
           rotate_left
           ·intro w'
            go_simp
            with_reducible rfl
           rotate_left
           ·simp only [Act.put,zz21,zz22,zz23,i64_w,i32_w]
            rfl
           refine take_ (i:=9) (N:=some 39) (v:=?_) (a':=?_) #[T,T,T,T,T,T,T,T,T,T,T,F,F,T,F,F,F,F,F,F,F,F,F,F,F,F,F,F,F,F,F,F,F,F] rfl rfl (take_ofW HT_.out HW_.out (by kernel_rfl)) (fun _ _ _ h=>h) (Or.inl ⟨by rfl,?_⟩) hHeld ?_ ?_
           rotate_left
           ·rintro w' ⟨s0,s1,s2,s3⟩
            go_simp
            with_reducible rfl
           rotate_left
           ·simp only [Act.put,zz21,zz22,zz23,i64_w,i32_w]
            rfl
           refine take_ (i:=11) (N:=some 41) (v:=?_) (a':=?_) #[T,T,T,T,T,T,T,T,T,T,T,T,F,T,F,F,F,F,F,F,F,F,F,F,F,F,F,F,F,F,F,F,F,F] rfl rfl (take_ofW HT_.out HW_.out (by kernel_rfl)) (fun _ _ _ h=>h) (Or.inl ⟨by rfl,?_⟩) hHeld ?_ ?_
           rotate_left
           ·rintro w' ⟨s0,s1,s2,s3⟩
            go_simp
            with_reducible rfl
           rotate_left
           ·simp only [Act.put,zz21,zz22,zz23,i64_w,i32_w]
            rfl
           refine pure_ (i:=12) (N:=some 42) (v:=?_) (a':=?_) #[T,T,T,T,T,T,T,T,T,T,T,T,T,T,F,F,F,F,F,F,F,F,F,F,F,F,F,F,F,F,F,F,F,F] rfl rfl (any_of HT_.out (by kernel_rfl)) (fun _ _ _ h=>h) (Or.inl ⟨by rfl,?_⟩) ?_ ?_
           rotate_left
           ·intro w'
            go_simp
            with_reducible rfl
           rotate_left
           ·simp only [Act.put,zz21,zz22,zz23,i64_w,i32_w]
            rfl
           refine take_ (i:=14) (N:=some 44) (v:=?_) (a':=?_) #[T,T,T,T,T,T,T,T,T,T,T,T,T,T,T,F,F,F,F,F,F,F,F,F,F,F,F,F,F,F,F,F,F,F] rfl rfl (take_ofW HT_.out HW_.out (by kernel_rfl)) (fun _ _ _ h=>h) (Or.inl ⟨by rfl,?_⟩) hHeld ?_ ?_
           rotate_left
           ·rintro w' ⟨s0,s1,s2,s3⟩
            go_simp
            with_reducible rfl
           rotate_left
           ·simp only [Act.put,zz21,zz22,zz23,i64_w,i32_w]
            rfl
           refine pure_ (i:=15) (N:=some 45) (v:=?_) (a':=?_) #[T,T,T,T,T,T,T,T,T,T,T,T,T,T,T,T,F,F,F,F,F,F,F,F,F,F,F,F,F,F,F,F,F,F] rfl rfl (any_of HT_.out (by kernel_rfl)) (fun _ _ _ h=>h) (Or.inl ⟨by rfl,?_⟩) ?_ ?_
           rotate_left
           ·intro w'
            go_simp
            with_reducible rfl
           rotate_left
           ·simp only [Act.put,zz21,zz22,zz23,i64_w,i32_w]
            rfl
           refine one_ (i:=16) (N:=some 46) #[T,T,T,T,T,T,T,T,T,T,T,T,T,T,T,T,T,F,F,F,F,F,F,F,F,F,F,F,F,F,F,F,F,F] rfl rfl (one_of HT_.out (by kernel_rfl)) (by decide) (fun K hK=>?_)
           refine goes_ Tryd.func27 (by kernel_rfl) rfl #[.int .i64 ((rd_T50 l0_1 x25_2).f1),.int .i64 (wrap64 (((rd_T50 l0_1 x25_2).f0)+1)),.int .i64 (wrap64 (a0_0 - 1))] (by rfl) rfl rfl (by (try simp only [zz26,zz27,zz28]);first | done | rfl | (simp only [zz24,zz25];rfl)) ?_
           with_reducible refine (spec_l1In.calls ((rd_T50 l0_1 x25_2).f1) (wrap64 (((rd_T50 l0_1 x25_2).f0)+1)) (wrap64 (a0_0 - 1)) false _ A15.out).mono ?_
           rintro e w' ⟨rfl,⟨nd,rfl⟩⟩
           refine ⟨_,rfl,?_⟩
           refine hK.out _ _ ⟨(zz9 BK115.out 0).trans rfl,(zz9 BK115.out 1).trans rfl,(zz9 BK112.out 0).trans rfl,(zz9 BK112.out 1).trans rfl⟩ (fun hHeld=>?_)
           clear hK K
           refine norm_ (a':=?_) ?_ ?_
           rotate_left
           ·show Act.put _ (some 46) _=_
            simp only [Act.put,zz21,zz22,zz23,i64_w,i32_w]
            rfl
           refine pure_ (i:=17) (N:=some 47) (v:=?_) (a':=?_) #[T,T,T,T,T,T,T,T,T,T,T,T,T,T,T,T,T,T,F,F,F,F,F,F,F,F,F,F,F,F,F,F,F,F] rfl rfl (any_of HT_.out (by kernel_rfl)) (fun _ _ _ h=>h) (Or.inl ⟨by rfl,?_⟩) ?_ ?_
           rotate_left
           ·intro w'
            go_simp
            with_reducible rfl
           rotate_left
           ·simp only [Act.put,zz21,zz22,zz23,i64_w,i32_w]
            rfl
           refine pure_ (i:=18) (N:=some 48) (v:=?_) (a':=?_) #[T,T,T,T,T,T,T,T,T,T,T,T,T,T,T,T,T,T,T,F,F,F,F,F,F,F,F,F,F,F,F,F,F,F] rfl rfl (any_of HT_.out (by kernel_rfl)) (fun _ _ _ h=>h) (Or.inl ⟨by rfl,?_⟩) ?_ ?_
           rotate_left
           ·intro w'
            go_simp
            with_reducible rfl
           rotate_left
           ·simp only [Act.put,zz21,zz22,zz23,i64_w,i32_w]
            rfl
           refine pure_ (i:=19) (N:=some 49) (v:=?_) (a':=?_) #[T,T,T,T,T,T,T,T,T,T,T,T,T,T,T,T,T,T,T,T,F,F,F,F,F,F,F,F,F,F,F,F,F,F] rfl rfl (any_of HT_.out (by kernel_rfl)) (fun _ _ _ h=>h) (Or.inl ⟨by rfl,?_⟩) ?_ ?_
           rotate_left
           ·intro w'
            go_simp
            with_reducible rfl
           rotate_left
           ·simp only [Act.put,zz21,zz22,zz23,i64_w,i32_w]
            rfl
           refine pure_ (i:=20) (N:=some 50) (v:=undef) (a':=?_) #[T,T,T,T,T,T,T,T,T,T,T,T,T,T,T,T,T,T,T,T,T,F,F,F,F,F,F,F,F,F,F,F,F,F] rfl rfl (any_of HT_.out (by kernel_rfl)) (fun _ _ _ h=>h) (Or.inr ⟨by rfl,rfl⟩) ?_ ?_
           rotate_left
           ·simp only [Act.put,zz21,zz22,zz23,i64_w,i32_w]
            rfl
           refine pure_ (i:=21) (N:=some 51) (v:=undef) (a':=?_) #[T,T,T,T,T,T,T,T,T,T,T,T,T,T,T,T,T,T,T,T,T,T,F,F,F,F,F,F,F,F,F,F,F,F] rfl rfl (any_of HT_.out (by kernel_rfl)) (fun _ _ _ h=>h) (Or.inr ⟨by rfl,rfl⟩) ?_ ?_
           rotate_left
           ·simp only [Act.put,zz21,zz22,zz23,i64_w,i32_w]
            rfl
           refine pure_ (i:=22) (N:=some 52) (v:=undef) (a':=?_) #[T,T,T,T,T,T,T,T,T,T,T,T,T,T,T,T,T,T,T,T,T,T,T,F,F,F,F,F,F,F,F,F,F,F] rfl rfl (any_of HT_.out (by kernel_rfl)) (fun _ _ _ h=>h) (Or.inr ⟨by rfl,rfl⟩) ?_ ?_
           rotate_left
           ·simp only [Act.put,zz21,zz22,zz23,i64_w,i32_w]
            rfl
           refine pure_ (i:=23) (N:=some 53) (v:=undef) (a':=?_) #[T,T,T,T,T,T,T,T,T,T,T,T,T,T,T,T,T,T,T,T,T,T,T,T,F,F,F,F,F,F,F,F,F,F] rfl rfl (any_of HT_.out (by kernel_rfl)) (fun _ _ _ h=>h) (Or.inr ⟨by rfl,rfl⟩) ?_ ?_
           rotate_left
           ·simp only [Act.put,zz21,zz22,zz23,i64_w,i32_w]
            rfl
           refine pure_ (i:=24) (N:=some 54) (v:=undef) (a':=?_) #[T,T,T,T,T,T,T,T,T,T,T,T,T,T,T,T,T,T,T,T,T,T,T,T,T,F,F,F,F,F,F,F,F,F] rfl rfl (any_of HT_.out (by kernel_rfl)) (fun _ _ _ h=>h) (Or.inr ⟨by rfl,rfl⟩) ?_ ?_
           rotate_left
           ·simp only [Act.put,zz21,zz22,zz23,i64_w,i32_w]
            rfl
           refine pure_ (i:=25) (N:=some 55) (v:=undef) (a':=?_) #[T,T,T,T,T,T,T,T,T,T,T,T,T,T,T,T,T,T,T,T,T,T,T,T,T,T,F,F,F,F,F,F,F,F] rfl rfl (any_of HT_.out (by kernel_rfl)) (fun _ _ _ h=>h) (Or.inr ⟨by rfl,rfl⟩) ?_ ?_
           rotate_left
           ·simp only [Act.put,zz21,zz22,zz23,i64_w,i32_w]
            rfl
           refine pure_ (i:=26) (N:=some 56) (v:=undef) (a':=?_) #[T,T,T,T,T,T,T,T,T,T,T,T,T,T,T,T,T,T,T,T,T,T,T,T,T,T,T,F,F,F,F,F,F,F] rfl rfl (any_of HT_.out (by kernel_rfl)) (fun _ _ _ h=>h) (Or.inr ⟨by rfl,rfl⟩) ?_ ?_
           rotate_left
           ·simp only [Act.put,zz21,zz22,zz23,i64_w,i32_w]
            rfl
           refine pure_ (i:=27) (N:=some 57) (v:=undef) (a':=?_) #[T,T,T,T,T,T,T,T,T,T,T,T,T,T,T,T,T,T,T,T,T,T,T,T,T,T,T,T,F,F,F,F,F,F] rfl rfl (any_of HT_.out (by kernel_rfl)) (fun _ _ _ h=>h) (Or.inr ⟨by rfl,rfl⟩) ?_ ?_
           rotate_left
           ·simp only [Act.put,zz21,zz22,zz23,i64_w,i32_w]
            rfl
           refine pure_ (i:=28) (N:=some 58) (v:=undef) (a':=?_) #[T,T,T,T,T,T,T,T,T,T,T,T,T,T,T,T,T,T,T,T,T,T,T,T,T,T,T,T,T,F,F,F,F,F] rfl rfl (any_of HT_.out (by kernel_rfl)) (fun _ _ _ h=>h) (Or.inr ⟨by rfl,rfl⟩) ?_ ?_
           rotate_left
           ·simp only [Act.put,zz21,zz22,zz23,i64_w,i32_w]
            rfl
           refine pure_ (i:=29) (N:=some 59) (v:=undef) (a':=?_) #[T,T,T,T,T,T,T,T,T,T,T,T,T,T,T,T,T,T,T,T,T,T,T,T,T,T,T,T,T,T,F,F,F,F] rfl rfl (any_of HT_.out (by kernel_rfl)) (fun _ _ _ h=>h) (Or.inr ⟨by rfl,rfl⟩) ?_ ?_
           rotate_left
           ·simp only [Act.put,zz21,zz22,zz23,i64_w,i32_w]
            rfl
           refine pure_ (i:=30) (N:=some 60) (v:=undef) (a':=?_) #[T,T,T,T,T,T,T,T,T,T,T,T,T,T,T,T,T,T,T,T,T,T,T,T,T,T,T,T,T,T,T,F,F,F] rfl rfl (any_of HT_.out (by kernel_rfl)) (fun _ _ _ h=>h) (Or.inr ⟨by rfl,rfl⟩) ?_ ?_
           rotate_left
           ·simp only [Act.put,zz21,zz22,zz23,i64_w,i32_w]
            rfl
           refine pure_ (i:=31) (N:=some 61) (v:=undef) (a':=?_) #[T,T,T,T,T,T,T,T,T,T,T,T,T,T,T,T,T,T,T,T,T,T,T,T,T,T,T,T,T,T,T,T,F,F] rfl rfl (any_of HT_.out (by kernel_rfl)) (fun _ _ _ h=>h) (Or.inr ⟨by rfl,rfl⟩) ?_ ?_
           rotate_left
           ·simp only [Act.put,zz21,zz22,zz23,i64_w,i32_w]
            rfl
           refine pure_ (i:=32) (N:=some 62) (v:=undef) (a':=?_) #[T,T,T,T,T,T,T,T,T,T,T,T,T,T,T,T,T,T,T,T,T,T,T,T,T,T,T,T,T,T,T,T,T,F] rfl rfl (any_of HT_.out (by kernel_rfl)) (fun _ _ _ h=>h) (Or.inr ⟨by rfl,rfl⟩) ?_ ?_
           rotate_left
           ·simp only [Act.put,zz21,zz22,zz23,i64_w,i32_w]
            rfl
           refine pure_ (i:=33) (N:=some 63) (v:=?_) (a':=?_) #[T,T,T,T,T,T,T,T,T,T,T,T,T,T,T,T,T,T,T,T,T,T,T,T,T,T,T,T,T,T,T,T,T,T] rfl rfl (any_of HT_.out (by kernel_rfl)) (fun _ _ _ h=>h) (Or.inl ⟨by rfl,?_⟩) ?_ ?_
           rotate_left
           ·intro w'
            go_simp
            with_reducible rfl
           rotate_left
           ·simp only [Act.put,zz21,zz22,zz23,i64_w,i32_w]
            rfl
           refine done_ (done_of HT_.out (by kernel_rfl)) ?_
           try go_wp2
           go_ret
           exact ⟨by first | rfl | (simp [errW_none,errW_some] <;> rfl) | (simp [*,errW_none,errW_some] <;> rfl),by repeat first | exact HB.out | apply zz2 | apply zz0 | apply zz1 | refine zz3 ?_ GE112.out | refine zz3 ?_ GE115.out⟩
         ·replace c14:=Bool.eq_false_iff.mpr c14
          subst c14
          have H1:(some false)=some r:=by rw [if_neg (show ¬ (false=true) by decide)] at H;exact H
          clear H
          have H:=H1
          clear H1
          obtain rfl:=Option.some.inj H
          have p114:0≤(x25_2:Int):=zz29 (by first | (with_reducible assumption) | assumption)
          have q114:x25_2 < (l0_1.length:Int):=zz29 (by first | (with_reducible assumption) | assumption)
          obtain ⟨ad114,e114,hx114_0,hx114_1⟩:=at_T50 HR0_1.out x25_2 p114 q114
          cases e114
          try replace hx114_0:=(HB.out.cell (World.block_lt_of_cell? w _ hx114_0)).trans hx114_0
          try replace hx114_1:=(HB.out.cell (World.block_lt_of_cell? w _ hx114_1)).trans hx114_1
          replace p114:=eq_true p114
          replace q114:=eq_true q114
          try go_wp2_with (first | ((with_reducible refine gate_dst (N:=4) rfl ?_);(try (refine gate_guard (by rfl) ?_;dsimp only));refine box_event ?hg (N:=4) ?hd (cs:=#[.int .i64 0,.int .i64 0]) (t:=50) ?hr ?_;(case hd=>rfl);(case hg=>rfl);(case hr=>first | (go_simp;done) | (go_simp;rfl));intro gb115 hg w45 hbox hb;have n0_:=zz31 (zz11 (g:=gb112) (o:=.cells #[.int .i64 a0_0,.slice (some ad114) l0_1.length c0_1] 30 (0,0)) (by (with_reducible repeat (first | refine zz6 ?_ _ | refine zz7 ?_ | refine zz8 ?_ _));exact BK112.out) hb);have n1_:=zz31 (zz4 (by repeat first | exact HB.out | apply zz2 | apply zz0 | apply zz1 | refine zz3 ?_ GE112.out) hb);have n2_:=zz31 (hbox);have n3_:=zz31 ((by rw [hg];exact (zz5 (by repeat first | exact HB.out | apply zz2 | apply zz0 | apply zz1 | refine zz3 ?_ GE112.out)):w.heap.size≤gb115));have n4_:=zz31 ((by rw [hg];exact (zz5 (by repeat first | exact HB.out | apply zz2 | apply zz0 | apply zz1 | refine zz3 ?_ GE112.out)):w.heap.size≤gb115));have n5_:=zz31 ((by rw [hg];exact Nat.ne_of_lt (blk_lt (g:=gb112) (o:=.cells #[.int .i64 a0_0,.slice (some ad114) l0_1.length c0_1] 30 (0,0)) (by (with_reducible repeat (first | refine zz6 ?_ _ | refine zz7 ?_ | refine zz8 ?_ _));exact BK112.out)):gb112 ≠ gb115));have n6_:=zz31 ((by rw [hg];exact Nat.ne_of_gt (blk_lt (g:=gb112) (o:=.cells #[.int .i64 a0_0,.slice (some ad114) l0_1.length c0_1] 30 (0,0)) (by (with_reducible repeat (first | refine zz6 ?_ _ | refine zz7 ?_ | refine zz8 ?_ _));exact BK112.out)):gb115 ≠ gb112));clear BK112;clear HB;have BK112:=n0_;have HB:=n1_;have BK115:=n2_;have GW115:=n3_;have GE115:=n4_;have NB112_115:=n5_;have NB115_112:=n6_;clear n0_ n1_ n2_ n3_ n4_ n5_ n6_;clear hb hbox hg;have hnb46:=NB115_112.out;have hnc46:=NB112_115.out;have hcz47_0:w45.cell? ⟨gb115,0,none⟩=some (.int .i64 0):=(zz9 BK115.out 0).trans rfl;have hcz47_1:w45.cell? ⟨gb115,1,none⟩=some (.int .i64 0):=(zz9 BK115.out 1).trans rfl;have hfz47_0:=zz10 BK115.out 0;have hfz47_1:=zz10 BK115.out 1))
          have n0_:Aside0 (((w45.setCell ⟨gb115,0,none⟩ (.int .i64 ((rd_T50 l0_1 x25_2).f0))).setCell ⟨gb115,1,none⟩ (.int .i64 ((rd_T50 l0_1 x25_2).f1))).heap[gb112]?=some (.cells #[.int .i64 a0_0,.slice (some ad114) l0_1.length c0_1] 30 (0,0))):=⟨by (with_reducible repeat (first | refine zz6 ?_ _ | refine zz7 ?_ | refine zz8 ?_ _));refine blk_far ?_ NB112_115.out _;(with_reducible repeat (first | refine zz6 ?_ _ | refine zz7 ?_ | refine zz8 ?_ _));refine blk_far ?_ NB112_115.out _;(with_reducible repeat (first | refine zz6 ?_ _ | refine zz7 ?_ | refine zz8 ?_ _));exact BK112.out⟩
          have n1_:Aside0 (((w45.setCell ⟨gb115,0,none⟩ (.int .i64 ((rd_T50 l0_1 x25_2).f0))).setCell ⟨gb115,1,none⟩ (.int .i64 ((rd_T50 l0_1 x25_2).f1))).heap[gb115]?=some (.cells #[.int .i64 ((rd_T50 l0_1 x25_2).f0),.int .i64 ((rd_T50 l0_1 x25_2).f1)] 50 (0,0))):=⟨by (with_reducible repeat (first | refine zz6 ?_ _ | refine zz7 ?_ | refine zz8 ?_ _));refine blk_put (cs:=#[.int .i64 ((rd_T50 l0_1 x25_2).f0),.int .i64 0]) ?_ 1 _ rfl;(with_reducible repeat (first | refine zz6 ?_ _ | refine zz7 ?_ | refine zz8 ?_ _));refine blk_put (cs:=#[.int .i64 0,.int .i64 0]) ?_ 0 _ rfl;(with_reducible repeat (first | refine zz6 ?_ _ | refine zz7 ?_ | refine zz8 ?_ _));exact BK115.out⟩
          have n2_:Aside0 (Below w.heap.size w ((w45.setCell ⟨gb115,0,none⟩ (.int .i64 ((rd_T50 l0_1 x25_2).f0))).setCell ⟨gb115,1,none⟩ (.int .i64 ((rd_T50 l0_1 x25_2).f1)))):=⟨by repeat first | exact HB.out | apply zz2 | apply zz0 | apply zz1 | refine zz3 ?_ GE112.out | refine zz3 ?_ GE115.out⟩
          (try clear BK112)
          (try clear BK115)
          (try clear HB)
          generalize ((w45.setCell ⟨gb115,0,none⟩ (.int .i64 ((rd_T50 l0_1 x25_2).f0))).setCell ⟨gb115,1,none⟩ (.int .i64 ((rd_T50 l0_1 x25_2).f1)))=w48 at n0_ n1_ n2_ ⊢
          have BK112:=n0_
          have BK115:=n1_
          have HB:=n2_
          clear n0_ n1_ n2_
          have n0_:=zz31 (zz7 BK112.out)
          have n1_:=zz31 (zz7 BK115.out)
          have n2_:=zz31 (zz1 HB.out)
          clear BK112
          clear BK115
          clear HB
          have BK112:=n0_
          have BK115:=n1_
          have HB:=n2_
          clear n0_ n1_ n2_
          refine start_ (n:=34) (S:=fun w'=>w'.cell? ⟨gb115,0,none⟩=some (.int .i64 ((rd_T50 l0_1 x25_2).f0))∧w'.cell? ⟨gb115,1,none⟩=some (.int .i64 ((rd_T50 l0_1 x25_2).f1))∧w'.cell? ⟨gb112,0,none⟩=some (.int .i64 a0_0)∧w'.cell? ⟨gb112,1,none⟩=some (.slice (some ad114) l0_1.length c0_1)) (ds:=[]) #[F,F,F,F,F,F,F,F,F,F,F,F,F,F,F,F,F,F,F,F,F,F,F,F,F,F,F,F,F,F,F,F,F,F] (by kernel_rfl) rfl rfl ⟨(zz9 BK115.out 0).trans rfl,(zz9 BK115.out 1).trans rfl,(zz9 BK112.out 0).trans rfl,(zz9 BK112.out 1).trans rfl⟩ (fun hHeld=>?_);refine with_tabW spec_paGood.tab6 spec_paGood.bits6 (fun HT_ HW_=>?_)
          generalize w48.drew=w49 at BK112 BK115 HB hHeld ⊢
          refine pure_ (i:=0) (N:=some 30) (v:=?_) (a':=?_) #[T,F,F,F,F,F,F,F,F,F,F,F,F,F,F,F,F,F,F,F,F,F,F,F,F,F,F,F,F,F,F,F,F,F] rfl rfl (any_of HT_.out (by kernel_rfl)) (fun _ _ _ h=>h) (Or.inl ⟨by rfl,?_⟩) ?_ ?_
          rotate_left
          ·intro w'
           go_simp
           with_reducible rfl
          rotate_left
          ·simp only [Act.put,zz21,zz22,zz23,i64_w,i32_w]
           rfl
          refine pure_ (i:=2) (N:=some 32) (v:=?_) (a':=?_) #[T,F,T,F,F,F,F,F,F,F,F,F,F,F,F,F,F,F,F,F,F,F,F,F,F,F,F,F,F,F,F,F,F,F] rfl rfl (any_of HT_.out (by kernel_rfl)) (fun _ _ _ h=>h) (Or.inl ⟨by rfl,?_⟩) ?_ ?_
          rotate_left
          ·intro w'
           go_simp
           with_reducible rfl
          rotate_left
          ·simp only [Act.put,zz21,zz22,zz23,i64_w,i32_w]
           rfl
          refine take_ (i:=1) (N:=some 31) (v:=?_) (a':=?_) #[T,T,T,F,F,F,F,F,F,F,F,F,F,F,F,F,F,F,F,F,F,F,F,F,F,F,F,F,F,F,F,F,F,F] rfl rfl (take_ofW HT_.out HW_.out (by kernel_rfl)) (fun _ _ _ h=>h) (Or.inl ⟨by rfl,?_⟩) hHeld ?_ ?_
          rotate_left
          ·rintro w' ⟨s0,s1,s2,s3⟩
           go_simp
           with_reducible rfl
          rotate_left
          ·simp only [Act.put,zz21,zz22,zz23,i64_w,i32_w]
           rfl
          refine take_ (i:=3) (N:=some 33) (v:=?_) (a':=?_) #[T,T,T,T,F,F,F,F,F,F,F,F,F,F,F,F,F,F,F,F,F,F,F,F,F,F,F,F,F,F,F,F,F,F] rfl rfl (take_ofW HT_.out HW_.out (by kernel_rfl)) (fun _ _ _ h=>h) (Or.inl ⟨by rfl,?_⟩) hHeld ?_ ?_
          rotate_left
          ·rintro w' ⟨s0,s1,s2,s3⟩
           go_simp
           with_reducible rfl
          rotate_left
          ·simp only [Act.put,zz21,zz22,zz23,i64_w,i32_w]
           rfl
          refine pure_ (i:=4) (N:=some 34) (v:=?_) (a':=?_) #[T,T,T,T,T,F,F,F,F,F,F,F,F,F,F,F,F,F,F,F,F,F,F,F,F,F,F,F,F,F,F,F,F,F] rfl rfl (any_of HT_.out (by kernel_rfl)) (fun _ _ _ h=>h) (Or.inl ⟨by rfl,?_⟩) ?_ ?_
          rotate_left
          ·intro w'
           go_simp
           with_reducible rfl
          rotate_left
          ·simp only [Act.put,zz21,zz22,zz23,i64_w,i32_w]
           rfl
          refine one_ (i:=5) (N:=some 35) #[T,T,T,T,T,T,F,F,F,F,F,F,F,F,F,F,F,F,F,F,F,F,F,F,F,F,F,F,F,F,F,F,F,F] rfl rfl (one_of HT_.out (by kernel_rfl)) (by decide) (fun K hK=>?_)
          refine goes_ Tryd.func27 (by kernel_rfl) rfl #[.int .i64 ((rd_T50 l0_1 x25_2).f0),.int .i64 0,.int .i64 (wrap64 (a0_0 - 1))] (by rfl) rfl rfl (by (try simp only [zz26,zz27,zz28]);first | done | rfl | (simp only [zz24,zz25];rfl)) ?_
          with_reducible refine (spec_l1In.calls ((rd_T50 l0_1 x25_2).f0) 0 (wrap64 (a0_0 - 1)) false _ A13.out).mono ?_
          rintro e w' ⟨rfl,⟨nd,rfl⟩⟩
          refine ⟨_,rfl,?_⟩
          refine hK.out _ _ ⟨(zz9 BK115.out 0).trans rfl,(zz9 BK115.out 1).trans rfl,(zz9 BK112.out 0).trans rfl,(zz9 BK112.out 1).trans rfl⟩ (fun hHeld=>?_)
          clear hK K
          refine norm_ (a':=?_) ?_ ?_
          rotate_left
          ·show Act.put _ (some 35) _=_
           simp only [Act.put,zz21,zz22,zz23,i64_w,i32_w]
           rfl
          refine pure_ (i:=6) (N:=some 36) (v:=?_) (a':=?_) #[T,T,T,T,T,T,T,F,F,F,F,F,F,F,F,F,F,F,F,F,F,F,F,F,F,F,F,F,F,F,F,F,F,F] rfl rfl (any_of HT_.out (by kernel_rfl)) (fun _ _ _ h=>h) (Or.inl ⟨by rfl,?_⟩) ?_ ?_
          rotate_left
          ·intro w'
           go_simp
           with_reducible rfl
          rotate_left
          ·simp only [Act.put,zz21,zz22,zz23,i64_w,i32_w]
           rfl
          refine pure_ (i:=7) (N:=some 37) (v:=?_) (a':=?_) #[T,T,T,T,T,T,T,T,F,F,F,F,F,F,F,F,F,F,F,F,F,F,F,F,F,F,F,F,F,F,F,F,F,F] rfl rfl (any_of HT_.out (by kernel_rfl)) (fun _ _ _ h=>h) (Or.inl ⟨by rfl,?_⟩) ?_ ?_
          rotate_left
          ·intro w'
           go_simp
           with_reducible rfl
          rotate_left
          ·simp only [Act.put,zz21,zz22,zz23,i64_w,i32_w]
           rfl
          refine pure_ (i:=8) (N:=some 38) (v:=undef) (a':=?_) #[T,T,T,T,T,T,T,T,T,F,F,F,F,F,F,F,F,F,F,F,F,F,F,F,F,F,F,F,F,F,F,F,F,F] rfl rfl (any_of HT_.out (by kernel_rfl)) (fun _ _ _ h=>h) (Or.inr ⟨by rfl,rfl⟩) ?_ ?_
          rotate_left
          ·simp only [Act.put,zz21,zz22,zz23,i64_w,i32_w]
           rfl
          refine pure_ (i:=9) (N:=some 39) (v:=undef) (a':=?_) #[T,T,T,T,T,T,T,T,T,T,F,F,F,F,F,F,F,F,F,F,F,F,F,F,F,F,F,F,F,F,F,F,F,F] rfl rfl (any_of HT_.out (by kernel_rfl)) (fun _ _ _ h=>h) (Or.inr ⟨by rfl,rfl⟩) ?_ ?_
          rotate_left
          ·simp only [Act.put,zz21,zz22,zz23,i64_w,i32_w]
           rfl
          refine pure_ (i:=10) (N:=some 40) (v:=undef) (a':=?_) #[T,T,T,T,T,T,T,T,T,T,T,F,F,F,F,F,F,F,F,F,F,F,F,F,F,F,F,F,F,F,F,F,F,F] rfl rfl (any_of HT_.out (by kernel_rfl)) (fun _ _ _ h=>h) (Or.inr ⟨by rfl,rfl⟩) ?_ ?_
          rotate_left
          ·simp only [Act.put,zz21,zz22,zz23,i64_w,i32_w]
           rfl
          refine pure_ (i:=11) (N:=some 41) (v:=undef) (a':=?_) #[T,T,T,T,T,T,T,T,T,T,T,T,F,F,F,F,F,F,F,F,F,F,F,F,F,F,F,F,F,F,F,F,F,F] rfl rfl (any_of HT_.out (by kernel_rfl)) (fun _ _ _ h=>h) (Or.inr ⟨by rfl,rfl⟩) ?_ ?_
          rotate_left
          ·simp only [Act.put,zz21,zz22,zz23,i64_w,i32_w]
           rfl
          refine pure_ (i:=12) (N:=some 42) (v:=undef) (a':=?_) #[T,T,T,T,T,T,T,T,T,T,T,T,T,F,F,F,F,F,F,F,F,F,F,F,F,F,F,F,F,F,F,F,F,F] rfl rfl (any_of HT_.out (by kernel_rfl)) (fun _ _ _ h=>h) (Or.inr ⟨by rfl,rfl⟩) ?_ ?_
          rotate_left
          ·simp only [Act.put,zz21,zz22,zz23,i64_w,i32_w]
           rfl
          refine pure_ (i:=13) (N:=some 43) (v:=undef) (a':=?_) #[T,T,T,T,T,T,T,T,T,T,T,T,T,T,F,F,F,F,F,F,F,F,F,F,F,F,F,F,F,F,F,F,F,F] rfl rfl (any_of HT_.out (by kernel_rfl)) (fun _ _ _ h=>h) (Or.inr ⟨by rfl,rfl⟩) ?_ ?_
          rotate_left
          ·simp only [Act.put,zz21,zz22,zz23,i64_w,i32_w]
           rfl
          refine pure_ (i:=14) (N:=some 44) (v:=undef) (a':=?_) #[T,T,T,T,T,T,T,T,T,T,T,T,T,T,T,F,F,F,F,F,F,F,F,F,F,F,F,F,F,F,F,F,F,F] rfl rfl (any_of HT_.out (by kernel_rfl)) (fun _ _ _ h=>h) (Or.inr ⟨by rfl,rfl⟩) ?_ ?_
          rotate_left
          ·simp only [Act.put,zz21,zz22,zz23,i64_w,i32_w]
           rfl
          refine pure_ (i:=15) (N:=some 45) (v:=undef) (a':=?_) #[T,T,T,T,T,T,T,T,T,T,T,T,T,T,T,T,F,F,F,F,F,F,F,F,F,F,F,F,F,F,F,F,F,F] rfl rfl (any_of HT_.out (by kernel_rfl)) (fun _ _ _ h=>h) (Or.inr ⟨by rfl,rfl⟩) ?_ ?_
          rotate_left
          ·simp only [Act.put,zz21,zz22,zz23,i64_w,i32_w]
           rfl
          refine pure_ (i:=16) (N:=some 46) (v:=undef) (a':=?_) #[T,T,T,T,T,T,T,T,T,T,T,T,T,T,T,T,T,F,F,F,F,F,F,F,F,F,F,F,F,F,F,F,F,F] rfl rfl (any_of HT_.out (by kernel_rfl)) (fun _ _ _ h=>h) (Or.inr ⟨by rfl,rfl⟩) ?_ ?_
          rotate_left
          ·simp only [Act.put,zz21,zz22,zz23,i64_w,i32_w]
           rfl
          refine pure_ (i:=17) (N:=some 47) (v:=undef) (a':=?_) #[T,T,T,T,T,T,T,T,T,T,T,T,T,T,T,T,T,T,F,F,F,F,F,F,F,F,F,F,F,F,F,F,F,F] rfl rfl (any_of HT_.out (by kernel_rfl)) (fun _ _ _ h=>h) (Or.inr ⟨by rfl,rfl⟩) ?_ ?_
          rotate_left
          ·simp only [Act.put,zz21,zz22,zz23,i64_w,i32_w]
           rfl
          refine pure_ (i:=18) (N:=some 48) (v:=?_) (a':=?_) #[T,T,T,T,T,T,T,T,T,T,T,T,T,T,T,T,T,T,T,F,F,F,F,F,F,F,F,F,F,F,F,F,F,F] rfl rfl (any_of HT_.out (by kernel_rfl)) (fun _ _ _ h=>h) (Or.inl ⟨by rfl,?_⟩) ?_ ?_
          rotate_left
          ·intro w'
           go_simp
           with_reducible rfl
          rotate_left
          ·simp only [Act.put,zz21,zz22,zz23,i64_w,i32_w]
           rfl
          refine pure_ (i:=19) (N:=some 49) (v:=?_) (a':=?_) #[T,T,T,T,T,T,T,T,T,T,T,T,T,T,T,T,T,T,T,T,F,F,F,F,F,F,F,F,F,F,F,F,F,F] rfl rfl (any_of HT_.out (by kernel_rfl)) (fun _ _ _ h=>h) (Or.inl ⟨by rfl,?_⟩) ?_ ?_
          rotate_left
          ·intro w'
           go_simp
           with_reducible rfl
          rotate_left
          ·simp only [Act.put,zz21,zz22,zz23,i64_w,i32_w]
           rfl
          refine pure_ (i:=20) (N:=some 50) (v:=undef) (a':=?_) #[T,T,T,T,T,T,T,T,T,T,T,T,T,T,T,T,T,T,T,T,T,F,F,F,F,F,F,F,F,F,F,F,F,F] rfl rfl (any_of HT_.out (by kernel_rfl)) (fun _ _ _ h=>h) (Or.inr ⟨by rfl,rfl⟩) ?_ ?_
          rotate_left
          ·simp only [Act.put,zz21,zz22,zz23,i64_w,i32_w]
           rfl
          refine pure_ (i:=21) (N:=some 51) (v:=undef) (a':=?_) #[T,T,T,T,T,T,T,T,T,T,T,T,T,T,T,T,T,T,T,T,T,T,F,F,F,F,F,F,F,F,F,F,F,F] rfl rfl (any_of HT_.out (by kernel_rfl)) (fun _ _ _ h=>h) (Or.inr ⟨by rfl,rfl⟩) ?_ ?_
          rotate_left
          ·simp only [Act.put,zz21,zz22,zz23,i64_w,i32_w]
           rfl
          refine pure_ (i:=22) (N:=some 52) (v:=undef) (a':=?_) #[T,T,T,T,T,T,T,T,T,T,T,T,T,T,T,T,T,T,T,T,T,T,T,F,F,F,F,F,F,F,F,F,F,F] rfl rfl (any_of HT_.out (by kernel_rfl)) (fun _ _ _ h=>h) (Or.inr ⟨by rfl,rfl⟩) ?_ ?_
          rotate_left
          ·simp only [Act.put,zz21,zz22,zz23,i64_w,i32_w]
           rfl
          refine pure_ (i:=23) (N:=some 53) (v:=undef) (a':=?_) #[T,T,T,T,T,T,T,T,T,T,T,T,T,T,T,T,T,T,T,T,T,T,T,T,F,F,F,F,F,F,F,F,F,F] rfl rfl (any_of HT_.out (by kernel_rfl)) (fun _ _ _ h=>h) (Or.inr ⟨by rfl,rfl⟩) ?_ ?_
          rotate_left
          ·simp only [Act.put,zz21,zz22,zz23,i64_w,i32_w]
           rfl
          refine pure_ (i:=24) (N:=some 54) (v:=undef) (a':=?_) #[T,T,T,T,T,T,T,T,T,T,T,T,T,T,T,T,T,T,T,T,T,T,T,T,T,F,F,F,F,F,F,F,F,F] rfl rfl (any_of HT_.out (by kernel_rfl)) (fun _ _ _ h=>h) (Or.inr ⟨by rfl,rfl⟩) ?_ ?_
          rotate_left
          ·simp only [Act.put,zz21,zz22,zz23,i64_w,i32_w]
           rfl
          refine pure_ (i:=25) (N:=some 55) (v:=undef) (a':=?_) #[T,T,T,T,T,T,T,T,T,T,T,T,T,T,T,T,T,T,T,T,T,T,T,T,T,T,F,F,F,F,F,F,F,F] rfl rfl (any_of HT_.out (by kernel_rfl)) (fun _ _ _ h=>h) (Or.inr ⟨by rfl,rfl⟩) ?_ ?_
          rotate_left
          ·simp only [Act.put,zz21,zz22,zz23,i64_w,i32_w]
           rfl
          refine pure_ (i:=26) (N:=some 56) (v:=undef) (a':=?_) #[T,T,T,T,T,T,T,T,T,T,T,T,T,T,T,T,T,T,T,T,T,T,T,T,T,T,T,F,F,F,F,F,F,F] rfl rfl (any_of HT_.out (by kernel_rfl)) (fun _ _ _ h=>h) (Or.inr ⟨by rfl,rfl⟩) ?_ ?_
          rotate_left
          ·simp only [Act.put,zz21,zz22,zz23,i64_w,i32_w]
           rfl
          refine pure_ (i:=27) (N:=some 57) (v:=undef) (a':=?_) #[T,T,T,T,T,T,T,T,T,T,T,T,T,T,T,T,T,T,T,T,T,T,T,T,T,T,T,T,F,F,F,F,F,F] rfl rfl (any_of HT_.out (by kernel_rfl)) (fun _ _ _ h=>h) (Or.inr ⟨by rfl,rfl⟩) ?_ ?_
          rotate_left
          ·simp only [Act.put,zz21,zz22,zz23,i64_w,i32_w]
           rfl
          refine pure_ (i:=28) (N:=some 58) (v:=undef) (a':=?_) #[T,T,T,T,T,T,T,T,T,T,T,T,T,T,T,T,T,T,T,T,T,T,T,T,T,T,T,T,T,F,F,F,F,F] rfl rfl (any_of HT_.out (by kernel_rfl)) (fun _ _ _ h=>h) (Or.inr ⟨by rfl,rfl⟩) ?_ ?_
          rotate_left
          ·simp only [Act.put,zz21,zz22,zz23,i64_w,i32_w]
           rfl
          refine pure_ (i:=29) (N:=some 59) (v:=undef) (a':=?_) #[T,T,T,T,T,T,T,T,T,T,T,T,T,T,T,T,T,T,T,T,T,T,T,T,T,T,T,T,T,T,F,F,F,F] rfl rfl (any_of HT_.out (by kernel_rfl)) (fun _ _ _ h=>h) (Or.inr ⟨by rfl,rfl⟩) ?_ ?_
          rotate_left
          ·simp only [Act.put,zz21,zz22,zz23,i64_w,i32_w]
           rfl
          refine pure_ (i:=30) (N:=some 60) (v:=undef) (a':=?_) #[T,T,T,T,T,T,T,T,T,T,T,T,T,T,T,T,T,T,T,T,T,T,T,T,T,T,T,T,T,T,T,F,F,F] rfl rfl (any_of HT_.out (by kernel_rfl)) (fun _ _ _ h=>h) (Or.inr ⟨by rfl,rfl⟩) ?_ ?_
          rotate_left
          ·simp only [Act.put,zz21,zz22,zz23,i64_w,i32_w]
           rfl
          refine pure_ (i:=31) (N:=some 61) (v:=undef) (a':=?_) #[T,T,T,T,T,T,T,T,T,T,T,T,T,T,T,T,T,T,T,T,T,T,T,T,T,T,T,T,T,T,T,T,F,F] rfl rfl (any_of HT_.out (by kernel_rfl)) (fun _ _ _ h=>h) (Or.inr ⟨by rfl,rfl⟩) ?_ ?_
          rotate_left
          ·simp only [Act.put,zz21,zz22,zz23,i64_w,i32_w]
           rfl
          refine pure_ (i:=32) (N:=some 62) (v:=undef) (a':=?_) #[T,T,T,T,T,T,T,T,T,T,T,T,T,T,T,T,T,T,T,T,T,T,T,T,T,T,T,T,T,T,T,T,T,F] rfl rfl (any_of HT_.out (by kernel_rfl)) (fun _ _ _ h=>h) (Or.inr ⟨by rfl,rfl⟩) ?_ ?_
          rotate_left
          ·simp only [Act.put,zz21,zz22,zz23,i64_w,i32_w]
           rfl
          refine pure_ (i:=33) (N:=some 63) (v:=?_) (a':=?_) #[T,T,T,T,T,T,T,T,T,T,T,T,T,T,T,T,T,T,T,T,T,T,T,T,T,T,T,T,T,T,T,T,T,T] rfl rfl (any_of HT_.out (by kernel_rfl)) (fun _ _ _ h=>h) (Or.inl ⟨by rfl,?_⟩) ?_ ?_
          rotate_left
          ·intro w'
           go_simp
           with_reducible rfl
          rotate_left
          ·simp only [Act.put,zz21,zz22,zz23,i64_w,i32_w]
           rfl
          refine done_ (done_of HT_.out (by kernel_rfl)) ?_
          try go_wp2
          go_ret
          exact ⟨by first | rfl | (simp [errW_none,errW_some] <;> rfl) | (simp [*,errW_none,errW_some] <;> rfl),by repeat first | exact HB.out | apply zz2 | apply zz0 | apply zz1 | refine zz3 ?_ GE112.out | refine zz3 ?_ GE115.out⟩
        ·rw [if_neg c12] at H
         exact absurd H (by simp)
       ·rw [if_neg c11] at H
        exact absurd H (by simp)
      ·rw [if_neg c10] at H
       have c10b0:decide (x25_2 < (l0_1.length:Int))=false:=decide_eq_false c10
       clear c10
       obtain rfl:=Option.some.inj H
       go_wp2
       go_ret
       exact ⟨by first | rfl | (simp [errW_none,errW_some] <;> rfl) | (simp [*,errW_none,errW_some] <;> rfl),by repeat first | exact HB.out | apply zz2 | apply zz0 | apply zz1 | refine zz3 ?_ GE112.out⟩

/-! ### spec_l1Split: function 36 -/
def spec_l1Split.l0:Nat→ByteArray→Int→List ByteArray→Int→Int→Option (List ByteArray)
 | 0,_,_,_,_,_=>none
 | k+1,x0,x1,x5,x6,x7=>if x7 < (x0.size:Int) then (if 0≤x7 then (if (bt x0 x7)=x1 then (if 0≤x6 then (if x6≤x7 then (if x7≤(x0.size:Int) then (if x5.length < 8796093022208 then (spec_l1Split.l0 k x0 x1 (x5 ++ [x0.extract (x6:Int).toNat (x7:Int).toNat]) (wrap64 (x7+1)) (wrap64 (x7+1))) else (none)) else (none)) else (none)) else (none)) else (spec_l1Split.l0 k x0 x1 x5 x6 (wrap64 (x7+1)))) else (none)) else (if 0≤x6 then (if x6≤(x0.size:Int) then (if x5.length < 8796093022208 then (some (x5 ++ [x0.extract (x6:Int).toNat x0.size])) else (none)) else (none)) else (none))
def spec_l1Split.f (k:Nat) (a0:ByteArray) (a1:Int):Option (List ByteArray):=spec_l1Split.l0 k a0 a1 ([]:List ByteArray) 0 0
theorem spec_l1Split.mono_l:∀ k,(∀ y0 y1 y2 y3 y4,LeO (spec_l1Split.l0 k y0 y1 y2 y3 y4) (spec_l1Split.l0 (k+1) y0 y1 y2 y3 y4))
 | 0=>fun _ _ _ _ _ r h=>by simp [spec_l1Split.l0] at h
 | k+1=>by
  have ih0:=spec_l1Split.mono_l k
  ·intro y0 y1 y2 y3 y4
   unfold spec_l1Split.l0
   repeat' first
   | (with_reducible exact ih0 _ _ _ _ _)
   | (with_reducible exact LeO.refl _)
   | (with_reducible exact LeO.none _)
   | (with_reducible refine LeO.ite ?_ ?_)
   | (with_reducible refine LeO.bind ?_ (fun _=>?_))
   | exact ih0 _ _ _ _ _
   | exact LeO.none _
   | refine LeO.ite ?_ ?_
   | refine LeO.bind ?_ (fun _=>?_)
theorem spec_l1Split.mono:∀ a0 a1 k,LeO (spec_l1Split.f k a0 a1) (spec_l1Split.f (k+1) a0 a1):=by
 intro a0 a1 k
 have ih0:=spec_l1Split.mono_l k
 unfold spec_l1Split.f
 repeat' first
   | (with_reducible exact ih0 _ _ _ _ _)
   | (with_reducible exact LeO.refl _)
   | (with_reducible exact LeO.none _)
   | (with_reducible refine LeO.ite ?_ ?_)
   | (with_reducible refine LeO.bind ?_ (fun _=>?_))
   | exact ih0 _ _ _ _ _
   | exact LeO.none _
   | refine LeO.ite ?_ ?_
   | refine LeO.bind ?_ (fun _=>?_)
set_option maxHeartbeats 8000000 in
set_option maxRecDepth 100000 in
theorem spec_l1Split.calls (k:Nat) (a0:ByteArray) (a1:Int) (r:List ByteArray) (w:World) (h:spec_l1Split.f k a0 a1=some r) :
  Calls Tryd.prog 36 #[.string a0,.int .u8 a1] w fun e w'=>∃ v0_:Value,e=.returned (v0_)∧Kd.R Kd.string 9 w' w.heap.size (fun _=>True) v0_ r∧Below w.heap.size w w':=by
 have HB:=zz31 (Below.refl w.heap.size w)
 have H:(spec_l1Split.l0 k a0 a1 ([]:List ByteArray) 0 0)=some r:=h
 clear h
 have H':=zz31 H
 clear H
 go_enter Tryd.func36,Tryd.ntmps36
 go_wp2
 go_loopg [5,6,7] k (fun kq v5 v6 v7 w'=>∃ (x5_1:List ByteArray) (x6_1:Int) (x7_1:Int),v6=.int .i64 x6_1∧v7=.int .i64 x7_1∧Aside0 (spec_l1Split.l0 kq a0 a1 x5_1 x6_1 x7_1=some r)∧Aside0 (kq≤k)∧Aside0 (Kd.R Kd.string 9 w' w.heap.size (fun _=>True) v5 x5_1)∧Aside0 (Below w.heap.size w w'))
 case atStart=>exact ⟨(([]:List ByteArray)),(0),(0),(by first | rfl | (simp;done) | (simp [*];done)),(by first | rfl | (simp;done) | (simp [*];done)),H',⟨Nat.le_refl _⟩,⟨by first | exact Kd.R_nil _ _ _ _ _ | exact Kd.N_nil _ _ _ _ _ | exact Kd.V_nil _ _ _ _ _ | exact Kd.Q_nil _ _ _ _ _ | exact Kd.S_nil _ _ _ _ _⟩,⟨by repeat first | exact HB.out | apply zz2 | apply zz0 | apply zz1⟩⟩
 case round =>
  clear H'
  try clear p2
  obtain ⟨x5_1,x6_1,x7_1,rfl,rfl,HA,HK1,HO_5,HB⟩:=hrel
  cases gk with
  | zero=>exact absurd HA.out (by simp [spec_l1Split.l0])
  | succ k1 =>
   have H:=HA.out
   clear HA
   simp only [spec_l1Split.l0] at H
   by_cases c3:x7_1 < (a0.size:Int)
   ·rw [if_pos c3] at H
    have c3b0:decide (x7_1 < (a0.size:Int))=true:=decide_eq_true c3
    clear c3
    by_cases c4:0≤x7_1
    ·rw [if_pos c4] at H
     have c4b0:decide (0≤x7_1)=true:=decide_eq_true c4
     clear c4
     by_cases c6:(bt a0 x7_1)=a1
     ·rw [if_pos c6] at H
      have c6b0:((bt a0 x7_1) == a1)=true:=beq_iff_eq.mpr c6
      have c6b1:((bt a0 x7_1) != a1)=false:=bne_eq_false_iff_eq.mpr c6
      clear c6
      by_cases c7:0≤x6_1
      ·rw [if_pos c7] at H
       have c7b0:=eq_true c7
       have c7b1:decide (0≤x6_1)=true:=decide_eq_true c7
       clear c7
       by_cases c8:x6_1≤x7_1
       ·rw [if_pos c8] at H
        have c8b0:=eq_true c8
        have c8b1:decide (x6_1≤x7_1)=true:=decide_eq_true c8
        clear c8
        by_cases c9:x7_1≤(a0.size:Int)
        ·rw [if_pos c9] at H
         have c9b0:=eq_true c9
         have c9b1:decide (x7_1≤(a0.size:Int))=true:=decide_eq_true c9
         clear c9
         by_cases c10:x5_1.length < 8796093022208
         ·rw [if_pos c10] at H
          have LMc10:=zz31 c10
          clear c10
          obtain ⟨y120,hy120⟩:∃ y_:List ByteArray,y_=(x5_1 ++ [a0.extract (x6_1:Int).toNat (x7_1:Int).toNat]):=⟨_,rfl⟩
          replace H:(spec_l1Split.l0 k1 a0 a1 y120 (wrap64 (x7_1+1)) (wrap64 (x7_1+1)))=some r:=by first | (rw [hy120];with_reducible exact H) | (have H2_:=(Option.bind_some _ _).symm.trans H;rw [hy120];with_reducible exact H2_) | (have H2_:=(Option.bind_some _ _).symm.trans H;with_reducible exact H2_) | with_reducible exact H | (rw [hy120];exact H) | exact H
          have Ny120:=zz31 hy120
          clear hy120
          have H':=zz31 H
          clear H
          have p5:0≤(x7_1:Int):=zz29 (by first | (with_reducible assumption) | assumption)
          have q5:x7_1 < (a0.size:Int):=zz29 (by first | (with_reducible assumption) | assumption)
          have hx5:=bt_at a0 x7_1
          replace p5:=eq_true p5
          replace q5:=eq_true q5
          go_wp2_with (first | ((with_reducible refine gate_builtin (b:=.append) (xs:=#[.tmp 19,.tmp 24]) rfl ?_);at_builtin;refine Kd.R_append Kd.string (w0:=w) w.heap.size rfl (.tmp 19) (.tmp 24) 59 9 (.string ⟨#[]⟩) 16 rfl Tryd.underlying59 info9 rfl (by decide) (by omega) u5 x5_1 (a0.extract (x6_1:Int).toNat (x7_1:Int).toNat) [.string (a0.extract (x6_1:Int).toNat (x7_1:Int).toNat)] (fun _=>True) (fun _=>False) rfl rfl ?aP (fun _ hk=>hk.elim) ?aF ?aO ?aB ?aS ?aL ?_;(case aP=>exact rfl);(case aB=>exact (by repeat first | exact HB.out | apply zz2 | apply zz0 | apply zz1));(case aF=>exact (fun _ _=>trivial));(case aO=>exact (by (with_reducible repeat (first | apply zz12 | apply zz13 | apply zz14));exact HO_5.out));(case aS=>exact (zz5 (by repeat first | exact HB.out | apply zz2 | apply zz0 | apply zz1)));(case aL=>have:=LMc10.out;omega);intro v121 w11 ho hb hg hat;rw [← Ny120.out] at ho;have n0_:=zz31 (hb);have n1_:=zz31 (ho);clear HB;clear HO_5;have HB:=n0_;have HO122:=n1_;clear n0_ n1_;clear ho hb hg hat))
          go_roundg k1
          case measure=>have:=HK1.out;omega
          case rel=>exact ⟨(y120),(wrap64 (x7_1+1)),(wrap64 (x7_1+1)),(by first | rfl | (simp;done) | (simp [*];done)),(by first | rfl | (simp;done) | (simp [*];done)),H',⟨by have:=HK1.out;omega⟩,⟨by (with_reducible repeat (first | apply zz12 | apply zz13 | apply zz14));exact HO122.out⟩,⟨by repeat first | exact HB.out | apply zz2 | apply zz0 | apply zz1⟩⟩
         ·rw [if_neg c10] at H
          exact absurd H (by simp)
        ·rw [if_neg c9] at H
         exact absurd H (by simp)
       ·rw [if_neg c8] at H
        exact absurd H (by simp)
      ·rw [if_neg c7] at H
       exact absurd H (by simp)
     ·rw [if_neg c6] at H
      have c6b0:((bt a0 x7_1) == a1)=false:=beq_eq_false_iff_ne.mpr c6
      have c6b1:((bt a0 x7_1) != a1)=true:=bne_iff_ne.mpr c6
      have H':=zz31 H
      clear H
      have p5:0≤(x7_1:Int):=zz29 (by first | (with_reducible assumption) | assumption)
      have q5:x7_1 < (a0.size:Int):=zz29 (by first | (with_reducible assumption) | assumption)
      have hx5:=bt_at a0 x7_1
      replace p5:=eq_true p5
      replace q5:=eq_true q5
      go_wp2
      go_roundg k1
      case measure=>have:=HK1.out;omega
      case rel=>exact ⟨(x5_1),(x6_1),(wrap64 (x7_1+1)),(by first | rfl | (simp;done) | (simp [*];done)),(by first | rfl | (simp;done) | (simp [*];done)),H',⟨by have:=HK1.out;omega⟩,⟨by (with_reducible repeat (first | apply zz12 | apply zz13 | apply zz14));exact HO_5.out⟩,⟨by repeat first | exact HB.out | apply zz2 | apply zz0 | apply zz1⟩⟩
    ·rw [if_neg c4] at H
     exact absurd H (by simp)
   ·rw [if_neg c3] at H
    have c3b0:decide (x7_1 < (a0.size:Int))=false:=decide_eq_false c3
    clear c3
    by_cases c12:0≤x6_1
    ·rw [if_pos c12] at H
     have c12b0:=eq_true c12
     have c12b1:decide (0≤x6_1)=true:=decide_eq_true c12
     clear c12
     by_cases c13:x6_1≤(a0.size:Int)
     ·rw [if_pos c13] at H
      have c13b0:=eq_true c13
      have c13b1:decide (x6_1≤(a0.size:Int))=true:=decide_eq_true c13
      clear c13
      by_cases c14:x5_1.length < 8796093022208
      ·rw [if_pos c14] at H
       have LMc14:=zz31 c14
       clear c14
       obtain ⟨y123,hy123⟩:∃ y_:List ByteArray,y_=(x5_1 ++ [a0.extract (x6_1:Int).toNat a0.size]):=⟨_,rfl⟩
       replace H:(some y123)=some r:=by first | (rw [hy123];with_reducible exact H) | (have H2_:=(Option.bind_some _ _).symm.trans H;rw [hy123];with_reducible exact H2_) | (have H2_:=(Option.bind_some _ _).symm.trans H;with_reducible exact H2_) | with_reducible exact H | (rw [hy123];exact H) | exact H
       have Ny123:=zz31 hy123
       clear hy123
       obtain rfl:=Option.some.inj H
       go_wp2_with (first | ((with_reducible refine gate_builtin (b:=.append) (xs:=#[.tmp 28,.tmp 32]) rfl ?_);at_builtin;refine Kd.R_append Kd.string (w0:=w) w.heap.size rfl (.tmp 28) (.tmp 32) 59 9 (.string ⟨#[]⟩) 16 rfl Tryd.underlying59 info9 rfl (by decide) (by omega) u5 x5_1 (a0.extract (x6_1:Int).toNat a0.size) [.string (a0.extract (x6_1:Int).toNat a0.size)] (fun _=>True) (fun _=>False) rfl rfl ?aP (fun _ hk=>hk.elim) ?aF ?aO ?aB ?aS ?aL ?_;(case aP=>exact rfl);(case aB=>exact (by repeat first | exact HB.out | apply zz2 | apply zz0 | apply zz1));(case aF=>exact (fun _ _=>trivial));(case aO=>exact (by (with_reducible repeat (first | apply zz12 | apply zz13 | apply zz14));exact HO_5.out));(case aS=>exact (zz5 (by repeat first | exact HB.out | apply zz2 | apply zz0 | apply zz1)));(case aL=>have:=LMc14.out;omega);intro v124 w15 ho hb hg hat;rw [← Ny123.out] at ho;have n0_:=zz31 (hb);have n1_:=zz31 (ho);clear HB;clear HO_5;have HB:=n0_;have HO125:=n1_;clear n0_ n1_;clear ho hb hg hat))
       go_ret
       exact ⟨_,by first | rfl | (simp [errW_none,errW_some] <;> rfl) | (simp [*,errW_none,errW_some] <;> rfl),by (with_reducible repeat (first | apply zz12 | apply zz13 | apply zz14));exact HO125.out,by repeat first | exact HB.out | apply zz2 | apply zz0 | apply zz1⟩
      ·rw [if_neg c14] at H
       exact absurd H (by simp)
     ·rw [if_neg c13] at H
      exact absurd H (by simp)
    ·rw [if_neg c12] at H
     exact absurd H (by simp)

/-! ### spec_l1Read: function 37 -/
mutual
def spec_l1Read.j0:Nat→ByteArray→Bool→Option (Int)
 | 0,_,_=>none
 | k+1,x0,x18=>if x18=true then (some (-1)) else (spec_l1Read.l0 k x0 0 0)
def spec_l1Read.l0:Nat→ByteArray→Int→Int→Option (Int)
 | 0,_,_,_=>none
 | k+1,x0,x3,x4=>if x4 < (x0.size:Int) then (if 0≤x4 then (if (bt x0 x4) < 48 then (some (-1)) else (if (bt x0 x4) > 57 then (some (-1)) else (spec_l1Read.l0 k x0 (wrap64 ((wrap64 (10 * x3))+(((bt x0 x4) - 48) % 256))) (wrap64 (x4+1))))) else (none)) else (some x3)
end
def spec_l1Read.f (k:Nat) (a0:ByteArray):Option (Int):=(spec_l1In.f (a0.size:Int) 1 6).bind fun t126=>(if t126=true then (if 0 < (a0.size:Int) then (if (bt a0 0)=48 then (spec_l1Read.j0 k a0 (decide ((a0.size:Int) > 1))) else (spec_l1Read.j0 k a0 false)) else (none)) else (spec_l1Read.j0 k a0 true))
theorem spec_l1Read.mono_l:∀ k,(∀ y0 y1,LeO (spec_l1Read.j0 k y0 y1) (spec_l1Read.j0 (k+1) y0 y1))∧(∀ y0 y1 y2,LeO (spec_l1Read.l0 k y0 y1 y2) (spec_l1Read.l0 (k+1) y0 y1 y2))
 | 0=>⟨fun _ _ r h=>by simp [spec_l1Read.j0] at h,fun _ _ _ r h=>by simp [spec_l1Read.l0] at h⟩
 | k+1=>by
  obtain ⟨ih0,ih1⟩:=spec_l1Read.mono_l k
  refine ⟨?_,?_⟩
  ·intro y0 y1
   unfold spec_l1Read.j0
   repeat' first
   | (with_reducible exact ih0 _ _)
   | (with_reducible exact ih1 _ _ _)
   | (with_reducible exact LeO.refl _)
   | (with_reducible exact LeO.none _)
   | (with_reducible refine LeO.ite ?_ ?_)
   | (with_reducible refine LeO.bind ?_ (fun _=>?_))
   | exact ih0 _ _
   | exact ih1 _ _ _
   | exact LeO.none _
   | refine LeO.ite ?_ ?_
   | refine LeO.bind ?_ (fun _=>?_)
  ·intro y0 y1 y2
   unfold spec_l1Read.l0
   repeat' first
   | (with_reducible exact ih0 _ _)
   | (with_reducible exact ih1 _ _ _)
   | (with_reducible exact LeO.refl _)
   | (with_reducible exact LeO.none _)
   | (with_reducible refine LeO.ite ?_ ?_)
   | (with_reducible refine LeO.bind ?_ (fun _=>?_))
   | exact ih0 _ _
   | exact ih1 _ _ _
   | exact LeO.none _
   | refine LeO.ite ?_ ?_
   | refine LeO.bind ?_ (fun _=>?_)
theorem spec_l1Read.mono:∀ a0 k,LeO (spec_l1Read.f k a0) (spec_l1Read.f (k+1) a0):=by
 intro a0 k
 obtain ⟨ih0,ih1⟩:=spec_l1Read.mono_l k
 unfold spec_l1Read.f
 repeat' first
   | (with_reducible exact ih0 _ _)
   | (with_reducible exact ih1 _ _ _)
   | (with_reducible exact LeO.refl _)
   | (with_reducible exact LeO.none _)
   | (with_reducible refine LeO.ite ?_ ?_)
   | (with_reducible refine LeO.bind ?_ (fun _=>?_))
   | exact ih0 _ _
   | exact ih1 _ _ _
   | exact LeO.none _
   | refine LeO.ite ?_ ?_
   | refine LeO.bind ?_ (fun _=>?_)
set_option maxHeartbeats 8000000 in
set_option maxRecDepth 100000 in
theorem spec_l1Read.calls (k:Nat) (a0:ByteArray) (r:Int) (w:World) (h:spec_l1Read.f k a0=some r) :
  Calls Tryd.prog 37 #[.string a0] w fun e w'=>e=.returned (.int .i64 r)∧Drawn0 w w':=by
 have H:((spec_l1In.f (a0.size:Int) 1 6).bind fun t126=>(if t126=true then (if 0 < (a0.size:Int) then (if (bt a0 0)=48 then (spec_l1Read.j0 k a0 (decide ((a0.size:Int) > 1))) else (spec_l1Read.j0 k a0 false)) else (none)) else (spec_l1Read.j0 k a0 true)))=some r:=h
 clear h
 have HC2:=zz31 H
 clear H
 go_enter Tryd.func37,Tryd.ntmps37
 go_upto_region 1 with (fail)
 go_cut [18] (fun v18 wc=>∃ (kq:Nat) (x18_1:Bool),v18=.bool x18_1∧Aside0 (spec_l1Read.j0 kq a0 x18_1=some r)∧Aside0 (kq≤k)∧Drawn0 w wc)
 case first =>
  have H:=HC2.out
  clear HC2
  replace H:=zz30.mp H
  obtain ⟨t126,A30,H⟩:=H
  replace H:(if t126=true then (if 0 < (a0.size:Int) then (if (bt a0 0)=48 then (spec_l1Read.j0 k a0 (decide ((a0.size:Int) > 1))) else (spec_l1Read.j0 k a0 false)) else (none)) else (spec_l1Read.j0 k a0 true))=some r:=H
  have A3:=zz31 A30
  clear A30
  by_cases c4:t126=true
  ·subst c4
   have H1:(if 0 < (a0.size:Int) then (if (bt a0 0)=48 then (spec_l1Read.j0 k a0 (decide ((a0.size:Int) > 1))) else (spec_l1Read.j0 k a0 false)) else (none))=some r:=by rw [if_pos rfl] at H;exact H
   clear H
   have H:=H1
   clear H1
   by_cases c5:0 < (a0.size:Int)
   ·rw [if_pos c5] at H
    have c5b0:decide (0 < (a0.size:Int))=true:=decide_eq_true c5
    have c5b1:decide (0 < a0.size)=true:=decide_eq_true (by omega)
    clear c5
    (first | rw [c5b0] | (simp only [i64_w,i32_w];rw [c5b0]) | skip)
    by_cases c7:(bt a0 0)=48
    ·rw [if_pos c7] at H
     have c7b0:((bt a0 0) == 48)=true:=beq_iff_eq.mpr c7
     have c7b1:((bt a0 0) != 48)=false:=bne_eq_false_iff_eq.mpr c7
     clear c7
     have H':=zz31 H
     clear H
     go_wp2_with (first | ((with_reducible refine gate_callee (f:=27) rfl ?_);refine goesL_ (some 7) rfl rfl Tryd.func27 (by kernel_rfl) rfl #[.int .i64 (a0.size:Int),.int .i64 1,.int .i64 6] rfl (by (try simp only [zz26,zz27,zz28]);first | done | rfl | (simp only [zz24,zz25];rfl)) ?_;(with_reducible refine (spec_l1In.calls (a0.size:Int) 1 6 true _ A3.out).mono ?_);rintro e w' ⟨rfl,⟨nd,rfl⟩⟩;refine ⟨_,rfl,?_⟩;have p6:0≤(0:Int):=(by omega);have q6:0 < a0.size:=(by have:(0:Int) < (a0.size:Int):=zz29 (by first | (with_reducible assumption) | assumption);omega);have hx6:∀ h:0 < a0.size,((a0[0]'h).toNat:Int)=bt a0 0:=bt_at a0 0;clear p6;have qi6:(0 < (a0.size:Int))=True:=eq_true (zz29 (by first | (with_reducible assumption) | assumption));replace q6:=eq_true q6))
     go_meet
     case rel=>exact ⟨_,(decide ((a0.size:Int) > 1)),(by first | rfl | (simp;done) | (simp [*];done)),H',⟨by first | omega | exact Nat.le_refl _⟩,by repeat (first | exact Drawn0.refl _ | apply Drawn0.step)⟩
    ·rw [if_neg c7] at H
     have c7b0:((bt a0 0) == 48)=false:=beq_eq_false_iff_ne.mpr c7
     have c7b1:((bt a0 0) != 48)=true:=bne_iff_ne.mpr c7
     have H':=zz31 H
     clear H
     go_wp2_with (first | ((with_reducible refine gate_callee (f:=27) rfl ?_);refine goesL_ (some 7) rfl rfl Tryd.func27 (by kernel_rfl) rfl #[.int .i64 (a0.size:Int),.int .i64 1,.int .i64 6] rfl (by (try simp only [zz26,zz27,zz28]);first | done | rfl | (simp only [zz24,zz25];rfl)) ?_;(with_reducible refine (spec_l1In.calls (a0.size:Int) 1 6 true _ A3.out).mono ?_);rintro e w' ⟨rfl,⟨nd,rfl⟩⟩;refine ⟨_,rfl,?_⟩;have p6:0≤(0:Int):=(by omega);have q6:0 < a0.size:=(by have:(0:Int) < (a0.size:Int):=zz29 (by first | (with_reducible assumption) | assumption);omega);have hx6:∀ h:0 < a0.size,((a0[0]'h).toNat:Int)=bt a0 0:=bt_at a0 0;clear p6;have qi6:(0 < (a0.size:Int))=True:=eq_true (zz29 (by first | (with_reducible assumption) | assumption));replace q6:=eq_true q6))
     go_meet
     case rel=>exact ⟨_,(false),(by first | rfl | (simp;done) | (simp [*];done)),H',⟨by first | omega | exact Nat.le_refl _⟩,by repeat (first | exact Drawn0.refl _ | apply Drawn0.step)⟩
   ·rw [if_neg c5] at H
    exact absurd H (by simp)
  ·replace c4:=Bool.eq_false_iff.mpr c4
   subst c4
   have H1:(spec_l1Read.j0 k a0 true)=some r:=by rw [if_neg (show ¬ (false=true) by decide)] at H;exact H
   clear H
   have H:=H1
   clear H1
   have H':=zz31 H
   clear H
   go_wp2_with (first | ((with_reducible refine gate_callee (f:=27) rfl ?_);refine goesL_ (some 7) rfl rfl Tryd.func27 (by kernel_rfl) rfl #[.int .i64 (a0.size:Int),.int .i64 1,.int .i64 6] rfl (by (try simp only [zz26,zz27,zz28]);first | done | rfl | (simp only [zz24,zz25];rfl)) ?_;(with_reducible refine (spec_l1In.calls (a0.size:Int) 1 6 false _ A3.out).mono ?_);rintro e w' ⟨rfl,⟨nd,rfl⟩⟩;refine ⟨_,rfl,?_⟩))
   go_meet
   case rel=>exact ⟨_,(true),(by first | rfl | (simp;done) | (simp [*];done)),H',⟨by first | omega | exact Nat.le_refl _⟩,by repeat (first | exact Drawn0.refl _ | apply Drawn0.step)⟩
 case rest =>
  clear HC2
  try clear c2
  try clear p2
  try clear c3
  try clear c4
  try clear c5
  try clear c5b0
  try clear c5b1
  try clear p6
  try clear q6
  try clear hx6
  try clear qi6
  try clear c7
  try clear c7b0
  try clear c7b1
  try clear p6
  try clear q6
  obtain ⟨kq,x18_1,rfl,HA,HJ1,⟨mc1,rfl⟩⟩:=hcut
  cases kq with
  | zero=>exact absurd HA.out (by simp [spec_l1Read.j0])
  | succ kj1 =>
   have H:=HA.out
   clear HA
   simp only [spec_l1Read.j0] at H
   by_cases c8:x18_1=true
   ·subst c8
    have H1:(some (-1))=some r:=by rw [if_pos rfl] at H;exact H
    clear H
    have H:=H1
    clear H1
    obtain rfl:=Option.some.inj H
    go_wp2
    go_ret
    exact ⟨by first | rfl | (simp;done) | (simp [*];done),by repeat (first | exact Drawn0.refl _ | apply Drawn0.step)⟩
   ·replace c8:=Bool.eq_false_iff.mpr c8
    subst c8
    have H1:(spec_l1Read.l0 kj1 a0 0 0)=some r:=by rw [if_neg (show ¬ (false=true) by decide)] at H;exact H
    clear H
    have H:=H1
    clear H1
    have H':=zz31 H
    clear H
    go_wp2
    go_loopg [3,4] kj1 (fun kq v3 v4 w'=>∃ (x3_2:Int) (x4_2:Int),v3=.int .i64 x3_2∧v4=.int .i64 x4_2∧Aside0 (spec_l1Read.l0 kq a0 x3_2 x4_2=some r)∧Aside0 (kq≤kj1)∧Drawn0 w w')
    case atStart=>exact ⟨(0),(0),(by first | rfl | (simp;done) | (simp [*];done)),(by first | rfl | (simp;done) | (simp [*];done)),H',⟨Nat.le_refl _⟩,by repeat (first | exact Drawn0.refl _ | apply Drawn0.step)⟩
    case round =>
     clear H'
     try clear c1
     try clear c2
     try clear p2
     try clear c3
     try clear c4
     try clear c5
     try clear c5b0
     try clear c5b1
     try clear p6
     try clear q6
     try clear hx6
     try clear qi6
     try clear c7
     try clear c7b0
     try clear c7b1
     try clear c8
     try clear p2
     try clear p6
     try clear q6
     obtain ⟨x3_2,x4_2,rfl,rfl,HA,HK2,⟨m2,rfl⟩⟩:=hrel
     cases gk with
     | zero=>exact absurd HA.out (by simp [spec_l1Read.l0])
     | succ k2 =>
      have H:=HA.out
      clear HA
      simp only [spec_l1Read.l0] at H
      by_cases c9:x4_2 < (a0.size:Int)
      ·rw [if_pos c9] at H
       have c9b0:decide (x4_2 < (a0.size:Int))=true:=decide_eq_true c9
       clear c9
       by_cases c10:0≤x4_2
       ·rw [if_pos c10] at H
        have c10b0:decide (0≤x4_2)=true:=decide_eq_true c10
        clear c10
        by_cases c12:(bt a0 x4_2) < 48
        ·rw [if_pos c12] at H
         have c12b0:decide ((bt a0 x4_2) < 48)=true:=decide_eq_true c12
         clear c12
         obtain rfl:=Option.some.inj H
         have p11:0≤(x4_2:Int):=zz29 (by first | (with_reducible assumption) | assumption)
         have q11:x4_2 < (a0.size:Int):=zz29 (by first | (with_reducible assumption) | assumption)
         have hx11:=bt_at a0 x4_2
         replace p11:=eq_true p11
         replace q11:=eq_true q11
         go_wp2
         go_ret
         exact ⟨by first | rfl | (simp;done) | (simp [*];done),by repeat (first | exact Drawn0.refl _ | apply Drawn0.step)⟩
        ·rw [if_neg c12] at H
         have c12b0:decide ((bt a0 x4_2) < 48)=false:=decide_eq_false c12
         clear c12
         by_cases c14:(bt a0 x4_2) > 57
         ·rw [if_pos c14] at H
          have c14b0:decide (57 < (bt a0 x4_2))=true:=decide_eq_true c14
          clear c14
          obtain rfl:=Option.some.inj H
          have p11:0≤(x4_2:Int):=zz29 (by first | (with_reducible assumption) | assumption)
          have q11:x4_2 < (a0.size:Int):=zz29 (by first | (with_reducible assumption) | assumption)
          have hx11:=bt_at a0 x4_2
          replace p11:=eq_true p11
          replace q11:=eq_true q11
          have p13:0≤(x4_2:Int):=zz29 (by first | (with_reducible assumption) | assumption)
          have q13:x4_2 < (a0.size:Int):=zz29 (by first | (with_reducible assumption) | assumption)
          have hx13:=bt_at a0 x4_2
          replace p13:=eq_true p13
          replace q13:=eq_true q13
          go_wp2
          go_ret
          exact ⟨by first | rfl | (simp;done) | (simp [*];done),by repeat (first | exact Drawn0.refl _ | apply Drawn0.step)⟩
         ·rw [if_neg c14] at H
          have c14b0:decide (57 < (bt a0 x4_2))=false:=decide_eq_false c14
          clear c14
          have H':=zz31 H
          clear H
          have p11:0≤(x4_2:Int):=zz29 (by first | (with_reducible assumption) | assumption)
          have q11:x4_2 < (a0.size:Int):=zz29 (by first | (with_reducible assumption) | assumption)
          have hx11:=bt_at a0 x4_2
          replace p11:=eq_true p11
          replace q11:=eq_true q11
          have p13:0≤(x4_2:Int):=zz29 (by first | (with_reducible assumption) | assumption)
          have q13:x4_2 < (a0.size:Int):=zz29 (by first | (with_reducible assumption) | assumption)
          have hx13:=bt_at a0 x4_2
          replace p13:=eq_true p13
          replace q13:=eq_true q13
          have p15:0≤(x4_2:Int):=zz29 (by first | (with_reducible assumption) | assumption)
          have q15:x4_2 < (a0.size:Int):=zz29 (by first | (with_reducible assumption) | assumption)
          have hx15:=bt_at a0 x4_2
          replace p15:=eq_true p15
          replace q15:=eq_true q15
          go_wp2
          go_roundg k2
          case measure=>have:=HJ1.out;have:=HK2.out;omega
          case rel=>exact ⟨(wrap64 ((wrap64 (10 * x3_2))+(((bt a0 x4_2) - 48) % 256))),(wrap64 (x4_2+1)),(by first | rfl | (simp;done) | (simp [*];done)),(by first | rfl | (simp;done) | (simp [*];done)),H',⟨by have:=HJ1.out;have:=HK2.out;omega⟩,by repeat (first | exact Drawn0.refl _ | apply Drawn0.step)⟩
       ·rw [if_neg c10] at H
        exact absurd H (by simp)
      ·rw [if_neg c9] at H
       have c9b0:decide (x4_2 < (a0.size:Int))=false:=decide_eq_false c9
       clear c9
       obtain rfl:=Option.some.inj H
       go_wp2
       go_ret
       exact ⟨by first | rfl | (simp;done) | (simp [*];done),by repeat (first | exact Drawn0.refl _ | apply Drawn0.step)⟩

end Go.Proofs.YtoedkkoafidalaaDoor.P
