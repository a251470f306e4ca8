-- PRINTED by print.py (a twelfth state) out of the translation. Not trusted: Lean checks it.
import Derived.Test.YtialimbdkokdcaaPx0
import Derived.Test.YtialimbdkokdcaaPx1
import Derived.Test.YtialimbdkokdcaaPx3
import Derived.Test.YtialimbdkokdcaaPx9
import Derived.Test.YtialimbdkokdcaaPx15
import Derived.Test.YtialimbdkokdcaaPx16
namespace Go.Proofs.Ytialimbdkokdcaa.P
open Go.RowKit Go.Proofs.YtialimbdkokdcaaW.PrintWords Go.Proofs.YtialimbdkokdcaaW.PrintLast Go.Proofs.YtialimbdkokdcaaW.PrintMore
attribute [local go_sem] max2_int min2_int max_two min_two max_three min_three max_four min_four   -- for this text's walks alone
set_option linter.unusedVariables false
set_option linter.unusedSimpArgs false

/-! ### spec_TogetherParty: function 30 -/
def spec_TogetherParty.f (k:Nat) (a0_0:Int) (l0_1:List (S80)) (a1_0:Int) (l1_1:List (S80)):Option (Int × (List (S80)) × Bool):=(spec_paJoin.f k a0_0 l0_1 a1_0 l1_1 true).bind fun bt422=>(some (bt422.1,bt422.2.1,bt422.2.2))
theorem spec_TogetherParty.mono:∀ a0 a1 a2 a3 k,LeO (spec_TogetherParty.f k a0 a1 a2 a3) (spec_TogetherParty.f (k+1) a0 a1 a2 a3):=by
 intro a0 a1 a2 a3 k
 unfold spec_TogetherParty.f
 repeat' first
   | (with_reducible exact spec_paJoin.mono _ _ _ _ _ _)
   | (with_reducible exact LeO.refl _)
   | (with_reducible exact LeO.none _)
   | (with_reducible refine LeO.ite ?_ ?_)
   | (with_reducible refine LeO.bind ?_ (fun _=>?_))
   | exact spec_paJoin.mono _ _ _ _ _ _
   | exact LeO.none _
   | refine LeO.ite ?_ ?_
   | refine LeO.bind ?_ (fun _=>?_)
set_option maxHeartbeats 8000000 in
set_option maxRecDepth 100000 in
theorem spec_TogetherParty.calls (k:Nat) (a0_0:Int) (A0_1:Option Addr) (c0_1:Nat) (l0_1:List (S80)) (a1_0:Int) (A1_1:Option Addr) (c1_1:Nat) (l1_1:List (S80)) (r1:Int) (r2:List (S80)) (r3:Bool) (w:World) (hr0_1:Kd.C k80 w A0_1 l0_1.length l0_1) (hc0_1:l0_1.length≤c0_1) (hr1_1:Kd.C k80 w A1_1 l1_1.length l1_1) (hc1_1:l1_1.length≤c1_1) (h:spec_TogetherParty.f k a0_0 l0_1 a1_0 l1_1=some (r1,r2,r3)) :
  Calls Try.prog 30 #[.agg #[.int .i64 a0_0,.slice A0_1 l0_1.length c0_1],.agg #[.int .i64 a1_0,.slice A1_1 l1_1.length c1_1]] w fun e w'=>∃ v1_:Value,e=.returned (.tuple #[.agg #[.int .i64 r1,v1_],.bool r3])∧Kd.R k80 80 w' w.heap.size (fun _=>True) v1_ r2∧Below w.heap.size w w':=by
 have hu30:=Try.underlying30
 have HR0_1:=zz31 hr0_1
 have HC0_1:=zz31 hc0_1
 clear hr0_1 hc0_1
 have HR1_1:=zz31 hr1_1
 have HC1_1:=zz31 hc1_1
 clear hr1_1 hc1_1
 have HB:=zz31 (Below.refl w.heap.size w)
 have H:((spec_paJoin.f k a0_0 l0_1 a1_0 l1_1 true).bind fun bt422=>(some (bt422.1,bt422.2.1,bt422.2.2)))=some (r1,r2,r3):=h
 clear h
 replace H:=zz30.mp H
 obtain ⟨⟨t422,t423,t426⟩,A30,H⟩:=H
 replace H:(some (t422,t423,t426))=some (r1,r2,r3):=H
 have A3:=zz31 A30
 clear A30
 simp only [Option.some.injEq,Prod.mk.injEq] at H
 obtain ⟨rfl,rfl,rfl⟩:=H
 go_enter Try.func30,Try.ntmps30
 go_wp2_with (first | ((with_reducible refine gate_dst (N:=2) rfl ?_);refine box_event ?hg (N:=2) ?hd (cs:=#[.int .i64 a0_0,.slice A0_1 l0_1.length c0_1]) (t:=30) ?hr ?_;(case hd=>rfl);(case hg=>rfl);(case hr=>first | (go_simp;done) | (go_simp;rfl));intro gb419 hg w4 hbox hb;have n0_:=zz31 (zz4 (by repeat first | exact HB.out | apply zz2 | apply zz0 | apply zz1) hb);have n1_:=zz31 (hbox);have n2_:=zz31 ((by rw [hg];exact (zz5 (by repeat first | exact HB.out | apply zz2 | apply zz0 | apply zz1)):w.heap.size≤gb419));have n3_:=zz31 ((by rw [hg];exact (zz5 (by repeat first | exact HB.out | apply zz2 | apply zz0 | apply zz1)):w.heap.size≤gb419));clear HB;have HB:=n0_;have BK419:=n1_;have GW419:=n2_;have GE419:=n3_;clear n0_ n1_ n2_ n3_;clear hb hbox hg) | ((with_reducible refine gate_dst (N:=3) rfl ?_);refine box_event ?hg (N:=3) ?hd (cs:=#[.int .i64 a1_0,.slice A1_1 l1_1.length c1_1]) (t:=30) ?hr ?_;(case hd=>rfl);(case hg=>rfl);(case hr=>first | (go_simp;done) | (go_simp;rfl));intro gb420 hg w5 hbox hb;have n0_:=zz31 (zz11 (g:=gb419) (o:=.cells #[.int .i64 a0_0,.slice A0_1 l0_1.length c0_1] 30 (0,0)) (by (with_reducible repeat (first | refine zz6 ?_ _ | refine zz7 ?_ | refine zz8 ?_ _));exact BK419.out) hb);have n1_:=zz31 (zz4 (by repeat first | exact HB.out | apply zz2 | apply zz0 | apply zz1 | refine zz3 ?_ GE419.out) hb);have n2_:=zz31 (hbox);have n3_:=zz31 ((by rw [hg];exact (zz5 (by repeat first | exact HB.out | apply zz2 | apply zz0 | apply zz1 | refine zz3 ?_ GE419.out)):w.heap.size≤gb420));have n4_:=zz31 ((by rw [hg];exact (zz5 (by repeat first | exact HB.out | apply zz2 | apply zz0 | apply zz1 | refine zz3 ?_ GE419.out)):w.heap.size≤gb420));have n5_:=zz31 ((by rw [hg];exact Nat.ne_of_lt (blk_lt (g:=gb419) (o:=.cells #[.int .i64 a0_0,.slice A0_1 l0_1.length c0_1] 30 (0,0)) (by (with_reducible repeat (first | refine zz6 ?_ _ | refine zz7 ?_ | refine zz8 ?_ _));exact BK419.out)):gb419 ≠ gb420));have n6_:=zz31 ((by rw [hg];exact Nat.ne_of_gt (blk_lt (g:=gb419) (o:=.cells #[.int .i64 a0_0,.slice A0_1 l0_1.length c0_1] 30 (0,0)) (by (with_reducible repeat (first | refine zz6 ?_ _ | refine zz7 ?_ | refine zz8 ?_ _));exact BK419.out)):gb420 ≠ gb419));clear BK419;clear HB;have BK419:=n0_;have HB:=n1_;have BK420:=n2_;have GW420:=n3_;have GE420:=n4_;have NB419_420:=n5_;have NB420_419:=n6_;clear n0_ n1_ n2_ n3_ n4_ n5_ n6_;clear hb hbox hg) | ((with_reducible refine gate_dst (N:=4) rfl ?_);refine box_event ?hg (N:=4) ?hd (cs:=#[.int .i64 0,.slice none 0 0]) (t:=30) ?hr ?_;(case hd=>rfl);(case hg=>rfl);(case hr=>first | (go_simp;done) | (go_simp;rfl));intro gb421 hg w6 hbox hb;have n0_:=zz31 (zz11 (g:=gb419) (o:=.cells #[.int .i64 a0_0,.slice A0_1 l0_1.length c0_1] 30 (0,0)) (by (with_reducible repeat (first | refine zz6 ?_ _ | refine zz7 ?_ | refine zz8 ?_ _));exact BK419.out) hb);have n1_:=zz31 (zz11 (g:=gb420) (o:=.cells #[.int .i64 a1_0,.slice A1_1 l1_1.length c1_1] 30 (0,0)) (by (with_reducible repeat (first | refine zz6 ?_ _ | refine zz7 ?_ | refine zz8 ?_ _));exact BK420.out) hb);have n2_:=zz31 (zz4 (by repeat first | exact HB.out | apply zz2 | apply zz0 | apply zz1 | refine zz3 ?_ GE419.out | refine zz3 ?_ GE420.out) hb);have n3_:=zz31 (hbox);have n4_:=zz31 ((by rw [hg];exact (zz5 (by repeat first | exact HB.out | apply zz2 | apply zz0 | apply zz1 | refine zz3 ?_ GE419.out | refine zz3 ?_ GE420.out)):w.heap.size≤gb421));have n5_:=zz31 ((by rw [hg];exact (zz5 (by repeat first | exact HB.out | apply zz2 | apply zz0 | apply zz1 | refine zz3 ?_ GE419.out | refine zz3 ?_ GE420.out)):w.heap.size≤gb421));have n6_:=zz31 ((by rw [hg];exact Nat.ne_of_lt (blk_lt (g:=gb419) (o:=.cells #[.int .i64 a0_0,.slice A0_1 l0_1.length c0_1] 30 (0,0)) (by (with_reducible repeat (first | refine zz6 ?_ _ | refine zz7 ?_ | refine zz8 ?_ _));exact BK419.out)):gb419 ≠ gb421));have n7_:=zz31 ((by rw [hg];exact Nat.ne_of_gt (blk_lt (g:=gb419) (o:=.cells #[.int .i64 a0_0,.slice A0_1 l0_1.length c0_1] 30 (0,0)) (by (with_reducible repeat (first | refine zz6 ?_ _ | refine zz7 ?_ | refine zz8 ?_ _));exact BK419.out)):gb421 ≠ gb419));have n8_:=zz31 ((by rw [hg];exact Nat.ne_of_lt (blk_lt (g:=gb420) (o:=.cells #[.int .i64 a1_0,.slice A1_1 l1_1.length c1_1] 30 (0,0)) (by (with_reducible repeat (first | refine zz6 ?_ _ | refine zz7 ?_ | refine zz8 ?_ _));exact BK420.out)):gb420 ≠ gb421));have n9_:=zz31 ((by rw [hg];exact Nat.ne_of_gt (blk_lt (g:=gb420) (o:=.cells #[.int .i64 a1_0,.slice A1_1 l1_1.length c1_1] 30 (0,0)) (by (with_reducible repeat (first | refine zz6 ?_ _ | refine zz7 ?_ | refine zz8 ?_ _));exact BK420.out)):gb421 ≠ gb420));clear BK419;clear BK420;clear HB;have BK419:=n0_;have BK420:=n1_;have HB:=n2_;have BK421:=n3_;have GW421:=n4_;have GE421:=n5_;have NB419_421:=n6_;have NB421_419:=n7_;have NB420_421:=n8_;have NB421_420:=n9_;clear n0_ n1_ n2_ n3_ n4_ n5_ n6_ n7_ n8_ n9_;clear hb hbox hg;have hnb7:=NB419_420.out;have hnc7:=NB420_419.out;have hnb8:=NB419_421.out;have hnc8:=NB421_419.out;have hcz9_0:w6.cell? ⟨gb419,0,none⟩=some (.int .i64 a0_0):=(zz9 BK419.out 0).trans rfl;have hcz9_1:w6.cell? ⟨gb419,1,none⟩=some (.slice A0_1 l0_1.length c0_1):=(zz9 BK419.out 1).trans rfl;have hfz9_0:=zz10 BK419.out 0;have hfz9_1:=zz10 BK419.out 1;have hnb10:=NB420_421.out;have hnc10:=NB421_420.out;have hcz11_0:w6.cell? ⟨gb420,0,none⟩=some (.int .i64 a1_0):=(zz9 BK420.out 0).trans rfl;have hcz11_1:w6.cell? ⟨gb420,1,none⟩=some (.slice A1_1 l1_1.length c1_1):=(zz9 BK420.out 1).trans rfl;have hfz11_0:=zz10 BK420.out 0;have hfz11_1:=zz10 BK420.out 1) | ((with_reducible refine gate_callee (f:=61) rfl ?_);refine goesL_ (some 8) rfl rfl Try.func61 (by kernel_rfl) rfl #[.agg #[.int .i64 a0_0,.slice A0_1 l0_1.length c0_1],.agg #[.int .i64 a1_0,.slice A1_1 l1_1.length c1_1],.bool true] rfl (by (try simp only [zz26,zz27,zz28]);first | done | rfl | (simp only [zz24,zz25];rfl)) ?_;(with_reducible refine (spec_paJoin.calls k a0_0 _ _ l0_1 a1_0 _ _ l1_1 true t422 t423 t426 _ ?side1 ?side2 ?side3 ?side4 A3.out).mono ?_);(case side1=>repeat (first | exact (Kd.C_below HR0_1.out HB.out) | (with_reducible refine zz18 ?_ _) | (with_reducible refine zz19 ?_ _) | (with_reducible refine zz20 ?_)));(case side2=>exact HC0_1.out);(case side3=>repeat (first | exact (Kd.C_below HR1_1.out HB.out) | (with_reducible refine zz18 ?_ _) | (with_reducible refine zz19 ?_ _) | (with_reducible refine zz20 ?_)));(case side4=>exact HC1_1.out);rintro e w12 ⟨v424,rfl,ho0,hb⟩;refine ⟨_,rfl,?_⟩;have n0_:=zz31 (Kd.R_lower ho0 (zz5 (by repeat first | exact HB.out | apply zz2 | apply zz0 | apply zz1 | refine zz3 ?_ GE419.out | refine zz3 ?_ GE420.out | refine zz3 ?_ GE421.out)));have n1_:=zz31 (zz11 (g:=gb419) (o:=.cells #[.int .i64 a0_0,.slice A0_1 l0_1.length c0_1] 30 (0,0)) (by (with_reducible repeat (first | refine zz6 ?_ _ | refine zz7 ?_ | refine zz8 ?_ _));exact BK419.out) hb);have n2_:=zz31 (zz11 (g:=gb420) (o:=.cells #[.int .i64 a1_0,.slice A1_1 l1_1.length c1_1] 30 (0,0)) (by (with_reducible repeat (first | refine zz6 ?_ _ | refine zz7 ?_ | refine zz8 ?_ _));exact BK420.out) hb);have n3_:=zz31 (zz11 (g:=gb421) (o:=.cells #[.int .i64 0,.slice none 0 0] 30 (0,0)) (by (with_reducible repeat (first | refine zz6 ?_ _ | refine zz7 ?_ | refine zz8 ?_ _));exact BK421.out) hb);have n4_:=zz31 (zz4 (by repeat first | exact HB.out | apply zz2 | apply zz0 | apply zz1 | refine zz3 ?_ GE419.out | refine zz3 ?_ GE420.out | refine zz3 ?_ GE421.out) hb);clear BK419;clear BK420;clear BK421;clear HB;have HO425:=n0_;have BK419:=n1_;have BK420:=n2_;have BK421:=n3_;have HB:=n4_;clear n0_ n1_ n2_ n3_ n4_;(try clear hb);(try clear hb2);(try clear hk);(try clear hi);(try clear ho0);have hcz13_0:w12.cell? ⟨gb421,0,none⟩=some (.int .i64 0):=(zz9 BK421.out 0).trans rfl;have hcz13_1:w12.cell? ⟨gb421,1,none⟩=some (.slice none 0 0):=(zz9 BK421.out 1).trans rfl;have hfz13_0:=zz10 BK421.out 0;have hfz13_1:=zz10 BK421.out 1;obtain ⟨Ao14,co14,eo14⟩:=Kd.R_slice HO425.out;subst eo14))
 refine bodyPost_ret (results_ct rfl _ _ gb421 30 #[.int .i64 t422,.slice Ao14 t423.length co14] (0,0) _ rfl (by (with_reducible repeat (first | refine zz6 ?_ _ | refine zz7 ?_ | refine zz8 ?_ _));refine blk_put (cs:=#[.int .i64 t422,.slice none 0 0]) ?_ 1 _ rfl;(with_reducible repeat (first | refine zz6 ?_ _ | refine zz7 ?_ | refine zz8 ?_ _));refine blk_put (cs:=#[.int .i64 0,.slice none 0 0]) ?_ 0 _ rfl;(with_reducible repeat (first | refine zz6 ?_ _ | refine zz7 ?_ | refine zz8 ?_ _));exact BK421.out) Try.underlying30 rfl (by kernel_rfl)) rfl ?_
 exact ⟨_,by first | rfl | (simp [errW_none,errW_some] <;> rfl) | (simp [*,errW_none,errW_some] <;> rfl),by (with_reducible repeat (first | apply zz12 | apply zz13 | apply zz14));exact Kd.R_mono (Kd.R_far (p:=⟨gb421,1,none⟩) (Kd.R_far (p:=⟨gb421,0,none⟩) (Kd.R_types HO425.out BK421.out (by decide)) (fun _ hk=>hk.2) (.int .i64 t422)) (fun _ hk=>hk.2) (.slice Ao14 t423.length co14)) (fun _ hk=>trivial),by repeat first | exact HB.out | apply zz2 | apply zz0 | apply zz1 | refine zz3 ?_ GE419.out | refine zz3 ?_ GE420.out | refine zz3 ?_ GE421.out⟩

/-! ### impl_TogetherParty: function 31 -/
def impl_TogetherParty.f (k:Nat) (a0_0:Int) (l0_1:List (S80)) (a1_0:Int) (l1_1:List (S80)):Option (Int × (List (S80)) × Bool):=(impl_joined.f k a0_0 l0_1 a1_0 l1_1 true).bind fun bt430=>(some (bt430.1,bt430.2.1,bt430.2.2))
theorem impl_TogetherParty.mono:∀ a0 a1 a2 a3 k,LeO (impl_TogetherParty.f k a0 a1 a2 a3) (impl_TogetherParty.f (k+1) a0 a1 a2 a3):=by
 intro a0 a1 a2 a3 k
 unfold impl_TogetherParty.f
 repeat' first
   | (with_reducible exact impl_joined.mono _ _ _ _ _ _)
   | (with_reducible exact LeO.refl _)
   | (with_reducible exact LeO.none _)
   | (with_reducible refine LeO.ite ?_ ?_)
   | (with_reducible refine LeO.bind ?_ (fun _=>?_))
   | exact impl_joined.mono _ _ _ _ _ _
   | exact LeO.none _
   | refine LeO.ite ?_ ?_
   | refine LeO.bind ?_ (fun _=>?_)
set_option maxHeartbeats 8000000 in
set_option maxRecDepth 100000 in
theorem impl_TogetherParty.calls (k:Nat) (a0_0:Int) (A0_1:Option Addr) (c0_1:Nat) (l0_1:List (S80)) (a1_0:Int) (A1_1:Option Addr) (c1_1:Nat) (l1_1:List (S80)) (r1:Int) (r2:List (S80)) (r3:Bool) (w:World) (hr0_1:Kd.C k80 w A0_1 l0_1.length l0_1) (hc0_1:l0_1.length≤c0_1) (hr1_1:Kd.C k80 w A1_1 l1_1.length l1_1) (hc1_1:l1_1.length≤c1_1) (h:impl_TogetherParty.f k a0_0 l0_1 a1_0 l1_1=some (r1,r2,r3)) :
  Calls Try.prog 31 #[.agg #[.int .i64 a0_0,.slice A0_1 l0_1.length c0_1],.agg #[.int .i64 a1_0,.slice A1_1 l1_1.length c1_1]] w fun e w'=>∃ v1_:Value,e=.returned (.tuple #[.agg #[.int .i64 r1,v1_],.bool r3])∧Kd.R k80 80 w' w.heap.size (fun _=>True) v1_ r2∧Below w.heap.size w w':=by
 have hu30:=Try.underlying30
 have HR0_1:=zz31 hr0_1
 have HC0_1:=zz31 hc0_1
 clear hr0_1 hc0_1
 have HR1_1:=zz31 hr1_1
 have HC1_1:=zz31 hc1_1
 clear hr1_1 hc1_1
 have HB:=zz31 (Below.refl w.heap.size w)
 have H:((impl_joined.f k a0_0 l0_1 a1_0 l1_1 true).bind fun bt430=>(some (bt430.1,bt430.2.1,bt430.2.2)))=some (r1,r2,r3):=h
 clear h
 replace H:=zz30.mp H
 obtain ⟨⟨t430,t431,t434⟩,A30,H⟩:=H
 replace H:(some (t430,t431,t434))=some (r1,r2,r3):=H
 have A3:=zz31 A30
 clear A30
 simp only [Option.some.injEq,Prod.mk.injEq] at H
 obtain ⟨rfl,rfl,rfl⟩:=H
 go_enter Try.func31,Try.ntmps31
 go_wp2_with (first | ((with_reducible refine gate_dst (N:=2) rfl ?_);refine box_event ?hg (N:=2) ?hd (cs:=#[.int .i64 a0_0,.slice A0_1 l0_1.length c0_1]) (t:=30) ?hr ?_;(case hd=>rfl);(case hg=>rfl);(case hr=>first | (go_simp;done) | (go_simp;rfl));intro gb427 hg w4 hbox hb;have n0_:=zz31 (zz4 (by repeat first | exact HB.out | apply zz2 | apply zz0 | apply zz1) hb);have n1_:=zz31 (hbox);have n2_:=zz31 ((by rw [hg];exact (zz5 (by repeat first | exact HB.out | apply zz2 | apply zz0 | apply zz1)):w.heap.size≤gb427));have n3_:=zz31 ((by rw [hg];exact (zz5 (by repeat first | exact HB.out | apply zz2 | apply zz0 | apply zz1)):w.heap.size≤gb427));clear HB;have HB:=n0_;have BK427:=n1_;have GW427:=n2_;have GE427:=n3_;clear n0_ n1_ n2_ n3_;clear hb hbox hg) | ((with_reducible refine gate_dst (N:=3) rfl ?_);refine box_event ?hg (N:=3) ?hd (cs:=#[.int .i64 a1_0,.slice A1_1 l1_1.length c1_1]) (t:=30) ?hr ?_;(case hd=>rfl);(case hg=>rfl);(case hr=>first | (go_simp;done) | (go_simp;rfl));intro gb428 hg w5 hbox hb;have n0_:=zz31 (zz11 (g:=gb427) (o:=.cells #[.int .i64 a0_0,.slice A0_1 l0_1.length c0_1] 30 (0,0)) (by (with_reducible repeat (first | refine zz6 ?_ _ | refine zz7 ?_ | refine zz8 ?_ _));exact BK427.out) hb);have n1_:=zz31 (zz4 (by repeat first | exact HB.out | apply zz2 | apply zz0 | apply zz1 | refine zz3 ?_ GE427.out) hb);have n2_:=zz31 (hbox);have n3_:=zz31 ((by rw [hg];exact (zz5 (by repeat first | exact HB.out | apply zz2 | apply zz0 | apply zz1 | refine zz3 ?_ GE427.out)):w.heap.size≤gb428));have n4_:=zz31 ((by rw [hg];exact (zz5 (by repeat first | exact HB.out | apply zz2 | apply zz0 | apply zz1 | refine zz3 ?_ GE427.out)):w.heap.size≤gb428));have n5_:=zz31 ((by rw [hg];exact Nat.ne_of_lt (blk_lt (g:=gb427) (o:=.cells #[.int .i64 a0_0,.slice A0_1 l0_1.length c0_1] 30 (0,0)) (by (with_reducible repeat (first | refine zz6 ?_ _ | refine zz7 ?_ | refine zz8 ?_ _));exact BK427.out)):gb427 ≠ gb428));have n6_:=zz31 ((by rw [hg];exact Nat.ne_of_gt (blk_lt (g:=gb427) (o:=.cells #[.int .i64 a0_0,.slice A0_1 l0_1.length c0_1] 30 (0,0)) (by (with_reducible repeat (first | refine zz6 ?_ _ | refine zz7 ?_ | refine zz8 ?_ _));exact BK427.out)):gb428 ≠ gb427));clear BK427;clear HB;have BK427:=n0_;have HB:=n1_;have BK428:=n2_;have GW428:=n3_;have GE428:=n4_;have NB427_428:=n5_;have NB428_427:=n6_;clear n0_ n1_ n2_ n3_ n4_ n5_ n6_;clear hb hbox hg) | ((with_reducible refine gate_dst (N:=4) rfl ?_);refine box_event ?hg (N:=4) ?hd (cs:=#[.int .i64 0,.slice none 0 0]) (t:=30) ?hr ?_;(case hd=>rfl);(case hg=>rfl);(case hr=>first | (go_simp;done) | (go_simp;rfl));intro gb429 hg w6 hbox hb;have n0_:=zz31 (zz11 (g:=gb427) (o:=.cells #[.int .i64 a0_0,.slice A0_1 l0_1.length c0_1] 30 (0,0)) (by (with_reducible repeat (first | refine zz6 ?_ _ | refine zz7 ?_ | refine zz8 ?_ _));exact BK427.out) hb);have n1_:=zz31 (zz11 (g:=gb428) (o:=.cells #[.int .i64 a1_0,.slice A1_1 l1_1.length c1_1] 30 (0,0)) (by (with_reducible repeat (first | refine zz6 ?_ _ | refine zz7 ?_ | refine zz8 ?_ _));exact BK428.out) hb);have n2_:=zz31 (zz4 (by repeat first | exact HB.out | apply zz2 | apply zz0 | apply zz1 | refine zz3 ?_ GE427.out | refine zz3 ?_ GE428.out) hb);have n3_:=zz31 (hbox);have n4_:=zz31 ((by rw [hg];exact (zz5 (by repeat first | exact HB.out | apply zz2 | apply zz0 | apply zz1 | refine zz3 ?_ GE427.out | refine zz3 ?_ GE428.out)):w.heap.size≤gb429));have n5_:=zz31 ((by rw [hg];exact (zz5 (by repeat first | exact HB.out | apply zz2 | apply zz0 | apply zz1 | refine zz3 ?_ GE427.out | refine zz3 ?_ GE428.out)):w.heap.size≤gb429));have n6_:=zz31 ((by rw [hg];exact Nat.ne_of_lt (blk_lt (g:=gb427) (o:=.cells #[.int .i64 a0_0,.slice A0_1 l0_1.length c0_1] 30 (0,0)) (by (with_reducible repeat (first | refine zz6 ?_ _ | refine zz7 ?_ | refine zz8 ?_ _));exact BK427.out)):gb427 ≠ gb429));have n7_:=zz31 ((by rw [hg];exact Nat.ne_of_gt (blk_lt (g:=gb427) (o:=.cells #[.int .i64 a0_0,.slice A0_1 l0_1.length c0_1] 30 (0,0)) (by (with_reducible repeat (first | refine zz6 ?_ _ | refine zz7 ?_ | refine zz8 ?_ _));exact BK427.out)):gb429 ≠ gb427));have n8_:=zz31 ((by rw [hg];exact Nat.ne_of_lt (blk_lt (g:=gb428) (o:=.cells #[.int .i64 a1_0,.slice A1_1 l1_1.length c1_1] 30 (0,0)) (by (with_reducible repeat (first | refine zz6 ?_ _ | refine zz7 ?_ | refine zz8 ?_ _));exact BK428.out)):gb428 ≠ gb429));have n9_:=zz31 ((by rw [hg];exact Nat.ne_of_gt (blk_lt (g:=gb428) (o:=.cells #[.int .i64 a1_0,.slice A1_1 l1_1.length c1_1] 30 (0,0)) (by (with_reducible repeat (first | refine zz6 ?_ _ | refine zz7 ?_ | refine zz8 ?_ _));exact BK428.out)):gb429 ≠ gb428));clear BK427;clear BK428;clear HB;have BK427:=n0_;have BK428:=n1_;have HB:=n2_;have BK429:=n3_;have GW429:=n4_;have GE429:=n5_;have NB427_429:=n6_;have NB429_427:=n7_;have NB428_429:=n8_;have NB429_428:=n9_;clear n0_ n1_ n2_ n3_ n4_ n5_ n6_ n7_ n8_ n9_;clear hb hbox hg;have hnb7:=NB427_428.out;have hnc7:=NB428_427.out;have hnb8:=NB427_429.out;have hnc8:=NB429_427.out;have hcz9_0:w6.cell? ⟨gb427,0,none⟩=some (.int .i64 a0_0):=(zz9 BK427.out 0).trans rfl;have hcz9_1:w6.cell? ⟨gb427,1,none⟩=some (.slice A0_1 l0_1.length c0_1):=(zz9 BK427.out 1).trans rfl;have hfz9_0:=zz10 BK427.out 0;have hfz9_1:=zz10 BK427.out 1;have hnb10:=NB428_429.out;have hnc10:=NB429_428.out;have hcz11_0:w6.cell? ⟨gb428,0,none⟩=some (.int .i64 a1_0):=(zz9 BK428.out 0).trans rfl;have hcz11_1:w6.cell? ⟨gb428,1,none⟩=some (.slice A1_1 l1_1.length c1_1):=(zz9 BK428.out 1).trans rfl;have hfz11_0:=zz10 BK428.out 0;have hfz11_1:=zz10 BK428.out 1) | ((with_reducible refine gate_callee (f:=62) rfl ?_);refine goesL_ (some 8) rfl rfl Try.func62 (by kernel_rfl) rfl #[.agg #[.int .i64 a0_0,.slice A0_1 l0_1.length c0_1],.agg #[.int .i64 a1_0,.slice A1_1 l1_1.length c1_1],.bool true] rfl (by (try simp only [zz26,zz27,zz28]);first | done | rfl | (simp only [zz24,zz25];rfl)) ?_;(with_reducible refine (impl_joined.calls k a0_0 _ _ l0_1 a1_0 _ _ l1_1 true t430 t431 t434 _ ?side1 ?side2 ?side3 ?side4 A3.out).mono ?_);(case side1=>repeat (first | exact (Kd.C_below HR0_1.out HB.out) | (with_reducible refine zz18 ?_ _) | (with_reducible refine zz19 ?_ _) | (with_reducible refine zz20 ?_)));(case side2=>exact HC0_1.out);(case side3=>repeat (first | exact (Kd.C_below HR1_1.out HB.out) | (with_reducible refine zz18 ?_ _) | (with_reducible refine zz19 ?_ _) | (with_reducible refine zz20 ?_)));(case side4=>exact HC1_1.out);rintro e w12 ⟨v432,rfl,ho0,hb⟩;refine ⟨_,rfl,?_⟩;have n0_:=zz31 (Kd.R_lower ho0 (zz5 (by repeat first | exact HB.out | apply zz2 | apply zz0 | apply zz1 | refine zz3 ?_ GE427.out | refine zz3 ?_ GE428.out | refine zz3 ?_ GE429.out)));have n1_:=zz31 (zz11 (g:=gb427) (o:=.cells #[.int .i64 a0_0,.slice A0_1 l0_1.length c0_1] 30 (0,0)) (by (with_reducible repeat (first | refine zz6 ?_ _ | refine zz7 ?_ | refine zz8 ?_ _));exact BK427.out) hb);have n2_:=zz31 (zz11 (g:=gb428) (o:=.cells #[.int .i64 a1_0,.slice A1_1 l1_1.length c1_1] 30 (0,0)) (by (with_reducible repeat (first | refine zz6 ?_ _ | refine zz7 ?_ | refine zz8 ?_ _));exact BK428.out) hb);have n3_:=zz31 (zz11 (g:=gb429) (o:=.cells #[.int .i64 0,.slice none 0 0] 30 (0,0)) (by (with_reducible repeat (first | refine zz6 ?_ _ | refine zz7 ?_ | refine zz8 ?_ _));exact BK429.out) hb);have n4_:=zz31 (zz4 (by repeat first | exact HB.out | apply zz2 | apply zz0 | apply zz1 | refine zz3 ?_ GE427.out | refine zz3 ?_ GE428.out | refine zz3 ?_ GE429.out) hb);clear BK427;clear BK428;clear BK429;clear HB;have HO433:=n0_;have BK427:=n1_;have BK428:=n2_;have BK429:=n3_;have HB:=n4_;clear n0_ n1_ n2_ n3_ n4_;(try clear hb);(try clear hb2);(try clear hk);(try clear hi);(try clear ho0);have hcz13_0:w12.cell? ⟨gb429,0,none⟩=some (.int .i64 0):=(zz9 BK429.out 0).trans rfl;have hcz13_1:w12.cell? ⟨gb429,1,none⟩=some (.slice none 0 0):=(zz9 BK429.out 1).trans rfl;have hfz13_0:=zz10 BK429.out 0;have hfz13_1:=zz10 BK429.out 1;obtain ⟨Ao14,co14,eo14⟩:=Kd.R_slice HO433.out;subst eo14))
 refine bodyPost_ret (results_ct rfl _ _ gb429 30 #[.int .i64 t430,.slice Ao14 t431.length co14] (0,0) _ rfl (by (with_reducible repeat (first | refine zz6 ?_ _ | refine zz7 ?_ | refine zz8 ?_ _));refine blk_put (cs:=#[.int .i64 t430,.slice none 0 0]) ?_ 1 _ rfl;(with_reducible repeat (first | refine zz6 ?_ _ | refine zz7 ?_ | refine zz8 ?_ _));refine blk_put (cs:=#[.int .i64 0,.slice none 0 0]) ?_ 0 _ rfl;(with_reducible repeat (first | refine zz6 ?_ _ | refine zz7 ?_ | refine zz8 ?_ _));exact BK429.out) Try.underlying30 rfl (by kernel_rfl)) rfl ?_
 exact ⟨_,by first | rfl | (simp [errW_none,errW_some] <;> rfl) | (simp [*,errW_none,errW_some] <;> rfl),by (with_reducible repeat (first | apply zz12 | apply zz13 | apply zz14));exact Kd.R_mono (Kd.R_far (p:=⟨gb429,1,none⟩) (Kd.R_far (p:=⟨gb429,0,none⟩) (Kd.R_types HO433.out BK429.out (by decide)) (fun _ hk=>hk.2) (.int .i64 t430)) (fun _ hk=>hk.2) (.slice Ao14 t431.length co14)) (fun _ hk=>trivial),by repeat first | exact HB.out | apply zz2 | apply zz0 | apply zz1 | refine zz3 ?_ GE427.out | refine zz3 ?_ GE428.out | refine zz3 ?_ GE429.out⟩

/-! ### laws_FnExactTogetherParty: function 7 (a contract of our own) -/
/-- A party in a box of its own, its row within the same span of blocks. -/
structure laws_FnExactTogetherParty.Itm where
 lo:Nat
 hi:Nat
 g:Nat
 p:Int
 A:Option Addr
 c:Nat
 l:List S80
structure laws_FnExactTogetherParty.It (b : Nat) (wr : World) (i : laws_FnExactTogetherParty.Itm) : Prop where
 box:wr.heap[i.g]?=some (.cells #[.int .i64 i.p,.slice i.A i.l.length i.c] 30 (0,0))
 row:Kd.R k80 80 wr b (fun k=>i.lo≤k∧k < i.hi∧k ≠ i.g) (.slice i.A i.l.length i.c) i.l
 hlo:i.lo≤i.g
 hhi:i.g < i.hi
 hsz:i.hi≤wr.heap.size
theorem laws_FnExactTogetherParty.It.keep {b:Nat} {wr wr':World} {i:laws_FnExactTogetherParty.Itm} (h:laws_FnExactTogetherParty.It b wr i) (hs:wr.heap.size≤wr'.heap.size) (hk:∀ k,i.lo≤k→k < i.hi→wr'.heap[k]?=wr.heap[k]?):laws_FnExactTogetherParty.It b wr' i :=
 ⟨(hk _ h.hlo h.hhi).trans h.box,Kd.R_step h.row (fun k ho _=>hk k ho.1 ho.2.1),h.hlo,h.hhi,Nat.le_trans h.hsz hs⟩
/-- The two boxes of the arguments, and the parties made since, the newest first. -/
structure laws_FnExactTogetherParty.Zz where
 g2:Nat
 g3:Nat
 lz:Nat
 a0:Int
 A0:Option Addr
 n0:Nat
 c0:Nat
 a1:Int
 A1:Option Addr
 n1:Nat
 c1:Nat
structure laws_FnExactTogetherParty.St (w wr : World) (z : laws_FnExactTogetherParty.Zz) (L : List laws_FnExactTogetherParty.Itm) : Prop where
 b2:wr.heap[z.g2]?=some (.cells #[.int .i64 z.a0,.slice z.A0 z.n0 z.c0] 24 (0,0))
 b3:wr.heap[z.g3]?=some (.cells #[.int .i64 z.a1,.slice z.A1 z.n1 z.c1] 24 (0,0))
 bel:Below w.heap.size w wr
 l2:z.g2 < z.lz
 l3:z.g3 < z.lz
 lw:w.heap.size≤z.lz
 ls:z.lz≤wr.heap.size
 its:∀ i ∈ L,laws_FnExactTogetherParty.It w.heap.size wr i
 los:∀ i ∈ L,z.lz≤i.lo
 dis:L.Pairwise (fun i j=>j.hi≤i.lo)
section
variable {w wr wr' wd ws : World} {z : laws_FnExactTogetherParty.Zz} {L L1 L2 : List laws_FnExactTogetherParty.Itm} {g c : Nat} {p : Int} {A : Option Addr} {l : List S80}
theorem laws_FnExactTogetherParty.St.below (h:laws_FnExactTogetherParty.St w wr z L) (hb:Below wr.heap.size wr wr'):laws_FnExactTogetherParty.St w wr' z L :=
 ⟨zz11 h.b2 hb,zz11 h.b3 hb,zz4 h.bel hb,h.l2,h.l3,h.lw,Nat.le_trans h.ls hb.size,fun i hi=>(h.its i hi).keep hb.size fun k _ hk=>hb.block k (Nat.lt_of_lt_of_le hk (h.its i hi).hsz),h.los,h.dis⟩
theorem laws_FnExactTogetherParty.St.add1 (h:laws_FnExactTogetherParty.St w wd z L) (hB:Below wd.heap.size wd ws) (hN:ws.heap[g]?=some (.cells #[.int .i64 0,.slice none 0 0] 30 (0,0))) (hR:Kd.R k80 80 ws wd.heap.size (fun _=>True) (.slice A l.length c) l) (hg:wd.heap.size≤g) :
  laws_FnExactTogetherParty.St w ((ws.setCell ⟨g,0,none⟩ (.int .i64 p)).setCell ⟨g,1,none⟩ (.slice A l.length c)) z (⟨wd.heap.size,ws.heap.size,g,p,A,c,l⟩ :: L):=by
 have h2:=h.below hB
 have hgl:=blk_lt hN
 have hz:=h.ls
 have hl2:=h.l2
 have hl3:=h.l3
 have hlw:=h.lw
 have hfar:∀ k,k ≠ g→((ws.setCell ⟨g,0,none⟩ (.int .i64 p)).setCell ⟨g,1,none⟩ (.slice A l.length c)).heap[k]?=ws.heap[k]?:=fun k hk=>by
  rw [Below.heap_setCell _ _ _ k hk,Below.heap_setCell _ _ _ k hk]
 have hsz:((ws.setCell ⟨g,0,none⟩ (.int .i64 p)).setCell ⟨g,1,none⟩ (.slice A l.length c)).heap.size=ws.heap.size:=by simp [World.setCell]
 have hR2:=Kd.R_types (Kd.R_bound hR) hN (by decide)
 refine ⟨(hfar _ (by omega)).trans h2.b2,(hfar _ (by omega)).trans h2.b3,zz3 (zz3 h2.bel (by omega)) (by omega),h.l2,h.l3,h.lw,by rw [hsz];exact h2.ls,fun i hi=>?_,fun i hi=>?_,List.pairwise_cons.2 ⟨fun j hj=>(h.its j hj).hsz,h.dis⟩⟩
 ·rcases List.mem_cons.1 hi with rfl | hi
  ·exact ⟨blk_put (cs:=#[.int .i64 p,.slice none 0 0]) (blk_put (cs:=#[.int .i64 0,.slice none 0 0]) hN 0 _ rfl) 1 _ rfl,Kd.R_lower (Kd.R_mono (Kd.R_far (Kd.R_far hR2 (fun k hk=>hk.2) _) (fun k hk=>hk.2) _) (fun k hk=>⟨hk.1.2.1,hk.1.2.2.1,hk.2⟩)) (by omega),hg,hgl,by rw [hsz];exact Nat.le_refl _⟩
  ·have h3:=(h.its i hi).hsz
   exact (h2.its i hi).keep (by rw [hsz];exact Nat.le_refl _) fun k _ hk=>hfar k (by omega)
 ·rcases List.mem_cons.1 hi with rfl | hi
  ·exact h.ls
  ·exact h.los i hi
theorem laws_FnExactTogetherParty.St.add2 (h:laws_FnExactTogetherParty.St w wd z L) (hB:Below wd.heap.size wd ws) (hR:Kd.R k80 80 ws wd.heap.size (fun _=>True) (.slice A l.length c) l) :
  laws_FnExactTogetherParty.St w (ws.alloc (.cells #[.int .i64 p,.slice A l.length c] 30)) z (⟨wd.heap.size,ws.heap.size+1,ws.heap.size,p,A,c,l⟩ :: L):=by
 have h2:=(h.below hB).below (zz2 (Below.refl _ _) (.cells #[.int .i64 p,.slice A l.length c] 30))
 have hz:=h.ls
 have hs:=hB.size
 have hlw:=h.lw
 refine ⟨h2.b2,h2.b3,h2.bel,h.l2,h.l3,h.lw,h2.ls,fun i hi=>?_,fun i hi=>?_,List.pairwise_cons.2 ⟨fun j hj=>(h.its j hj).hsz,h.dis⟩⟩
 ·rcases List.mem_cons.1 hi with rfl | hi
  ·exact ⟨blk_new ws _,Kd.R_lower (Kd.R_mono (Kd.R_below (Kd.R_bound hR) (zz2 (Below.refl _ _) _)) (fun k hk=>⟨hk.2.1,by have:=hk.2.2.1;show k < ws.heap.size+1;omega,by have:=hk.2.2.1;show k ≠ ws.heap.size;omega⟩)) (by omega),hs,Nat.lt_succ_self _,by simp⟩
  ·exact h2.its i hi
 ·rcases List.mem_cons.1 hi with rfl | hi
  ·exact h.ls
  ·exact h.los i hi
theorem laws_FnExactTogetherParty.St.mark {i:laws_FnExactTogetherParty.Itm} {ok:Nat→Prop} {l':List S80} (h:laws_FnExactTogetherParty.St w wr z (L1 ++ i :: L2)) (hR:Kd.R k80 80 wr' w.heap.size ok (.slice i.A i.l.length i.c) l') (hB:Below w.heap.size w wr') (hK:Kept wr wr' (fun k=>some k=(Value.slice i.A i.l.length i.c).ownBlock)) :
  laws_FnExactTogetherParty.St w wr' z (L1 ++ ⟨i.lo,i.hi,i.g,i.p,i.A,i.c,l'⟩ :: L2):=by
 have hlen:=(Kd.R_reads' hR).1
 have hi:=h.its i (by simp)
 have hown:∀ k,some k=(Value.slice i.A i.l.length i.c).ownBlock→i.lo≤k∧k < i.hi∧k ≠ i.g:=fun k hk=>hi.row.1 k hk.symm
 have hlos:=h.los i (by simp)
 have hd:=List.pairwise_append.1 h.dis
 have hd2:=List.pairwise_cons.1 hd.2.1
 have hout:∀ k,k < wr.heap.size→(k < i.lo ∨ i.hi≤k ∨ k=i.g)→wr'.heap[k]?=wr.heap[k]?:=fun k hlt hk=>hK.2 k hlt fun he=>by
  have:=hown k he
  omega
 have h2:=h.l2
 have h3:=h.l3
 have hs:=h.ls
 have hsz:=hi.hsz
 have hhi:=hi.hhi
 have hlo:=hi.hlo
 have hoth:∀ j ∈ L1 ++ L2,laws_FnExactTogetherParty.It w.heap.size wr' j:=fun j hj=>by
  have hjm:j ∈ L1 ++ i :: L2:=by
   rcases List.mem_append.1 hj with hj | hj
   ·exact List.mem_append_left _ hj
   ·exact List.mem_append_right _ (List.mem_cons_of_mem _ hj)
  have hj2:=(h.its j hjm).hsz
  refine (h.its j hjm).keep hK.1 fun k h4 h5=>hout k (by omega) ?_
  rcases List.mem_append.1 hj with hj | hj
  ·have:=hd.2.2 j hj i List.mem_cons_self
   omega
  ·have:=hd2.1 j hj
   omega
 refine ⟨(hout _ (by omega) (by omega)).trans h.b2,(hout _ (by omega) (by omega)).trans h.b3,hB,h.l2,h.l3,h.lw,Nat.le_trans h.ls hK.1,fun j hj=>?_,fun j hj=>?_,?_⟩
 ·rcases List.mem_append.1 hj with hj | hj
  ·exact hoth j (List.mem_append_left _ hj)
  ·rcases List.mem_cons.1 hj with rfl | hj
   ·refine ⟨?_,?_,hi.hlo,hi.hhi,Nat.le_trans hi.hsz hK.1⟩
    ·show wr'.heap[i.g]?=some (.cells #[.int .i64 i.p,.slice i.A l'.length i.c] 30 (0,0))
     rw [← hlen]
     exact (hout _ (by omega) (.inr (.inr rfl))).trans hi.box
    ·show Kd.R k80 80 wr' w.heap.size _ (.slice i.A l'.length i.c) l'
     rw [← hlen]
     exact Kd.R_mono (Kd.R_tight rfl hR) hown
   ·exact hoth j (List.mem_append_right _ hj)
 ·rcases List.mem_append.1 hj with hj | hj
  ·exact h.los j (List.mem_append_left _ hj)
  ·rcases List.mem_cons.1 hj with rfl | hj
   ·exact hlos
   ·exact h.los j (List.mem_append_right _ (List.mem_cons_of_mem _ hj))
 ·refine List.pairwise_append.2 ⟨hd.1,List.pairwise_cons.2 ⟨hd2.1,hd2.2⟩,fun a ha b hb=>?_⟩
  rcases List.mem_cons.1 hb with rfl | hb
  ·exact hd.2.2 a ha i List.mem_cons_self
  ·exact hd.2.2 a ha b (List.mem_cons_of_mem _ hb)
end
def laws_FnExactTogetherParty.f (k:Nat) (a0_0:Int) (l0_1:List (S94)) (a1_0:Int) (l1_1:List (S94)):Option Bool :=
 (laws_szParty.f a0_0 l0_1 1048576).bind fun s1=>if s1 < 0 then some true else (laws_szParty.f a1_0 l1_1 s1).bind fun s2=>if s2 < 0 then some true else
 (laws_toParty.f k a0_0 l0_1).bind fun p=>(laws_toParty.f k a1_0 l1_1).bind fun q=>(spec_TogetherParty.f k p.1 p.2 q.1 q.2).bind fun W=>(impl_TogetherParty.f k p.1 p.2 q.1 q.2).bind fun G=>(laws_eqParty.f k G.1 G.2.1 W.1 W.2.1).bind fun e1=>(laws_eqParty.f k p.1 p.2 p.1 p.2).bind fun e2=>(laws_eqParty.f k q.1 q.2 q.1 q.2).bind fun e3=>(laws_markParty.f k p.1 p.2 1).bind fun mp=>(laws_markParty.f k q.1 q.2 mp.1).bind fun mq=>(laws_markParty.f k G.1 G.2.1 1).bind fun mg=>(laws_heldParty.f k G.1 mg.2 1).bind fun hq =>
 if (e1=true∧G.2.2=W.2.2∧e2=true∧e3=true)∧0≤mq.1∧0≤hq∧hq=mg.1 then some true else none
theorem laws_FnExactTogetherParty.mono:∀ a0 a1 a2 a3 k,LeO (laws_FnExactTogetherParty.f k a0 a1 a2 a3) (laws_FnExactTogetherParty.f (k+1) a0 a1 a2 a3):=by
 intro a0 a1 a2 a3 k
 unfold laws_FnExactTogetherParty.f
 exact LeO.bind (LeO.refl _) fun s1=>LeO.ite (LeO.refl _) (LeO.bind (LeO.refl _) fun s2=>LeO.ite (LeO.refl _) (LeO.bind (laws_toParty.mono _ _ _) fun p=>LeO.bind (laws_toParty.mono _ _ _) fun q=>LeO.bind (spec_TogetherParty.mono _ _ _ _ _) fun W=>LeO.bind (impl_TogetherParty.mono _ _ _ _ _) fun G=>LeO.bind (laws_eqParty.mono _ _ _ _ _) fun e1=>LeO.bind (laws_eqParty.mono _ _ _ _ _) fun e2=>LeO.bind (laws_eqParty.mono _ _ _ _ _) fun e3=>LeO.bind (laws_markParty.mono _ _ _ _) fun mp=>LeO.bind (laws_markParty.mono _ _ _ _) fun mq=>LeO.bind (laws_markParty.mono _ _ _ _) fun mg=>LeO.bind (laws_heldParty.mono _ _ _ _) fun hq=>LeO.refl _))
set_option maxHeartbeats 4000000 in
set_option maxRecDepth 100000 in
theorem laws_FnExactTogetherParty.calls (k:Nat) (a0_0:Int) (A0_1:Option Addr) (c0_1:Nat) (l0_1:List (S94)) (a1_0:Int) (A1_1:Option Addr) (c1_1:Nat) (l1_1:List (S94)) (r:Bool) (w:World) (hr0_1:Kd.C k94 w A0_1 l0_1.length l0_1) (hc0_1:l0_1.length≤c0_1) (hr1_1:Kd.C k94 w A1_1 l1_1.length l1_1) (hc1_1:l1_1.length≤c1_1) (h:laws_FnExactTogetherParty.f k a0_0 l0_1 a1_0 l1_1=some r) :
  Calls Try.prog 7 #[.agg #[.int .i64 a0_0,.slice A0_1 l0_1.length c0_1],.agg #[.int .i64 a1_0,.slice A1_1 l1_1.length c1_1]] w fun e w'=>e=.returned (.bool r)∧Below w.heap.size w w':=by
 have hu:=Try.underlying24
 have hu2:=Try.underlying30
 unfold laws_FnExactTogetherParty.f at h
 obtain ⟨s1,hs1,h⟩:=zz30.1 h
 have HSZ1:=zz31 hs1
 have HC0:=zz31 hr0_1
 have HCC0:=zz31 hc0_1
 have HC1:=zz31 hr1_1
 have HCC1:=zz31 hc1_1
 clear hs1 hr0_1 hc0_1 hr1_1 hc1_1
 by_cases hneg:s1 < 0
 ·rw [if_pos hneg] at h
  injection h with h
  subst h
  have hd:decide (s1 < 0)=true:=decide_eq_true hneg
  go_enter Try.func7,Try.ntmps7
  go_wp2_with (first | ((with_reducible refine gate_dst (N := 2) rfl ?_); refine box_event ?hg (N := 2) ?hd (cs := #[.int .i64 a0_0, .slice A0_1 l0_1.length c0_1]) (t := 24) ?hr ?_; (case hd => rfl); (case hg => rfl); (case hr => first | (go_simp; done) | (go_simp; rfl)); intro g2 hg2 wa hbox hb; have HXa := zz31 hbox; have HBa := zz31 (zz4 (w := w) (by repeat (first | exact Below.refl _ _ | apply zz0 | apply below_drew | apply zz2)) hb); clear hbox hb hg2) | ((with_reducible refine gate_dst (N := 3) rfl ?_); refine box_event ?hg (N := 3) ?hd (cs := #[.int .i64 a1_0, .slice A1_1 l1_1.length c1_1]) (t := 24) ?hr ?_; (case hd => rfl); (case hg => rfl); (case hr => first | (go_simp; done) | (go_simp; rfl)); intro g3 hg3 wb hbox hb; have HZb := zz31 (show laws_FnExactTogetherParty.St w wb ⟨g2, g3, wb.heap.size, a0_0, A0_1, l0_1.length, c0_1, a1_0, A1_1, l1_1.length, c1_1⟩ [] from ⟨zz11 HXa.out hb, hbox, zz4 HBa.out hb, Nat.lt_of_lt_of_le (blk_lt HXa.out) hb.size, blk_lt hbox, (zz4 HBa.out hb).size, Nat.le_refl _, (fun i hi => nomatch hi), (fun i hi => nomatch hi), List.Pairwise.nil⟩); have f1 : wb.cell? ⟨g2, 0, none⟩ = some (.int .i64 a0_0) := zz9 HZb.out.b2 0; have f2 : wb.cell? ⟨g2, 1, none⟩ = some (.slice A0_1 l0_1.length c0_1) := zz9 HZb.out.b2 1; have f3 : wb.cell? ⟨g3, 0, none⟩ = some (.int .i64 a1_0) := zz9 HZb.out.b3 0; have f4 : wb.cell? ⟨g3, 1, none⟩ = some (.slice A1_1 l1_1.length c1_1) := zz9 HZb.out.b3 1; clear hbox hb hg3) | (go_at_call 12; (with_reducible refine (laws_szParty.calls a0_0 A0_1 c0_1 l0_1 1048576 s1 wb (Kd.C_below HC0.out HZb.out.bel) HCC0.out HSZ1.out).mono ?_); rintro e wc ⟨rfl, hb⟩; have HZc := zz31 (HZb.out.below hb); clear hb f1 f2 f3 f4; have f1 : wc.cell? ⟨g2, 0, none⟩ = some (.int .i64 a0_0) := zz9 HZc.out.b2 0; have f2 : wc.cell? ⟨g2, 1, none⟩ = some (.slice A0_1 l0_1.length c0_1) := zz9 HZc.out.b2 1; have f3 : wc.cell? ⟨g3, 0, none⟩ = some (.int .i64 a1_0) := zz9 HZc.out.b3 0; have f4 : wc.cell? ⟨g3, 1, none⟩ = some (.slice A1_1 l1_1.length c1_1) := zz9 HZc.out.b3 1) | (fail "no arm"))
  refine bodyPost_ret (results_tmp rfl _ _ _) rfl ?_
  exact ⟨rfl,by repeat first | exact HZc.out.bel | apply zz0 | apply below_drew⟩
 rw [if_neg hneg] at h
 have hd:decide (s1 < 0)=false:=decide_eq_false hneg
 replace h:=zz30.1 h
 obtain ⟨s2,hs2,h⟩:=h
 have HSZ2:=zz31 hs2
 clear hs2 hneg
 by_cases hneg:s2 < 0
 ·rw [if_pos hneg] at h
  injection h with h
  subst h
  have hd0:decide (s2 < 0)=true:=decide_eq_true hneg
  go_enter Try.func7,Try.ntmps7
  go_wp2_with (first | ((with_reducible refine gate_dst (N := 2) rfl ?_); refine box_event ?hg (N := 2) ?hd (cs := #[.int .i64 a0_0, .slice A0_1 l0_1.length c0_1]) (t := 24) ?hr ?_; (case hd => rfl); (case hg => rfl); (case hr => first | (go_simp; done) | (go_simp; rfl)); intro g2 hg2 wa hbox hb; have HXa := zz31 hbox; have HBa := zz31 (zz4 (w := w) (by repeat (first | exact Below.refl _ _ | apply zz0 | apply below_drew | apply zz2)) hb); clear hbox hb hg2) | ((with_reducible refine gate_dst (N := 3) rfl ?_); refine box_event ?hg (N := 3) ?hd (cs := #[.int .i64 a1_0, .slice A1_1 l1_1.length c1_1]) (t := 24) ?hr ?_; (case hd => rfl); (case hg => rfl); (case hr => first | (go_simp; done) | (go_simp; rfl)); intro g3 hg3 wb hbox hb; have HZb := zz31 (show laws_FnExactTogetherParty.St w wb ⟨g2, g3, wb.heap.size, a0_0, A0_1, l0_1.length, c0_1, a1_0, A1_1, l1_1.length, c1_1⟩ [] from ⟨zz11 HXa.out hb, hbox, zz4 HBa.out hb, Nat.lt_of_lt_of_le (blk_lt HXa.out) hb.size, blk_lt hbox, (zz4 HBa.out hb).size, Nat.le_refl _, (fun i hi => nomatch hi), (fun i hi => nomatch hi), List.Pairwise.nil⟩); have f1 : wb.cell? ⟨g2, 0, none⟩ = some (.int .i64 a0_0) := zz9 HZb.out.b2 0; have f2 : wb.cell? ⟨g2, 1, none⟩ = some (.slice A0_1 l0_1.length c0_1) := zz9 HZb.out.b2 1; have f3 : wb.cell? ⟨g3, 0, none⟩ = some (.int .i64 a1_0) := zz9 HZb.out.b3 0; have f4 : wb.cell? ⟨g3, 1, none⟩ = some (.slice A1_1 l1_1.length c1_1) := zz9 HZb.out.b3 1; clear hbox hb hg3) | (go_at_call 12; (with_reducible refine (laws_szParty.calls a0_0 A0_1 c0_1 l0_1 1048576 s1 wb (Kd.C_below HC0.out HZb.out.bel) HCC0.out HSZ1.out).mono ?_); rintro e wc ⟨rfl, hb⟩; have HZc := zz31 (HZb.out.below hb); clear hb f1 f2 f3 f4; have f1 : wc.cell? ⟨g2, 0, none⟩ = some (.int .i64 a0_0) := zz9 HZc.out.b2 0; have f2 : wc.cell? ⟨g2, 1, none⟩ = some (.slice A0_1 l0_1.length c0_1) := zz9 HZc.out.b2 1; have f3 : wc.cell? ⟨g3, 0, none⟩ = some (.int .i64 a1_0) := zz9 HZc.out.b3 0; have f4 : wc.cell? ⟨g3, 1, none⟩ = some (.slice A1_1 l1_1.length c1_1) := zz9 HZc.out.b3 1) | (go_at_call 12; (with_reducible refine (laws_szParty.calls a1_0 A1_1 c1_1 l1_1 s1 s2 wc (Kd.C_below HC1.out HZc.out.bel) HCC1.out HSZ2.out).mono ?_); rintro e wd ⟨rfl, hb⟩; have HZd := zz31 (HZc.out.below hb); clear hb f1 f2 f3 f4) | (fail "no arm"))
  refine bodyPost_ret (results_tmp rfl _ _ _) rfl ?_
  exact ⟨rfl,by repeat first | exact HZd.out.bel | apply zz0 | apply below_drew⟩
 rw [if_neg hneg] at h
 have hd0:decide (s2 < 0)=false:=decide_eq_false hneg
 clear hneg
 replace h:=zz30.1 h
 obtain ⟨⟨p1,p2⟩,hp,h⟩:=h
 replace h:=zz30.1 h
 obtain ⟨⟨q1,q2⟩,hq0,h⟩:=h
 replace h:=zz30.1 h
 obtain ⟨⟨W1,W2,W3⟩,hw,h⟩:=h
 replace h:=zz30.1 h
 obtain ⟨⟨G1,G2,G3⟩,hg,h⟩:=h
 replace h:=zz30.1 h
 obtain ⟨e1,he1,h⟩:=h
 replace h:=zz30.1 h
 obtain ⟨e2,he2,h⟩:=h
 replace h:=zz30.1 h
 obtain ⟨e3,he3,h⟩:=h
 replace h:=zz30.1 h
 obtain ⟨⟨m1,m2⟩,hmp,h⟩:=h
 replace h:=zz30.1 h
 obtain ⟨⟨n1,n2⟩,hmq,h⟩:=h
 replace h:=zz30.1 h
 obtain ⟨⟨t1,t2⟩,hmg,h⟩:=h
 replace h:=zz30.1 h
 obtain ⟨hq,hhq,h⟩:=h
 dsimp only at hw hg he1 he2 he3 hmp hmq hmg hhq h
 by_cases hc:(e1=true∧G3=W3∧e2=true∧e3=true)∧0≤n1∧0≤hq∧hq=t1
 case neg=>rw [if_neg hc] at h;exact absurd h (by simp)
 rw [if_pos hc] at h
 injection h with h
 subst h
 obtain ⟨⟨rfl,rfl,rfl,rfl⟩,hn0,hq0_,rfl⟩:=hc
 have HP:=zz31 hp
 have HQ:=zz31 hq0
 have HW:=zz31 hw
 have HG:=zz31 hg
 have HE1:=zz31 he1
 have HE2:=zz31 he2
 have HE3:=zz31 he3
 have HMP:=zz31 hmp
 have HMQ:=zz31 hmq
 have HMG:=zz31 hmg
 have HHQ:=zz31 hhq
 have hd1:decide (n1 < 0)=false:=decide_eq_false (by omega)
 have hd2:decide (hq < 0)=false:=decide_eq_false (by omega)
 clear hp hq0 hw hg he1 he2 he3 hmp hmq hmg hhq hn0 hq0_
 go_enter Try.func7,Try.ntmps7
 go_upto_region 8 with (first | ((with_reducible refine gate_dst (N := 2) rfl ?_); refine box_event ?hg (N := 2) ?hd (cs := #[.int .i64 a0_0, .slice A0_1 l0_1.length c0_1]) (t := 24) ?hr ?_; (case hd => rfl); (case hg => rfl); (case hr => first | (go_simp; done) | (go_simp; rfl)); intro g2 hg2 wa hbox hb; have HXa := zz31 hbox; have HBa := zz31 (zz4 (w := w) (by repeat (first | exact Below.refl _ _ | apply zz0 | apply below_drew | apply zz2)) hb); clear hbox hb hg2) | ((with_reducible refine gate_dst (N := 3) rfl ?_); refine box_event ?hg (N := 3) ?hd (cs := #[.int .i64 a1_0, .slice A1_1 l1_1.length c1_1]) (t := 24) ?hr ?_; (case hd => rfl); (case hg => rfl); (case hr => first | (go_simp; done) | (go_simp; rfl)); intro g3 hg3 wb hbox hb; have HZb := zz31 (show laws_FnExactTogetherParty.St w wb ⟨g2, g3, wb.heap.size, a0_0, A0_1, l0_1.length, c0_1, a1_0, A1_1, l1_1.length, c1_1⟩ [] from ⟨zz11 HXa.out hb, hbox, zz4 HBa.out hb, Nat.lt_of_lt_of_le (blk_lt HXa.out) hb.size, blk_lt hbox, (zz4 HBa.out hb).size, Nat.le_refl _, (fun i hi => nomatch hi), (fun i hi => nomatch hi), List.Pairwise.nil⟩); have f1 : wb.cell? ⟨g2, 0, none⟩ = some (.int .i64 a0_0) := zz9 HZb.out.b2 0; have f2 : wb.cell? ⟨g2, 1, none⟩ = some (.slice A0_1 l0_1.length c0_1) := zz9 HZb.out.b2 1; have f3 : wb.cell? ⟨g3, 0, none⟩ = some (.int .i64 a1_0) := zz9 HZb.out.b3 0; have f4 : wb.cell? ⟨g3, 1, none⟩ = some (.slice A1_1 l1_1.length c1_1) := zz9 HZb.out.b3 1; clear hbox hb hg3) | (go_at_call 12; (with_reducible refine (laws_szParty.calls a0_0 A0_1 c0_1 l0_1 1048576 s1 wb (Kd.C_below HC0.out HZb.out.bel) HCC0.out HSZ1.out).mono ?_); rintro e wc ⟨rfl, hb⟩; have HZc := zz31 (HZb.out.below hb); clear hb f1 f2 f3 f4; have f1 : wc.cell? ⟨g2, 0, none⟩ = some (.int .i64 a0_0) := zz9 HZc.out.b2 0; have f2 : wc.cell? ⟨g2, 1, none⟩ = some (.slice A0_1 l0_1.length c0_1) := zz9 HZc.out.b2 1; have f3 : wc.cell? ⟨g3, 0, none⟩ = some (.int .i64 a1_0) := zz9 HZc.out.b3 0; have f4 : wc.cell? ⟨g3, 1, none⟩ = some (.slice A1_1 l1_1.length c1_1) := zz9 HZc.out.b3 1) | (go_at_call 12; (with_reducible refine (laws_szParty.calls a1_0 A1_1 c1_1 l1_1 s1 s2 wc (Kd.C_below HC1.out HZc.out.bel) HCC1.out HSZ2.out).mono ?_); rintro e wd ⟨rfl, hb⟩; have HZd := zz31 (HZc.out.below hb); clear hb f1 f2 f3 f4) | (fail "no arm"))
 go_cut [6,7] from 17 (fun va vb wq=>∃ (g6:Nat) (A6:Option Addr) (c6 lo6 hi6:Nat),va=.pointer (some ⟨g6,0,none⟩)∧vb=.bool G3∧Aside0 (laws_FnExactTogetherParty.St w wq ⟨g2,g3,wb.heap.size,a0_0,A0_1,l0_1.length,c0_1,a1_0,A1_1,l1_1.length,c1_1⟩ [⟨lo6,hi6,g6,W1,A6,c6,W2⟩]))
 case first =>
  have o2:g2 < wd.heap.size:=Nat.lt_of_lt_of_le HZd.out.l2 HZd.out.ls
  have o3:g3 < wd.heap.size:=Nat.lt_of_lt_of_le HZd.out.l3 HZd.out.ls
  have f1:wd.cell? ⟨g2,0,none⟩=some (.int .i64 a0_0):=zz9 HZd.out.b2 0
  have f2:wd.cell? ⟨g2,1,none⟩=some (.slice A0_1 l0_1.length c0_1):=zz9 HZd.out.b2 1
  have f3:wd.cell? ⟨g3,0,none⟩=some (.int .i64 a1_0):=zz9 HZd.out.b3 0
  have f4:wd.cell? ⟨g3,1,none⟩=some (.slice A1_1 l1_1.length c1_1):=zz9 HZd.out.b3 1
  go_region_held3 (fun w' => (w'.cell? ⟨g2, 0, none⟩ = some (.int .i64 a0_0) ∧ w'.cell? ⟨g2, 1, none⟩ = some (.slice A0_1 l0_1.length c0_1)) ∧ w'.cell? ⟨g3, 0, none⟩ = some (.int .i64 a1_0) ∧ w'.cell? ⟨g3, 1, none⟩ = some (.slice A1_1 l1_1.length c1_1)) (first | go_keep | exact ⟨⟨zz9 HTs.out.b2 0, zz9 HTs.out.b2 1⟩, zz9 HTs.out.b3 0, zz9 HTs.out.b3 1⟩ | exact ⟨⟨zz9 HTp.out.b2 0, zz9 HTp.out.b2 1⟩, zz9 HTp.out.b3 0, zz9 HTp.out.b3 1⟩ | exact ⟨⟨zz9 HTq.out.b2 0, zz9 HTq.out.b2 1⟩, zz9 HTq.out.b3 0, zz9 HTq.out.b3 1⟩ | exact ⟨⟨zz9 (zz8 HTs.out.b2 _) 0, zz9 (zz8 HTs.out.b2 _) 1⟩, zz9 (zz8 HTs.out.b3 _) 0, zz9 (zz8 HTs.out.b3 _) 1⟩ | exact ⟨⟨zz9 (blk_far (blk_far HTs.out.b2 (by dsimp only; omega) _) (by dsimp only; omega) _) 0, zz9 (blk_far (blk_far HTs.out.b2 (by dsimp only; omega) _) (by dsimp only; omega) _) 1⟩, zz9 (blk_far (blk_far HTs.out.b3 (by dsimp only; omega) _) (by dsimp only; omega) _) 0, zz9 (blk_far (blk_far HTs.out.b3 (by dsimp only; omega) _) (by dsimp only; omega) _) 1⟩) (first | (go_at_call 14; (with_reducible refine (laws_toParty.calls k a0_0 A0_1 c0_1 l0_1 p1 p2 _ ?_ HCC0.out HP.out).mono ?_); (repeat (first | exact (Kd.C_below HC0.out HZd.out.bel) | exact (Kd.C_below HC0.out HTq.out.bel) | (with_reducible refine zz18 ?_ _) | (with_reducible refine zz19 ?_ _) | (with_reducible refine zz20 ?_))); rintro e wp ⟨vp, rfl, ho, hb⟩; obtain ⟨Ap, cp, rfl⟩ := Kd.R_slice ho; have oP : wd.heap.size ≤ wp.heap.size := (by first | exact hb.size | (have h9 := hb.size; omega) | (have h9 := hb.size; simp at h9; omega)); have HBp := zz31 (zz4 (w := wd) (by repeat (first | exact Below.refl _ _ | exact HBp.out | exact HBq.out | apply zz0 | apply below_drew | apply zz2)) hb); have HTp := zz31 (HZd.out.below HBp.out); have HPn := zz31 (Kd.R_reads' ho).2; have HK := (fun (g : Nat) (o : Obj) (hg : _) => zz11 (g := g) (o := o) hg hb); (first | (have HQ2 := zz31 (Kd.C_below (show Kd.C k80 _ Aq q2.length q2 from (by repeat (first | exact HQn.out.2 | (with_reducible refine zz18 ?_ _)))) hb)) | skip); (first | (have HMp := zz31 (HK wd.heap.size (.cells #[.int .i64 0, .slice none 0 0] 30) (by first | ((with_reducible repeat (first | refine zz6 ?_ _ | refine zz7 ?_)); exact blk_new _ _) | exact HMq.out))) | (have HMp := zz31 (HK wq.heap.size (.cells #[.int .i64 0, .slice none 0 0] 30) (by (with_reducible repeat (first | refine zz6 ?_ _ | refine zz7 ?_)); exact blk_new _ _))) | skip); clear ho hb HK) | (go_at_call 14; (with_reducible refine (laws_toParty.calls k a1_0 A1_1 c1_1 l1_1 q1 q2 _ ?_ HCC1.out HQ.out).mono ?_); (repeat (first | exact (Kd.C_below HC1.out HZd.out.bel) | exact (Kd.C_below HC1.out HTp.out.bel) | (with_reducible refine zz18 ?_ _) | (with_reducible refine zz19 ?_ _) | (with_reducible refine zz20 ?_))); rintro e wq ⟨vq, rfl, ho, hb⟩; obtain ⟨Aq, cq, rfl⟩ := Kd.R_slice ho; have oQ : wd.heap.size ≤ wq.heap.size := (by first | exact hb.size | (have h9 := hb.size; omega) | (have h9 := hb.size; simp at h9; omega)); have HBq := zz31 (zz4 (w := wd) (by repeat (first | exact Below.refl _ _ | exact HBp.out | exact HBq.out | apply zz0 | apply below_drew | apply zz2)) hb); have HTq := zz31 (HZd.out.below HBq.out); have HQn := zz31 (Kd.R_reads' ho).2; have HK := (fun (g : Nat) (o : Obj) (hg : _) => zz11 (g := g) (o := o) hg hb); (first | (have HP2 := zz31 (Kd.C_below (show Kd.C k80 _ Ap p2.length p2 from (by repeat (first | exact HPn.out.2 | (with_reducible refine zz18 ?_ _)))) hb)) | skip); (first | (have HMq := zz31 (HK wd.heap.size (.cells #[.int .i64 0, .slice none 0 0] 30) (by first | ((with_reducible repeat (first | refine zz6 ?_ _ | refine zz7 ?_)); exact blk_new _ _) | exact HMp.out))) | (have HMq := zz31 (HK wp.heap.size (.cells #[.int .i64 0, .slice none 0 0] 30) (by (with_reducible repeat (first | refine zz6 ?_ _ | refine zz7 ?_)); exact blk_new _ _))) | skip); clear ho hb HK) | (go_at_call 30; (with_reducible refine (spec_TogetherParty.calls k p1 Ap cp p2 q1 Aq cq q2 W1 W2 G3 _ ?_ HPn.out.1 ?_ HQn.out.1 HW.out).mono ?_); (repeat (first | exact HP2.out | exact HPn.out.2 | (with_reducible refine zz18 ?_ _))); (repeat (first | exact HQ2.out | exact HQn.out.2 | (with_reducible refine zz18 ?_ _))); rintro e ws ⟨vs, rfl, ho, hb⟩; obtain ⟨As, cs, rfl⟩ := Kd.R_slice ho; have oS : wd.heap.size ≤ ws.heap.size := (by first | exact hb.size | (have h9 := hb.size; omega) | (have h9 := hb.size; simp at h9; omega)); have HBs := zz31 (zz4 (w := wd) (by repeat (first | exact Below.refl _ _ | exact HBp.out | exact HBq.out | apply zz0 | apply below_drew | apply zz2)) hb); have HTs := zz31 (HZd.out.below HBs.out); have HRs := zz31 (Kd.R_lower ho (show wd.heap.size ≤ _ from (by first | exact oP | exact oQ | (simp; omega)))); have HK := (fun (g : Nat) (o : Obj) (hg : _) => zz11 (g := g) (o := o) hg hb); (first | (have HMs := zz31 (HK wd.heap.size (.cells #[.int .i64 0, .slice none 0 0] 30) (by first | exact HMp.out | exact HMq.out)); have u1 := zz9 HMs.out 0; have u2 := zz9 HMs.out 1; simp only [List.getElem?_toArray, List.getElem?_cons_zero, List.getElem?_cons_succ] at u1 u2; have u3 := zz10 HMs.out 0; have u4 := zz10 HMs.out 1) | (have HMs := zz31 (HK wp.heap.size (.cells #[.int .i64 0, .slice none 0 0] 30) (by first | ((with_reducible repeat (first | refine zz6 ?_ _ | refine zz7 ?_)); exact blk_new _ _) | exact HMq.out)); have u1 := zz9 HMs.out 0; have u2 := zz9 HMs.out 1; simp only [List.getElem?_toArray, List.getElem?_cons_zero, List.getElem?_cons_succ] at u1 u2; have u3 := zz10 HMs.out 0; have u4 := zz10 HMs.out 1) | (have HMs := zz31 (HK wq.heap.size (.cells #[.int .i64 0, .slice none 0 0] 30) (by first | ((with_reducible repeat (first | refine zz6 ?_ _ | refine zz7 ?_)); exact blk_new _ _) | exact HMp.out)); have u1 := zz9 HMs.out 0; have u2 := zz9 HMs.out 1; simp only [List.getElem?_toArray, List.getElem?_cons_zero, List.getElem?_cons_succ] at u1 u2; have u3 := zz10 HMs.out 0; have u4 := zz10 HMs.out 1) | skip); clear ho hb HK) | (fail "no arm"))
  all_goals
   go_wp2_with fail
   go_meet
   case rel=>first | exact ⟨_,As,cs,_,_,rfl,rfl,⟨laws_FnExactTogetherParty.St.add1 HZd.out HBs.out HMs.out HRs.out (by omega)⟩⟩ | exact ⟨_,As,cs,_,_,rfl,rfl,⟨laws_FnExactTogetherParty.St.add2 HZd.out HBs.out HRs.out⟩⟩
 case rest =>
  obtain ⟨g6,A6,c6,lo6,hi6,rfl,rfl,HZ6⟩:=hcut
  obtain ⟨w6,hw6⟩:∃ w6:World,w6=wc:=⟨_,rfl⟩
  subst hw6
  have f1:w6.cell? ⟨g2,0,none⟩=some (.int .i64 a0_0):=zz9 HZ6.out.b2 0
  have f2:w6.cell? ⟨g2,1,none⟩=some (.slice A0_1 l0_1.length c0_1):=zz9 HZ6.out.b2 1
  have f3:w6.cell? ⟨g3,0,none⟩=some (.int .i64 a1_0):=zz9 HZ6.out.b3 0
  have f4:w6.cell? ⟨g3,1,none⟩=some (.slice A1_1 l1_1.length c1_1):=zz9 HZ6.out.b3 1
  go_upto_region 10 with (first | (go_at_call 14; (with_reducible refine (laws_toParty.calls k a0_0 A0_1 c0_1 l0_1 p1 p2 w6 (Kd.C_below HC0.out HZ6.out.bel) HCC0.out HP.out).mono ?_); rintro e we ⟨ve, rfl, ho, hb⟩; obtain ⟨A8, c8, rfl⟩ := Kd.R_slice ho; have HRe := zz31 ho; have HBe := zz31 hb; clear ho hb) | ((with_reducible refine gate_dst (N := 8) rfl ?_); refine box_event ?hg (N := 8) ?hd (cs := #[.int .i64 0, .slice none 0 0]) (t := 30) ?hr ?_; (case hd => rfl); (case hg => rfl); (case hr => first | (go_simp; done) | (go_simp; rfl)); intro g8 hg wf hbox hb; have HXf := zz31 hbox; have HBf := zz31 (zz4 HBe.out hb); have HRf := zz31 (Kd.R_below HRe.out hb); have HGf := zz31 (show w6.heap.size ≤ g8 from by rw [hg]; exact HBe.out.size); have u1 := zz9 HXf.out 0; have u2 := zz9 HXf.out 1; simp only [List.getElem?_toArray, List.getElem?_cons_zero, List.getElem?_cons_succ] at u1 u2; have u3 := zz10 HXf.out 0; have u4 := zz10 HXf.out 1; clear hbox hb hg) | (fail "no arm"))
  clear f1 f2 f3 f4
  obtain ⟨lo8,hi8,HZ8⟩:∃ lo8 hi8:Nat,Aside0 (laws_FnExactTogetherParty.St w ((wf.setCell ⟨g8,0,none⟩ (.int .i64 p1)).setCell ⟨g8,1,none⟩ (.slice A8 p2.length c8)) ⟨g2,g3,wb.heap.size,a0_0,A0_1,l0_1.length,c0_1,a1_0,A1_1,l1_1.length,c1_1⟩ [⟨lo8,hi8,g8,p1,A8,c8,p2⟩,⟨lo6,hi6,g6,W1,A6,c6,W2⟩]):=⟨_,_,⟨laws_FnExactTogetherParty.St.add1 HZ6.out HBf.out HXf.out HRf.out HGf.out⟩⟩
  clear u1 u2 u3 u4 HXf HBf HRf HGf HRe HBe
  generalize ((wf.setCell ⟨g8,0,none⟩ (.int .i64 p1)).setCell ⟨g8,1,none⟩ (.slice A8 p2.length c8))=w8 at HZ8 ⊢
  have f1:w8.cell? ⟨g2,0,none⟩=some (.int .i64 a0_0):=zz9 HZ8.out.b2 0
  have f2:w8.cell? ⟨g2,1,none⟩=some (.slice A0_1 l0_1.length c0_1):=zz9 HZ8.out.b2 1
  have f3:w8.cell? ⟨g3,0,none⟩=some (.int .i64 a1_0):=zz9 HZ8.out.b3 0
  have f4:w8.cell? ⟨g3,1,none⟩=some (.slice A1_1 l1_1.length c1_1):=zz9 HZ8.out.b3 1
  go_upto_region 11 with (first | (go_at_call 14; (with_reducible refine (laws_toParty.calls k a1_0 A1_1 c1_1 l1_1 q1 q2 w8 (Kd.C_below HC1.out HZ8.out.bel) HCC1.out HQ.out).mono ?_); rintro e we ⟨ve, rfl, ho, hb⟩; obtain ⟨A9, c9, rfl⟩ := Kd.R_slice ho; have HRe := zz31 ho; have HBe := zz31 hb; clear ho hb) | ((with_reducible refine gate_dst (N := 9) rfl ?_); refine box_event ?hg (N := 9) ?hd (cs := #[.int .i64 0, .slice none 0 0]) (t := 30) ?hr ?_; (case hd => rfl); (case hg => rfl); (case hr => first | (go_simp; done) | (go_simp; rfl)); intro g9 hg wf hbox hb; have HXf := zz31 hbox; have HBf := zz31 (zz4 HBe.out hb); have HRf := zz31 (Kd.R_below HRe.out hb); have HGf := zz31 (show w8.heap.size ≤ g9 from by rw [hg]; exact HBe.out.size); have u1 := zz9 HXf.out 0; have u2 := zz9 HXf.out 1; simp only [List.getElem?_toArray, List.getElem?_cons_zero, List.getElem?_cons_succ] at u1 u2; have u3 := zz10 HXf.out 0; have u4 := zz10 HXf.out 1; clear hbox hb hg) | (fail "no arm"))
  clear f1 f2 f3 f4
  obtain ⟨lo9,hi9,HZ9⟩:∃ lo9 hi9:Nat,Aside0 (laws_FnExactTogetherParty.St w ((wf.setCell ⟨g9,0,none⟩ (.int .i64 q1)).setCell ⟨g9,1,none⟩ (.slice A9 q2.length c9)) ⟨g2,g3,wb.heap.size,a0_0,A0_1,l0_1.length,c0_1,a1_0,A1_1,l1_1.length,c1_1⟩ [⟨lo9,hi9,g9,q1,A9,c9,q2⟩,⟨lo8,hi8,g8,p1,A8,c8,p2⟩,⟨lo6,hi6,g6,W1,A6,c6,W2⟩]):=⟨_,_,⟨laws_FnExactTogetherParty.St.add1 HZ8.out HBf.out HXf.out HRf.out HGf.out⟩⟩
  clear u1 u2 u3 u4 HXf HBf HRf HGf HRe HBe
  generalize ((wf.setCell ⟨g9,0,none⟩ (.int .i64 q1)).setCell ⟨g9,1,none⟩ (.slice A9 q2.length c9))=w9 at HZ9 ⊢
  have x1:w9.cell? ⟨g8,0,none⟩=some (.int .i64 p1):=zz9 (HZ9.out.its _ (List.mem_cons_of_mem _ List.mem_cons_self)).box 0
  have x2:w9.cell? ⟨g8,1,none⟩=some (.slice A8 p2.length c8):=zz9 (HZ9.out.its _ (List.mem_cons_of_mem _ List.mem_cons_self)).box 1
  have y1:w9.cell? ⟨g9,0,none⟩=some (.int .i64 q1):=zz9 (HZ9.out.its _ List.mem_cons_self).box 0
  have y2:w9.cell? ⟨g9,1,none⟩=some (.slice A9 q2.length c9):=zz9 (HZ9.out.its _ List.mem_cons_self).box 1
  go_upto_region 12 with (first | (go_at_call 31; (with_reducible refine (impl_TogetherParty.calls k p1 A8 c8 p2 q1 A9 c9 q2 G1 G2 G3 w9 (Kd.R_reads' (HZ9.out.its _ (List.mem_cons_of_mem _ List.mem_cons_self)).row).2.2 (Kd.R_reads' (HZ9.out.its _ (List.mem_cons_of_mem _ List.mem_cons_self)).row).2.1 (Kd.R_reads' (HZ9.out.its _ List.mem_cons_self).row).2.2 (Kd.R_reads' (HZ9.out.its _ List.mem_cons_self).row).2.1 HG.out).mono ?_); rintro e we ⟨ve, rfl, ho, hb⟩; obtain ⟨A10, c10, rfl⟩ := Kd.R_slice ho; have HRe := zz31 ho; have HBe := zz31 hb; clear ho hb) | ((with_reducible refine gate_dst (N := 10) rfl ?_); refine box_event ?hg (N := 10) ?hd (cs := #[.int .i64 0, .slice none 0 0]) (t := 30) ?hr ?_; (case hd => rfl); (case hg => rfl); (case hr => first | (go_simp; done) | (go_simp; rfl)); intro g10 hg wf hbox hb; have HXf := zz31 hbox; have HBf := zz31 (zz4 HBe.out hb); have HRf := zz31 (Kd.R_below HRe.out hb); have HGf := zz31 (show w9.heap.size ≤ g10 from by rw [hg]; exact HBe.out.size); have u1 := zz9 HXf.out 0; have u2 := zz9 HXf.out 1; simp only [List.getElem?_toArray, List.getElem?_cons_zero, List.getElem?_cons_succ] at u1 u2; have u3 := zz10 HXf.out 0; have u4 := zz10 HXf.out 1; clear hbox hb hg) | (fail "no arm"))
  clear x1 x2 y1 y2
  obtain ⟨lo10,hi10,HZ10⟩:∃ lo10 hi10:Nat,Aside0 (laws_FnExactTogetherParty.St w ((wf.setCell ⟨g10,0,none⟩ (.int .i64 G1)).setCell ⟨g10,1,none⟩ (.slice A10 G2.length c10)) ⟨g2,g3,wb.heap.size,a0_0,A0_1,l0_1.length,c0_1,a1_0,A1_1,l1_1.length,c1_1⟩ [⟨lo10,hi10,g10,G1,A10,c10,G2⟩,⟨lo9,hi9,g9,q1,A9,c9,q2⟩,⟨lo8,hi8,g8,p1,A8,c8,p2⟩,⟨lo6,hi6,g6,W1,A6,c6,W2⟩]):=⟨_,_,⟨laws_FnExactTogetherParty.St.add1 HZ9.out HBf.out HXf.out HRf.out HGf.out⟩⟩
  clear u1 u2 u3 u4 HXf HBf HRf HGf HRe HBe
  generalize ((wf.setCell ⟨g10,0,none⟩ (.int .i64 G1)).setCell ⟨g10,1,none⟩ (.slice A10 G2.length c10))=w10 at HZ10 ⊢
  have x1:w10.cell? ⟨g10,0,none⟩=some (.int .i64 G1):=zz9 (HZ10.out.its _ List.mem_cons_self).box 0
  have x2:w10.cell? ⟨g10,1,none⟩=some (.slice A10 G2.length c10):=zz9 (HZ10.out.its _ List.mem_cons_self).box 1
  have y1:w10.cell? ⟨g6,0,none⟩=some (.int .i64 W1):=zz9 (HZ10.out.its _ (List.mem_cons_of_mem _ (List.mem_cons_of_mem _ (List.mem_cons_of_mem _ List.mem_cons_self)))).box 0
  have y2:w10.cell? ⟨g6,1,none⟩=some (.slice A6 W2.length c6):=zz9 (HZ10.out.its _ (List.mem_cons_of_mem _ (List.mem_cons_of_mem _ (List.mem_cons_of_mem _ List.mem_cons_self)))).box 1
  go_upto_region 14 with (first | (go_at_call 16; (with_reducible refine (laws_eqParty.calls k G1 A10 c10 G2 W1 A6 c6 W2 true w10 (Kd.R_reads' (HZ10.out.its _ List.mem_cons_self).row).2.2 (Kd.R_reads' (HZ10.out.its _ List.mem_cons_self).row).2.1 (Kd.R_reads' (HZ10.out.its _ (List.mem_cons_of_mem _ (List.mem_cons_of_mem _ (List.mem_cons_of_mem _ List.mem_cons_self)))).row).2.2 (Kd.R_reads' (HZ10.out.its _ (List.mem_cons_of_mem _ (List.mem_cons_of_mem _ (List.mem_cons_of_mem _ List.mem_cons_self)))).row).2.1 HE1.out).mono ?_); rintro e w11 ⟨rfl, hb⟩; have HZ_w11 := zz31 (HZ10.out.below hb); clear hb) | (fail "no arm"))
  clear x1 x2 y1 y2
  have f1:w11.cell? ⟨g2,0,none⟩=some (.int .i64 a0_0):=zz9 HZ_w11.out.b2 0
  have f2:w11.cell? ⟨g2,1,none⟩=some (.slice A0_1 l0_1.length c0_1):=zz9 HZ_w11.out.b2 1
  have f3:w11.cell? ⟨g3,0,none⟩=some (.int .i64 a1_0):=zz9 HZ_w11.out.b3 0
  have f4:w11.cell? ⟨g3,1,none⟩=some (.slice A1_1 l1_1.length c1_1):=zz9 HZ_w11.out.b3 1
  have x1:w11.cell? ⟨g8,0,none⟩=some (.int .i64 p1):=zz9 (HZ_w11.out.its _ (List.mem_cons_of_mem _ (List.mem_cons_of_mem _ List.mem_cons_self))).box 0
  have x2:w11.cell? ⟨g8,1,none⟩=some (.slice A8 p2.length c8):=zz9 (HZ_w11.out.its _ (List.mem_cons_of_mem _ (List.mem_cons_of_mem _ List.mem_cons_self))).box 1
  go_region_held3 (fun w' => (w'.cell? ⟨g2, 0, none⟩ = some (.int .i64 a0_0) ∧ w'.cell? ⟨g2, 1, none⟩ = some (.slice A0_1 l0_1.length c0_1)) ∧ w'.cell? ⟨g8, 0, none⟩ = some (.int .i64 p1) ∧ w'.cell? ⟨g8, 1, none⟩ = some (.slice A8 p2.length c8)) (first | go_keep | exact ⟨⟨zz9 HZ_w13.out.b2 0, zz9 HZ_w13.out.b2 1⟩, zz9 (HZ_w13.out.its _ (List.mem_cons_of_mem _ (List.mem_cons_of_mem _ List.mem_cons_self))).box 0, zz9 (HZ_w13.out.its _ (List.mem_cons_of_mem _ (List.mem_cons_of_mem _ List.mem_cons_self))).box 1⟩ | exact ⟨⟨zz9 HZ_w12.out.b2 0, zz9 HZ_w12.out.b2 1⟩, zz9 (HZ_w12.out.its _ (List.mem_cons_of_mem _ (List.mem_cons_of_mem _ List.mem_cons_self))).box 0, zz9 (HZ_w12.out.its _ (List.mem_cons_of_mem _ (List.mem_cons_of_mem _ List.mem_cons_self))).box 1⟩) (first | (go_at_call 14; (with_reducible refine (laws_toParty.calls k a0_0 A0_1 c0_1 l0_1 p1 p2 _ ?_ HCC0.out HP.out).mono ?_); (repeat (first | exact (Kd.C_below HC0.out HZ_w11.out.bel) | (with_reducible refine zz19 ?_ _) | (with_reducible refine zz20 ?_))); rintro e w12 ⟨vj, rfl, ho, hb⟩; obtain ⟨Aj, cj, rfl⟩ := Kd.R_slice ho; have HJ := zz31 (Kd.R_reads' ho).2; have HBj := zz31 (zz4 (w := w11) (by repeat (first | exact Below.refl _ _ | apply zz0 | apply below_drew | apply zz2)) hb); have HZ_w12 := zz31 (HZ_w11.out.below HBj.out); clear ho hb) | (go_at_call 16; (with_reducible refine (laws_eqParty.calls k p1 A8 c8 p2 p1 Aj cj p2 true w12 (Kd.R_reads' (HZ_w12.out.its _ (List.mem_cons_of_mem _ (List.mem_cons_of_mem _ List.mem_cons_self))).row).2.2 (Kd.R_reads' (HZ_w12.out.its _ (List.mem_cons_of_mem _ (List.mem_cons_of_mem _ List.mem_cons_self))).row).2.1 HJ.out.2 HJ.out.1 HE2.out).mono ?_); rintro e w13 ⟨rfl, hb⟩; have HZ_w13 := zz31 (HZ_w12.out.below hb); clear hb) | (fail "no arm"))
  clear f1 f2 f3 f4 x1 x2
  go_upto_region 16 with (fail)
  have f1:w13.cell? ⟨g2,0,none⟩=some (.int .i64 a0_0):=zz9 HZ_w13.out.b2 0
  have f2:w13.cell? ⟨g2,1,none⟩=some (.slice A0_1 l0_1.length c0_1):=zz9 HZ_w13.out.b2 1
  have f3:w13.cell? ⟨g3,0,none⟩=some (.int .i64 a1_0):=zz9 HZ_w13.out.b3 0
  have f4:w13.cell? ⟨g3,1,none⟩=some (.slice A1_1 l1_1.length c1_1):=zz9 HZ_w13.out.b3 1
  have x1:w13.cell? ⟨g9,0,none⟩=some (.int .i64 q1):=zz9 (HZ_w13.out.its _ (List.mem_cons_of_mem _ List.mem_cons_self)).box 0
  have x2:w13.cell? ⟨g9,1,none⟩=some (.slice A9 q2.length c9):=zz9 (HZ_w13.out.its _ (List.mem_cons_of_mem _ List.mem_cons_self)).box 1
  go_region_held3 (fun w' => (w'.cell? ⟨g3, 0, none⟩ = some (.int .i64 a1_0) ∧ w'.cell? ⟨g3, 1, none⟩ = some (.slice A1_1 l1_1.length c1_1)) ∧ w'.cell? ⟨g9, 0, none⟩ = some (.int .i64 q1) ∧ w'.cell? ⟨g9, 1, none⟩ = some (.slice A9 q2.length c9)) (first | go_keep | exact ⟨⟨zz9 HZ_w15.out.b3 0, zz9 HZ_w15.out.b3 1⟩, zz9 (HZ_w15.out.its _ (List.mem_cons_of_mem _ List.mem_cons_self)).box 0, zz9 (HZ_w15.out.its _ (List.mem_cons_of_mem _ List.mem_cons_self)).box 1⟩ | exact ⟨⟨zz9 HZ_w14.out.b3 0, zz9 HZ_w14.out.b3 1⟩, zz9 (HZ_w14.out.its _ (List.mem_cons_of_mem _ List.mem_cons_self)).box 0, zz9 (HZ_w14.out.its _ (List.mem_cons_of_mem _ List.mem_cons_self)).box 1⟩) (first | (go_at_call 14; (with_reducible refine (laws_toParty.calls k a1_0 A1_1 c1_1 l1_1 q1 q2 _ ?_ HCC1.out HQ.out).mono ?_); (repeat (first | exact (Kd.C_below HC1.out HZ_w13.out.bel) | (with_reducible refine zz19 ?_ _) | (with_reducible refine zz20 ?_))); rintro e w14 ⟨vj, rfl, ho, hb⟩; obtain ⟨Aj, cj, rfl⟩ := Kd.R_slice ho; have HJ := zz31 (Kd.R_reads' ho).2; have HBj := zz31 (zz4 (w := w13) (by repeat (first | exact Below.refl _ _ | apply zz0 | apply below_drew | apply zz2)) hb); have HZ_w14 := zz31 (HZ_w13.out.below HBj.out); clear ho hb) | (go_at_call 16; (with_reducible refine (laws_eqParty.calls k q1 A9 c9 q2 q1 Aj cj q2 true w14 (Kd.R_reads' (HZ_w14.out.its _ (List.mem_cons_of_mem _ List.mem_cons_self)).row).2.2 (Kd.R_reads' (HZ_w14.out.its _ (List.mem_cons_of_mem _ List.mem_cons_self)).row).2.1 HJ.out.2 HJ.out.1 HE3.out).mono ?_); rintro e w15 ⟨rfl, hb⟩; have HZ_w15 := zz31 (HZ_w14.out.below hb); clear hb) | (fail "no arm"))
  clear f1 f2 f3 f4 x1 x2
  have x1:w15.cell? ⟨g8,0,none⟩=some (.int .i64 p1):=zz9 (HZ_w15.out.its _ (List.mem_cons_of_mem _ (List.mem_cons_of_mem _ List.mem_cons_self))).box 0
  have x2:w15.cell? ⟨g8,1,none⟩=some (.slice A8 p2.length c8):=zz9 (HZ_w15.out.its _ (List.mem_cons_of_mem _ (List.mem_cons_of_mem _ List.mem_cons_self))).box 1
  have HTI:Aside0 (Kd.R k80 80 w15 w.heap.size (fun k=>some k=(Value.slice A8 p2.length c8).ownBlock) (Value.slice A8 p2.length c8) p2):=⟨Kd.R_tight rfl (HZ_w15.out.its _ (List.mem_cons_of_mem _ (List.mem_cons_of_mem _ List.mem_cons_self))).row⟩
  have HMA:Aside0 (∀ w2 ok,Kd.R k80 80 w2 w.heap.size ok (Value.slice A8 p2.length c8) m2→Below w.heap.size w w2→Kept w15 w2 (fun k=>some k=(Value.slice A8 p2.length c8).ownBlock)→laws_FnExactTogetherParty.St w w2 ⟨g2,g3,wb.heap.size,a0_0,A0_1,l0_1.length,c0_1,a1_0,A1_1,l1_1.length,c1_1⟩ [⟨lo10,hi10,g10,G1,A10,c10,G2⟩,⟨lo9,hi9,g9,q1,A9,c9,q2⟩,⟨lo8,hi8,g8,p1,A8,c8,m2⟩,⟨lo6,hi6,g6,W1,A6,c6,W2⟩]):=⟨fun w2 ok hR hB hK=>laws_FnExactTogetherParty.St.mark (L1:=[⟨lo10,hi10,g10,G1,A10,c10,G2⟩,⟨lo9,hi9,g9,q1,A9,c9,q2⟩]) (i:=⟨lo8,hi8,g8,p1,A8,c8,p2⟩) (L2:=[⟨lo6,hi6,g6,W1,A6,c6,W2⟩]) HZ_w15.out hR hB hK⟩
  go_upto_region 20 with (first | (go_at_call 20; (with_reducible refine (laws_markParty.calls k p1 (fun k => some k = (Value.slice A8 p2.length c8).ownBlock) (Value.slice A8 p2.length c8) p2 1 m1 m2 w w15 HZ_w15.out.bel HTI.out HMP.out).mono ?_); rintro e w16 ⟨rfl, hR, hB, hK⟩; have HZ_w16 := zz31 (HMA.out _ _ hR hB hK); clear hR hB hK) | (fail "no arm"))
  clear x1 x2
  have x1:w16.cell? ⟨g9,0,none⟩=some (.int .i64 q1):=zz9 (HZ_w16.out.its _ (List.mem_cons_of_mem _ List.mem_cons_self)).box 0
  have x2:w16.cell? ⟨g9,1,none⟩=some (.slice A9 q2.length c9):=zz9 (HZ_w16.out.its _ (List.mem_cons_of_mem _ List.mem_cons_self)).box 1
  have HTI:Aside0 (Kd.R k80 80 w16 w.heap.size (fun k=>some k=(Value.slice A9 q2.length c9).ownBlock) (Value.slice A9 q2.length c9) q2):=⟨Kd.R_tight rfl (HZ_w16.out.its _ (List.mem_cons_of_mem _ List.mem_cons_self)).row⟩
  have HMA:Aside0 (∀ w2 ok,Kd.R k80 80 w2 w.heap.size ok (Value.slice A9 q2.length c9) n2→Below w.heap.size w w2→Kept w16 w2 (fun k=>some k=(Value.slice A9 q2.length c9).ownBlock)→laws_FnExactTogetherParty.St w w2 ⟨g2,g3,wb.heap.size,a0_0,A0_1,l0_1.length,c0_1,a1_0,A1_1,l1_1.length,c1_1⟩ [⟨lo10,hi10,g10,G1,A10,c10,G2⟩,⟨lo9,hi9,g9,q1,A9,c9,n2⟩,⟨lo8,hi8,g8,p1,A8,c8,m2⟩,⟨lo6,hi6,g6,W1,A6,c6,W2⟩]):=⟨fun w2 ok hR hB hK=>laws_FnExactTogetherParty.St.mark (L1:=[⟨lo10,hi10,g10,G1,A10,c10,G2⟩]) (i:=⟨lo9,hi9,g9,q1,A9,c9,q2⟩) (L2:=[⟨lo8,hi8,g8,p1,A8,c8,m2⟩,⟨lo6,hi6,g6,W1,A6,c6,W2⟩]) HZ_w16.out hR hB hK⟩
  go_upto_region 21 with (first | (go_at_call 20; (with_reducible refine (laws_markParty.calls k q1 (fun k => some k = (Value.slice A9 q2.length c9).ownBlock) (Value.slice A9 q2.length c9) q2 m1 n1 n2 w w16 HZ_w16.out.bel HTI.out HMQ.out).mono ?_); rintro e w17 ⟨rfl, hR, hB, hK⟩; have HZ_w17 := zz31 (HMA.out _ _ hR hB hK); clear hR hB hK) | (fail "no arm"))
  clear x1 x2
  have x1:w17.cell? ⟨g10,0,none⟩=some (.int .i64 G1):=zz9 (HZ_w17.out.its _ List.mem_cons_self).box 0
  have x2:w17.cell? ⟨g10,1,none⟩=some (.slice A10 G2.length c10):=zz9 (HZ_w17.out.its _ List.mem_cons_self).box 1
  have y1:w17.cell? ⟨g6,0,none⟩=some (.int .i64 W1):=zz9 (HZ_w17.out.its _ (List.mem_cons_of_mem _ (List.mem_cons_of_mem _ (List.mem_cons_of_mem _ List.mem_cons_self)))).box 0
  have y2:w17.cell? ⟨g6,1,none⟩=some (.slice A6 W2.length c6):=zz9 (HZ_w17.out.its _ (List.mem_cons_of_mem _ (List.mem_cons_of_mem _ (List.mem_cons_of_mem _ List.mem_cons_self)))).box 1
  go_upto_region 24 with (first | (go_at_call 16; (with_reducible refine (laws_eqParty.calls k G1 A10 c10 G2 W1 A6 c6 W2 true w17 (Kd.R_reads' (HZ_w17.out.its _ List.mem_cons_self).row).2.2 (Kd.R_reads' (HZ_w17.out.its _ List.mem_cons_self).row).2.1 (Kd.R_reads' (HZ_w17.out.its _ (List.mem_cons_of_mem _ (List.mem_cons_of_mem _ (List.mem_cons_of_mem _ List.mem_cons_self)))).row).2.2 (Kd.R_reads' (HZ_w17.out.its _ (List.mem_cons_of_mem _ (List.mem_cons_of_mem _ (List.mem_cons_of_mem _ List.mem_cons_self)))).row).2.1 HE1.out).mono ?_); rintro e w18 ⟨rfl, hb⟩; have HZ_w18 := zz31 (HZ_w17.out.below hb); clear hb) | (fail "no arm"))
  clear x1 x2 y1 y2
  have x1:w18.cell? ⟨g10,0,none⟩=some (.int .i64 G1):=zz9 (HZ_w18.out.its _ List.mem_cons_self).box 0
  have x2:w18.cell? ⟨g10,1,none⟩=some (.slice A10 G2.length c10):=zz9 (HZ_w18.out.its _ List.mem_cons_self).box 1
  have HTI:Aside0 (Kd.R k80 80 w18 w.heap.size (fun k=>some k=(Value.slice A10 G2.length c10).ownBlock) (Value.slice A10 G2.length c10) G2):=⟨Kd.R_tight rfl (HZ_w18.out.its _ List.mem_cons_self).row⟩
  have HMA:Aside0 (∀ w2 ok,Kd.R k80 80 w2 w.heap.size ok (Value.slice A10 G2.length c10) t2→Below w.heap.size w w2→Kept w18 w2 (fun k=>some k=(Value.slice A10 G2.length c10).ownBlock)→laws_FnExactTogetherParty.St w w2 ⟨g2,g3,wb.heap.size,a0_0,A0_1,l0_1.length,c0_1,a1_0,A1_1,l1_1.length,c1_1⟩ [⟨lo10,hi10,g10,G1,A10,c10,t2⟩,⟨lo9,hi9,g9,q1,A9,c9,n2⟩,⟨lo8,hi8,g8,p1,A8,c8,m2⟩,⟨lo6,hi6,g6,W1,A6,c6,W2⟩]):=⟨fun w2 ok hR hB hK=>laws_FnExactTogetherParty.St.mark (L1:=[]) (i:=⟨lo10,hi10,g10,G1,A10,c10,G2⟩) (L2:=[⟨lo9,hi9,g9,q1,A9,c9,n2⟩,⟨lo8,hi8,g8,p1,A8,c8,m2⟩,⟨lo6,hi6,g6,W1,A6,c6,W2⟩]) HZ_w18.out hR hB hK⟩
  go_upto_region 26 with (first | (go_at_call 20; (with_reducible refine (laws_markParty.calls k G1 (fun k => some k = (Value.slice A10 G2.length c10).ownBlock) (Value.slice A10 G2.length c10) G2 1 hq t2 w w18 HZ_w18.out.bel HTI.out HMG.out).mono ?_); rintro e w19 ⟨rfl, hR, hB, hK⟩; have HZ_w19 := zz31 (HMA.out _ _ hR hB hK); clear hR hB hK) | (fail "no arm"))
  clear x1 x2
  have x1:w19.cell? ⟨g10,0,none⟩=some (.int .i64 G1):=zz9 (HZ_w19.out.its _ List.mem_cons_self).box 0
  have x2:w19.cell? ⟨g10,1,none⟩=some (.slice A10 t2.length c10):=zz9 (HZ_w19.out.its _ List.mem_cons_self).box 1
  go_upto_region 31 with (first | (go_at_call 29; (with_reducible refine (laws_heldParty.calls k G1 A10 c10 t2 1 hq w19 (Kd.R_reads' (HZ_w19.out.its _ List.mem_cons_self).row).2.2 (Kd.R_reads' (HZ_w19.out.its _ List.mem_cons_self).row).2.1 HHQ.out).mono ?_); rintro e w20 ⟨rfl, hb⟩; have HZ_w20 := zz31 (HZ_w19.out.below hb); clear hb) | (fail "no arm"))
  clear x1 x2
  go_cut [15,16] from 17 (fun va vb wq=>∃ (g15:Nat) (A15:Option Addr) (c15 lo15 hi15:Nat),va=.pointer (some ⟨g15,0,none⟩)∧vb=.bool G3∧Aside0 (laws_FnExactTogetherParty.St w wq ⟨g2,g3,wb.heap.size,a0_0,A0_1,l0_1.length,c0_1,a1_0,A1_1,l1_1.length,c1_1⟩ [⟨lo15,hi15,g15,G1,A15,c15,G2⟩,⟨lo10,hi10,g10,G1,A10,c10,t2⟩,⟨lo9,hi9,g9,q1,A9,c9,n2⟩,⟨lo8,hi8,g8,p1,A8,c8,m2⟩,⟨lo6,hi6,g6,W1,A6,c6,W2⟩]))
  case first =>
   have o2:g2 < w20.heap.size:=Nat.lt_of_lt_of_le HZ_w20.out.l2 HZ_w20.out.ls
   have o3:g3 < w20.heap.size:=Nat.lt_of_lt_of_le HZ_w20.out.l3 HZ_w20.out.ls
   have f1:w20.cell? ⟨g2,0,none⟩=some (.int .i64 a0_0):=zz9 HZ_w20.out.b2 0
   have f2:w20.cell? ⟨g2,1,none⟩=some (.slice A0_1 l0_1.length c0_1):=zz9 HZ_w20.out.b2 1
   have f3:w20.cell? ⟨g3,0,none⟩=some (.int .i64 a1_0):=zz9 HZ_w20.out.b3 0
   have f4:w20.cell? ⟨g3,1,none⟩=some (.slice A1_1 l1_1.length c1_1):=zz9 HZ_w20.out.b3 1
   go_region_held3 (fun w' => (w'.cell? ⟨g2, 0, none⟩ = some (.int .i64 a0_0) ∧ w'.cell? ⟨g2, 1, none⟩ = some (.slice A0_1 l0_1.length c0_1)) ∧ w'.cell? ⟨g3, 0, none⟩ = some (.int .i64 a1_0) ∧ w'.cell? ⟨g3, 1, none⟩ = some (.slice A1_1 l1_1.length c1_1)) (first | go_keep | exact ⟨⟨zz9 HTs.out.b2 0, zz9 HTs.out.b2 1⟩, zz9 HTs.out.b3 0, zz9 HTs.out.b3 1⟩ | exact ⟨⟨zz9 HTp.out.b2 0, zz9 HTp.out.b2 1⟩, zz9 HTp.out.b3 0, zz9 HTp.out.b3 1⟩ | exact ⟨⟨zz9 HTq.out.b2 0, zz9 HTq.out.b2 1⟩, zz9 HTq.out.b3 0, zz9 HTq.out.b3 1⟩ | exact ⟨⟨zz9 (zz8 HTs.out.b2 _) 0, zz9 (zz8 HTs.out.b2 _) 1⟩, zz9 (zz8 HTs.out.b3 _) 0, zz9 (zz8 HTs.out.b3 _) 1⟩ | exact ⟨⟨zz9 (blk_far (blk_far HTs.out.b2 (by dsimp only; omega) _) (by dsimp only; omega) _) 0, zz9 (blk_far (blk_far HTs.out.b2 (by dsimp only; omega) _) (by dsimp only; omega) _) 1⟩, zz9 (blk_far (blk_far HTs.out.b3 (by dsimp only; omega) _) (by dsimp only; omega) _) 0, zz9 (blk_far (blk_far HTs.out.b3 (by dsimp only; omega) _) (by dsimp only; omega) _) 1⟩) (first | (go_at_call 14; (with_reducible refine (laws_toParty.calls k a0_0 A0_1 c0_1 l0_1 p1 p2 _ ?_ HCC0.out HP.out).mono ?_); (repeat (first | exact (Kd.C_below HC0.out HZ_w20.out.bel) | exact (Kd.C_below HC0.out HTq.out.bel) | (with_reducible refine zz18 ?_ _) | (with_reducible refine zz19 ?_ _) | (with_reducible refine zz20 ?_))); rintro e wp ⟨vp, rfl, ho, hb⟩; obtain ⟨Ap, cp, rfl⟩ := Kd.R_slice ho; have oP : w20.heap.size ≤ wp.heap.size := (by first | exact hb.size | (have h9 := hb.size; omega) | (have h9 := hb.size; simp at h9; omega)); have HBp := zz31 (zz4 (w := w20) (by repeat (first | exact Below.refl _ _ | exact HBp.out | exact HBq.out | apply zz0 | apply below_drew | apply zz2)) hb); have HTp := zz31 (HZ_w20.out.below HBp.out); have HPn := zz31 (Kd.R_reads' ho).2; have HK := (fun (g : Nat) (o : Obj) (hg : _) => zz11 (g := g) (o := o) hg hb); (first | (have HQ2 := zz31 (Kd.C_below (show Kd.C k80 _ Aq q2.length q2 from (by repeat (first | exact HQn.out.2 | (with_reducible refine zz18 ?_ _)))) hb)) | skip); (first | (have HMp := zz31 (HK w20.heap.size (.cells #[.int .i64 0, .slice none 0 0] 30) (by first | ((with_reducible repeat (first | refine zz6 ?_ _ | refine zz7 ?_)); exact blk_new _ _) | exact HMq.out))) | (have HMp := zz31 (HK wq.heap.size (.cells #[.int .i64 0, .slice none 0 0] 30) (by (with_reducible repeat (first | refine zz6 ?_ _ | refine zz7 ?_)); exact blk_new _ _))) | skip); clear ho hb HK) | (go_at_call 14; (with_reducible refine (laws_toParty.calls k a1_0 A1_1 c1_1 l1_1 q1 q2 _ ?_ HCC1.out HQ.out).mono ?_); (repeat (first | exact (Kd.C_below HC1.out HZ_w20.out.bel) | exact (Kd.C_below HC1.out HTp.out.bel) | (with_reducible refine zz18 ?_ _) | (with_reducible refine zz19 ?_ _) | (with_reducible refine zz20 ?_))); rintro e wq ⟨vq, rfl, ho, hb⟩; obtain ⟨Aq, cq, rfl⟩ := Kd.R_slice ho; have oQ : w20.heap.size ≤ wq.heap.size := (by first | exact hb.size | (have h9 := hb.size; omega) | (have h9 := hb.size; simp at h9; omega)); have HBq := zz31 (zz4 (w := w20) (by repeat (first | exact Below.refl _ _ | exact HBp.out | exact HBq.out | apply zz0 | apply below_drew | apply zz2)) hb); have HTq := zz31 (HZ_w20.out.below HBq.out); have HQn := zz31 (Kd.R_reads' ho).2; have HK := (fun (g : Nat) (o : Obj) (hg : _) => zz11 (g := g) (o := o) hg hb); (first | (have HP2 := zz31 (Kd.C_below (show Kd.C k80 _ Ap p2.length p2 from (by repeat (first | exact HPn.out.2 | (with_reducible refine zz18 ?_ _)))) hb)) | skip); (first | (have HMq := zz31 (HK w20.heap.size (.cells #[.int .i64 0, .slice none 0 0] 30) (by first | ((with_reducible repeat (first | refine zz6 ?_ _ | refine zz7 ?_)); exact blk_new _ _) | exact HMp.out))) | (have HMq := zz31 (HK wp.heap.size (.cells #[.int .i64 0, .slice none 0 0] 30) (by (with_reducible repeat (first | refine zz6 ?_ _ | refine zz7 ?_)); exact blk_new _ _))) | skip); clear ho hb HK) | (go_at_call 31; (with_reducible refine (impl_TogetherParty.calls k p1 Ap cp p2 q1 Aq cq q2 G1 G2 G3 _ ?_ HPn.out.1 ?_ HQn.out.1 HG.out).mono ?_); (repeat (first | exact HP2.out | exact HPn.out.2 | (with_reducible refine zz18 ?_ _))); (repeat (first | exact HQ2.out | exact HQn.out.2 | (with_reducible refine zz18 ?_ _))); rintro e ws ⟨vs, rfl, ho, hb⟩; obtain ⟨As, cs, rfl⟩ := Kd.R_slice ho; have oS : w20.heap.size ≤ ws.heap.size := (by first | exact hb.size | (have h9 := hb.size; omega) | (have h9 := hb.size; simp at h9; omega)); have HBs := zz31 (zz4 (w := w20) (by repeat (first | exact Below.refl _ _ | exact HBp.out | exact HBq.out | apply zz0 | apply below_drew | apply zz2)) hb); have HTs := zz31 (HZ_w20.out.below HBs.out); have HRs := zz31 (Kd.R_lower ho (show w20.heap.size ≤ _ from (by first | exact oP | exact oQ | (simp; omega)))); have HK := (fun (g : Nat) (o : Obj) (hg : _) => zz11 (g := g) (o := o) hg hb); (first | (have HMs := zz31 (HK w20.heap.size (.cells #[.int .i64 0, .slice none 0 0] 30) (by first | exact HMp.out | exact HMq.out)); have u1 := zz9 HMs.out 0; have u2 := zz9 HMs.out 1; simp only [List.getElem?_toArray, List.getElem?_cons_zero, List.getElem?_cons_succ] at u1 u2; have u3 := zz10 HMs.out 0; have u4 := zz10 HMs.out 1) | (have HMs := zz31 (HK wp.heap.size (.cells #[.int .i64 0, .slice none 0 0] 30) (by first | ((with_reducible repeat (first | refine zz6 ?_ _ | refine zz7 ?_)); exact blk_new _ _) | exact HMq.out)); have u1 := zz9 HMs.out 0; have u2 := zz9 HMs.out 1; simp only [List.getElem?_toArray, List.getElem?_cons_zero, List.getElem?_cons_succ] at u1 u2; have u3 := zz10 HMs.out 0; have u4 := zz10 HMs.out 1) | (have HMs := zz31 (HK wq.heap.size (.cells #[.int .i64 0, .slice none 0 0] 30) (by first | ((with_reducible repeat (first | refine zz6 ?_ _ | refine zz7 ?_)); exact blk_new _ _) | exact HMp.out)); have u1 := zz9 HMs.out 0; have u2 := zz9 HMs.out 1; simp only [List.getElem?_toArray, List.getElem?_cons_zero, List.getElem?_cons_succ] at u1 u2; have u3 := zz10 HMs.out 0; have u4 := zz10 HMs.out 1) | skip); clear ho hb HK) | (fail "no arm"))
   all_goals
    go_wp2_with fail
    go_meet
    case rel=>first | exact ⟨_,As,cs,_,_,rfl,rfl,⟨laws_FnExactTogetherParty.St.add1 HZ_w20.out HBs.out HMs.out HRs.out (by omega)⟩⟩ | exact ⟨_,As,cs,_,_,rfl,rfl,⟨laws_FnExactTogetherParty.St.add2 HZ_w20.out HBs.out HRs.out⟩⟩
  case rest =>
   obtain ⟨g15,A15,c15,lo15,hi15,rfl,rfl,HZ15⟩:=hcut
   obtain ⟨w21,hw21⟩:∃ w21:World,w21=wc:=⟨_,rfl⟩
   subst hw21
   have x1:w21.cell? ⟨g15,0,none⟩=some (.int .i64 G1):=zz9 (HZ15.out.its _ List.mem_cons_self).box 0
   have x2:w21.cell? ⟨g15,1,none⟩=some (.slice A15 G2.length c15):=zz9 (HZ15.out.its _ List.mem_cons_self).box 1
   have y1:w21.cell? ⟨g6,0,none⟩=some (.int .i64 W1):=zz9 (HZ15.out.its _ (List.mem_cons_of_mem _ (List.mem_cons_of_mem _ (List.mem_cons_of_mem _ (List.mem_cons_of_mem _ List.mem_cons_self))))).box 0
   have y2:w21.cell? ⟨g6,1,none⟩=some (.slice A6 W2.length c6):=zz9 (HZ15.out.its _ (List.mem_cons_of_mem _ (List.mem_cons_of_mem _ (List.mem_cons_of_mem _ (List.mem_cons_of_mem _ List.mem_cons_self))))).box 1
   go_upto_region 35 with (first | (go_at_call 16; (with_reducible refine (laws_eqParty.calls k G1 A15 c15 G2 W1 A6 c6 W2 true w21 (Kd.R_reads' (HZ15.out.its _ List.mem_cons_self).row).2.2 (Kd.R_reads' (HZ15.out.its _ List.mem_cons_self).row).2.1 (Kd.R_reads' (HZ15.out.its _ (List.mem_cons_of_mem _ (List.mem_cons_of_mem _ (List.mem_cons_of_mem _ (List.mem_cons_of_mem _ List.mem_cons_self))))).row).2.2 (Kd.R_reads' (HZ15.out.its _ (List.mem_cons_of_mem _ (List.mem_cons_of_mem _ (List.mem_cons_of_mem _ (List.mem_cons_of_mem _ List.mem_cons_self))))).row).2.1 HE1.out).mono ?_); rintro e w22 ⟨rfl, hb⟩; have HZ_w22 := zz31 (HZ15.out.below hb); clear hb) | (fail "no arm"))
   clear x1 x2 y1 y2
   have x1:w22.cell? ⟨g10,0,none⟩=some (.int .i64 G1):=zz9 (HZ_w22.out.its _ (List.mem_cons_of_mem _ List.mem_cons_self)).box 0
   have x2:w22.cell? ⟨g10,1,none⟩=some (.slice A10 t2.length c10):=zz9 (HZ_w22.out.its _ (List.mem_cons_of_mem _ List.mem_cons_self)).box 1
   go_wp2_with (first | (go_at_call 29; (with_reducible refine (laws_heldParty.calls k G1 A10 c10 t2 1 hq w22 (Kd.R_reads' (HZ_w22.out.its _ (List.mem_cons_of_mem _ List.mem_cons_self)).row).2.2 (Kd.R_reads' (HZ_w22.out.its _ (List.mem_cons_of_mem _ List.mem_cons_self)).row).2.1 HHQ.out).mono ?_); rintro e w23 ⟨rfl, hb⟩; have HZ_w23 := zz31 (HZ_w22.out.below hb); clear hb) | (fail "no arm"))
   refine bodyPost_ret (results_tmp rfl _ _ _) rfl ?_
   exact ⟨rfl,by repeat first | exact HZ_w23.out.bel | apply zz0 | apply below_drew⟩

end Go.Proofs.Ytialimbdkokdcaa.P
