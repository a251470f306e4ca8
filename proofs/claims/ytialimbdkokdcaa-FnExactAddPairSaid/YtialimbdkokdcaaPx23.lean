-- PRINTED by print.py (a twelfth state) out of the translation. Not trusted: Lean checks it.
import Derived.Test.YtialimbdkokdcaaPx0
import Derived.Test.YtialimbdkokdcaaPx1
import Derived.Test.YtialimbdkokdcaaPx3
import Derived.Test.YtialimbdkokdcaaPx4
import Derived.Test.YtialimbdkokdcaaPx9
import Derived.Test.YtialimbdkokdcaaPx15
import Derived.Test.YtialimbdkokdcaaPx18
import Derived.Test.YtialimbdkokdcaaPx19
import Derived.Test.YtialimbdkokdcaaPx22
namespace Go.Proofs.Ytialimbdkokdcaa.P
open Go.RowKit Go.Proofs.YtialimbdkokdcaaW.PrintWords Go.Proofs.YtialimbdkokdcaaW.PrintLast Go.Proofs.YtialimbdkokdcaaW.PrintMore
open Bool renaming true → T, false → F
attribute [local go_sem] max2_int min2_int max_two min_two max_three min_three max_four min_four   -- for this text's walks alone
set_option linter.unusedVariables false
set_option linter.unusedSimpArgs false

/-! ### spec_AddPair: function 32 -/
def spec_AddPair.f (k:Nat) (a0_0:Int) (l0_1:List (S80)) (a1:Int) (a2:Int):Option (Int × (List (S80)) × Bool):=(spec_paChange.f k a0_0 l0_1 a1 a2 true).bind fun bt508=>(some (bt508.1,bt508.2.1,bt508.2.2))
theorem spec_AddPair.mono:∀ a0 a1 a2 a3 k,LeO (spec_AddPair.f k a0 a1 a2 a3) (spec_AddPair.f (k+1) a0 a1 a2 a3):=by
 intro a0 a1 a2 a3 k
 unfold spec_AddPair.f
 repeat' first
   | (with_reducible exact spec_paChange.mono _ _ _ _ _ _)
   | (with_reducible exact LeO.refl _)
   | (with_reducible exact LeO.none _)
   | (with_reducible refine LeO.ite ?_ ?_)
   | (with_reducible refine LeO.bind ?_ (fun _=>?_))
   | exact spec_paChange.mono _ _ _ _ _ _
   | exact LeO.none _
   | refine LeO.ite ?_ ?_
   | refine LeO.bind ?_ (fun _=>?_)
set_option maxHeartbeats 8000000 in
set_option maxRecDepth 100000 in
theorem spec_AddPair.calls (k:Nat) (a0_0:Int) (A0_1:Option Addr) (c0_1:Nat) (l0_1:List (S80)) (a1:Int) (a2:Int) (r1:Int) (r2:List (S80)) (r3:Bool) (w:World) (hr0_1:Kd.C k80 w A0_1 l0_1.length l0_1) (hc0_1:l0_1.length≤c0_1) (h:spec_AddPair.f k a0_0 l0_1 a1 a2=some (r1,r2,r3)) :
  Calls Try.prog 32 #[.agg #[.int .i64 a0_0,.slice A0_1 l0_1.length c0_1],.int .i64 a1,.int .i64 a2] w fun e w'=>∃ v1_:Value,e=.returned (.tuple #[.agg #[.int .i64 r1,v1_],.bool r3])∧Kd.R k80 80 w' w.heap.size (fun _=>True) v1_ r2∧Below w.heap.size w w':=by
 have hu30:=Try.underlying30
 have HR0_1:=Aside0.mk hr0_1
 have HC0_1:=Aside0.mk hc0_1
 clear hr0_1 hc0_1
 have HB:=Aside0.mk (Below.refl w.heap.size w)
 have H:((spec_paChange.f k a0_0 l0_1 a1 a2 true).bind fun bt508=>(some (bt508.1,bt508.2.1,bt508.2.2)))=some (r1,r2,r3):=h
 clear h
 replace H:=zz30.mp H
 obtain ⟨⟨t508,t509,t512⟩,A40,H⟩:=H
 replace H:(some (t508,t509,t512))=some (r1,r2,r3):=H
 have A4:=Aside0.mk A40
 clear A40
 simp only [Option.some.injEq,Prod.mk.injEq] at H
 obtain ⟨rfl,rfl,rfl⟩:=H
 go_enter Try.func32,Try.ntmps32
 go_wp2_with (first | ((with_reducible refine gate_dst (N:=3) rfl ?_);refine box_event ?hg (N:=3) ?hd (cs:=#[.int .i64 a0_0,.slice A0_1 l0_1.length c0_1]) (t:=30) ?hr ?_;(case hd=>rfl);(case hg=>rfl);(case hr=>first | (go_simp;done) | (go_simp;rfl));intro gb506 hg w5 hbox hb;have n0_:=Aside0.mk (zz4 (by repeat first | exact HB.out | apply zz2 | apply zz0 | apply zz1) hb);have n1_:=Aside0.mk (hbox);have n2_:=Aside0.mk ((by rw [hg];exact (zz5 (by repeat first | exact HB.out | apply zz2 | apply zz0 | apply zz1)):w.heap.size≤gb506));have n3_:=Aside0.mk ((by rw [hg];exact (zz5 (by repeat first | exact HB.out | apply zz2 | apply zz0 | apply zz1)):w.heap.size≤gb506));clear HB;have HB:=n0_;have BK506:=n1_;have GW506:=n2_;have GE506:=n3_;clear n0_ n1_ n2_ n3_;clear hb hbox hg) | ((with_reducible refine gate_dst (N:=6) rfl ?_);refine box_event ?hg (N:=6) ?hd (cs:=#[.int .i64 0,.slice none 0 0]) (t:=30) ?hr ?_;(case hd=>rfl);(case hg=>rfl);(case hr=>first | (go_simp;done) | (go_simp;rfl));intro gb507 hg w6 hbox hb;have n0_:=Aside0.mk (zz11 (g:=gb506) (o:=.cells #[.int .i64 a0_0,.slice A0_1 l0_1.length c0_1] 30 (0,0)) (by (with_reducible repeat (first | refine zz6 ?_ _ | refine zz7 ?_ | refine zz8 ?_ _));exact BK506.out) hb);have n1_:=Aside0.mk (zz4 (by repeat first | exact HB.out | apply zz2 | apply zz0 | apply zz1 | refine zz3 ?_ GE506.out) hb);have n2_:=Aside0.mk (hbox);have n3_:=Aside0.mk ((by rw [hg];exact (zz5 (by repeat first | exact HB.out | apply zz2 | apply zz0 | apply zz1 | refine zz3 ?_ GE506.out)):w.heap.size≤gb507));have n4_:=Aside0.mk ((by rw [hg];exact (zz5 (by repeat first | exact HB.out | apply zz2 | apply zz0 | apply zz1 | refine zz3 ?_ GE506.out)):w.heap.size≤gb507));have n5_:=Aside0.mk ((by rw [hg];exact Nat.ne_of_lt (blk_lt (g:=gb506) (o:=.cells #[.int .i64 a0_0,.slice A0_1 l0_1.length c0_1] 30 (0,0)) (by (with_reducible repeat (first | refine zz6 ?_ _ | refine zz7 ?_ | refine zz8 ?_ _));exact BK506.out)):gb506 ≠ gb507));have n6_:=Aside0.mk ((by rw [hg];exact Nat.ne_of_gt (blk_lt (g:=gb506) (o:=.cells #[.int .i64 a0_0,.slice A0_1 l0_1.length c0_1] 30 (0,0)) (by (with_reducible repeat (first | refine zz6 ?_ _ | refine zz7 ?_ | refine zz8 ?_ _));exact BK506.out)):gb507 ≠ gb506));clear BK506;clear HB;have BK506:=n0_;have HB:=n1_;have BK507:=n2_;have GW507:=n3_;have GE507:=n4_;have NB506_507:=n5_;have NB507_506:=n6_;clear n0_ n1_ n2_ n3_ n4_ n5_ n6_;clear hb hbox hg;have hnb7:=NB506_507.out;have hnc7:=NB507_506.out;have hcz8_0:w6.cell? ⟨gb506,0,none⟩=some (.int .i64 a0_0):=(zz9 BK506.out 0).trans rfl;have hcz8_1:w6.cell? ⟨gb506,1,none⟩=some (.slice A0_1 l0_1.length c0_1):=(zz9 BK506.out 1).trans rfl;have hfz8_0:=zz10 BK506.out 0;have hfz8_1:=zz10 BK506.out 1) | ((with_reducible refine gate_callee (f:=64) rfl ?_);refine goesL_ (some 11) rfl rfl Try.func64 (by kernel_rfl) rfl #[.agg #[.int .i64 a0_0,.slice A0_1 l0_1.length c0_1],.int .i64 a1,.int .i64 a2,.bool true] rfl (by (try simp only [zz26,zz27,zz28]);first | done | rfl | (simp only [zz24,zz25];rfl) | (simp only [zz25];congr;(try simp only [decide_eq_true_eq] at *);omega)) ?_;(with_reducible refine (spec_paChange.calls k a0_0 _ _ l0_1 a1 a2 true t508 t509 t512 _ ?side1 ?side2 A4.out).mono ?_);(case side1=>repeat (first | exact (Kd.C_below HR0_1.out HB.out) | (with_reducible refine zz18 ?_ _) | (with_reducible refine zz19 ?_ _) | (with_reducible refine zz20 ?_)));(case side2=>exact HC0_1.out);rintro e w9 ⟨v510,rfl,ho0,hb⟩;refine ⟨_,rfl,?_⟩;have n0_:=Aside0.mk (Kd.R_lower ho0 (zz5 (by repeat first | exact HB.out | apply zz2 | apply zz0 | apply zz1 | refine zz3 ?_ GE506.out | refine zz3 ?_ GE507.out)));have n1_:=Aside0.mk (zz11 (g:=gb506) (o:=.cells #[.int .i64 a0_0,.slice A0_1 l0_1.length c0_1] 30 (0,0)) (by (with_reducible repeat (first | refine zz6 ?_ _ | refine zz7 ?_ | refine zz8 ?_ _));exact BK506.out) hb);have n2_:=Aside0.mk (zz11 (g:=gb507) (o:=.cells #[.int .i64 0,.slice none 0 0] 30 (0,0)) (by (with_reducible repeat (first | refine zz6 ?_ _ | refine zz7 ?_ | refine zz8 ?_ _));exact BK507.out) hb);have n3_:=Aside0.mk (zz4 (by repeat first | exact HB.out | apply zz2 | apply zz0 | apply zz1 | refine zz3 ?_ GE506.out | refine zz3 ?_ GE507.out) hb);clear BK506;clear BK507;clear HB;have HO511:=n0_;have BK506:=n1_;have BK507:=n2_;have HB:=n3_;clear n0_ n1_ n2_ n3_;(try clear hb);(try clear hb2);(try clear hk);(try clear hi);(try clear ho0);have hcz10_0:w9.cell? ⟨gb507,0,none⟩=some (.int .i64 0):=(zz9 BK507.out 0).trans rfl;have hcz10_1:w9.cell? ⟨gb507,1,none⟩=some (.slice none 0 0):=(zz9 BK507.out 1).trans rfl;have hfz10_0:=zz10 BK507.out 0;have hfz10_1:=zz10 BK507.out 1;obtain ⟨Ao11,co11,eo11⟩:=Kd.R_slice HO511.out;subst eo11))
 refine bodyPost_ret (results_ct rfl _ _ gb507 30 #[.int .i64 t508,.slice Ao11 t509.length co11] (0,0) _ rfl (by (with_reducible repeat (first | refine zz6 ?_ _ | refine zz7 ?_ | refine zz8 ?_ _));refine blk_put (cs:=#[.int .i64 t508,.slice none 0 0]) ?_ 1 _ rfl;(with_reducible repeat (first | refine zz6 ?_ _ | refine zz7 ?_ | refine zz8 ?_ _));refine blk_put (cs:=#[.int .i64 0,.slice none 0 0]) ?_ 0 _ rfl;(with_reducible repeat (first | refine zz6 ?_ _ | refine zz7 ?_ | refine zz8 ?_ _));exact BK507.out) Try.underlying30 rfl (by kernel_rfl)) rfl ?_
 exact ⟨_,by first | rfl | (simp [errW_none,errW_some] <;> rfl) | (simp [*,errW_none,errW_some] <;> rfl),by (with_reducible repeat (first | apply zz12 | apply zz13 | apply zz14));exact Kd.R_mono (Kd.R_far (p:=⟨gb507,1,none⟩) (Kd.R_far (p:=⟨gb507,0,none⟩) (Kd.R_types HO511.out BK507.out (by decide)) (fun _ hk=>hk.2) (.int .i64 t508)) (fun _ hk=>hk.2) (.slice Ao11 t509.length co11)) (fun _ hk=>trivial),by repeat first | exact HB.out | apply zz2 | apply zz0 | apply zz1 | refine zz3 ?_ GE506.out | refine zz3 ?_ GE507.out⟩

/-! ### impl_AddPair: function 33 -/
def impl_AddPair.j0:Nat→Int→Int→Bool→Int→List (S80)→Option (Int × (List (S80)) × Bool)
 | 0,_,_,_,_,_=>none
 | k+1,x1,x2,x22,x525000,x525001=>if x22=true then (some (0,([]:List (S80)),false)) else ((impl_Party_table.f k x525000 x525001).bind fun t528=>((impl_table_put.f t528 x1 x2).bind fun t531=>((impl_table_party.f k t531).bind fun bt532=>(some (bt532.1,bt532.2,true)))))
def impl_AddPair.f (k:Nat) (a0_0:Int) (l0_1:List (S80)) (a1:Int) (a2:Int):Option (Int × (List (S80)) × Bool):=(impl_AreFriends.f k a0_0 l0_1 a1 a2).bind fun bt526=>(if bt526.2=true then (impl_AddPair.j0 k a1 a2 bt526.1 a0_0 l0_1) else (impl_AddPair.j0 k a1 a2 true a0_0 l0_1))
theorem impl_AddPair.mono_l:∀ k,(∀ y0 y1 y2 y3 y4,LeO (impl_AddPair.j0 k y0 y1 y2 y3 y4) (impl_AddPair.j0 (k+1) y0 y1 y2 y3 y4))
 | 0=>fun _ _ _ _ _ r h=>by simp [impl_AddPair.j0] at h
 | k+1=>by
  have ih0:=impl_AddPair.mono_l k
  ·intro y0 y1 y2 y3 y4
   unfold impl_AddPair.j0
   repeat' first
   | (with_reducible exact ih0 _ _ _ _ _)
   | (with_reducible exact impl_AreFriends.mono _ _ _ _ _)
   | (with_reducible exact impl_Party_table.mono _ _ _)
   | (with_reducible exact impl_table_party.mono _ _)
   | (with_reducible exact LeO.refl _)
   | (with_reducible exact LeO.none _)
   | (with_reducible refine LeO.ite ?_ ?_)
   | (with_reducible refine LeO.bind ?_ (fun _=>?_))
   | exact ih0 _ _ _ _ _
   | exact impl_AreFriends.mono _ _ _ _ _
   | exact impl_Party_table.mono _ _ _
   | exact impl_table_party.mono _ _
   | exact LeO.none _
   | refine LeO.ite ?_ ?_
   | refine LeO.bind ?_ (fun _=>?_)
theorem impl_AddPair.mono:∀ a0 a1 a2 a3 k,LeO (impl_AddPair.f k a0 a1 a2 a3) (impl_AddPair.f (k+1) a0 a1 a2 a3):=by
 intro a0 a1 a2 a3 k
 have ih0:=impl_AddPair.mono_l k
 unfold impl_AddPair.f
 repeat' first
   | (with_reducible exact ih0 _ _ _ _ _)
   | (with_reducible exact impl_AreFriends.mono _ _ _ _ _)
   | (with_reducible exact impl_Party_table.mono _ _ _)
   | (with_reducible exact impl_table_party.mono _ _)
   | (with_reducible exact LeO.refl _)
   | (with_reducible exact LeO.none _)
   | (with_reducible refine LeO.ite ?_ ?_)
   | (with_reducible refine LeO.bind ?_ (fun _=>?_))
   | exact ih0 _ _ _ _ _
   | exact impl_AreFriends.mono _ _ _ _ _
   | exact impl_Party_table.mono _ _ _
   | exact impl_table_party.mono _ _
   | exact LeO.none _
   | refine LeO.ite ?_ ?_
   | refine LeO.bind ?_ (fun _=>?_)
set_option maxHeartbeats 8000000 in
set_option maxRecDepth 100000 in
theorem impl_AddPair.calls (k:Nat) (a0_0:Int) (A0_1:Option Addr) (c0_1:Nat) (l0_1:List (S80)) (a1:Int) (a2:Int) (r1:Int) (r2:List (S80)) (r3:Bool) (w:World) (hr0_1:Kd.C k80 w A0_1 l0_1.length l0_1) (hc0_1:l0_1.length≤c0_1) (h:impl_AddPair.f k a0_0 l0_1 a1 a2=some (r1,r2,r3)) :
  Calls Try.prog 33 #[.agg #[.int .i64 a0_0,.slice A0_1 l0_1.length c0_1],.int .i64 a1,.int .i64 a2] w fun e w'=>∃ v1_:Value,e=.returned (.tuple #[.agg #[.int .i64 r1,v1_],.bool r3])∧Kd.R k80 80 w' w.heap.size (fun _=>True) v1_ r2∧Below w.heap.size w w':=by
 have hu30:=Try.underlying30
 have HR0_1:=Aside0.mk hr0_1
 have HC0_1:=Aside0.mk hc0_1
 clear hr0_1 hc0_1
 have HB:=Aside0.mk (Below.refl w.heap.size w)
 have H:((impl_AreFriends.f k a0_0 l0_1 a1 a2).bind fun bt526=>(if bt526.2=true then (impl_AddPair.j0 k a1 a2 bt526.1 a0_0 l0_1) else (impl_AddPair.j0 k a1 a2 true a0_0 l0_1)))=some (r1,r2,r3):=h
 clear h
 replace H:=zz30.mp H
 obtain ⟨⟨t526,t527⟩,A40,H⟩:=H
 replace H:(if t527=true then (impl_AddPair.j0 k a1 a2 t526 a0_0 l0_1) else (impl_AddPair.j0 k a1 a2 true a0_0 l0_1))=some (r1,r2,r3):=H
 have A4:=Aside0.mk A40
 clear A40
 have HC5:=Aside0.mk H
 clear H
 go_enter Try.func33,Try.ntmps33
 go_upto_region 2 with (first | ((with_reducible refine gate_dst (N:=3) rfl ?_);refine box_event ?hg (N:=3) ?hd (cs:=#[.int .i64 a0_0,.slice A0_1 l0_1.length c0_1]) (t:=30) ?hr ?_;(case hd=>rfl);(case hg=>rfl);(case hr=>first | (go_simp;done) | (go_simp;rfl));intro gb524 hg w6 hbox hb;have n0_:=Aside0.mk (zz4 (by repeat first | exact HB.out | apply zz2 | apply zz0 | apply zz1) hb);have n1_:=Aside0.mk (hbox);have n2_:=Aside0.mk ((by rw [hg];exact (zz5 (by repeat first | exact HB.out | apply zz2 | apply zz0 | apply zz1)):w.heap.size≤gb524));have n3_:=Aside0.mk ((by rw [hg];exact (zz5 (by repeat first | exact HB.out | apply zz2 | apply zz0 | apply zz1)):w.heap.size≤gb524));clear HB;have HB:=n0_;have BK524:=n1_;have GW524:=n2_;have GE524:=n3_;clear n0_ n1_ n2_ n3_;clear hb hbox hg) | ((with_reducible refine gate_dst (N:=6) rfl ?_);refine box_event ?hg (N:=6) ?hd (cs:=#[.int .i64 0,.slice none 0 0]) (t:=30) ?hr ?_;(case hd=>rfl);(case hg=>rfl);(case hr=>first | (go_simp;done) | (go_simp;rfl));intro gb525 hg w7 hbox hb;have n0_:=Aside0.mk (zz11 (g:=gb524) (o:=.cells #[.int .i64 a0_0,.slice A0_1 l0_1.length c0_1] 30 (0,0)) (by (with_reducible repeat (first | refine zz6 ?_ _ | refine zz7 ?_ | refine zz8 ?_ _));exact BK524.out) hb);have n1_:=Aside0.mk (zz4 (by repeat first | exact HB.out | apply zz2 | apply zz0 | apply zz1 | refine zz3 ?_ GE524.out) hb);have n2_:=Aside0.mk (hbox);have n3_:=Aside0.mk ((by rw [hg];exact (zz5 (by repeat first | exact HB.out | apply zz2 | apply zz0 | apply zz1 | refine zz3 ?_ GE524.out)):w.heap.size≤gb525));have n4_:=Aside0.mk ((by rw [hg];exact (zz5 (by repeat first | exact HB.out | apply zz2 | apply zz0 | apply zz1 | refine zz3 ?_ GE524.out)):w.heap.size≤gb525));have n5_:=Aside0.mk ((by rw [hg];exact Nat.ne_of_lt (blk_lt (g:=gb524) (o:=.cells #[.int .i64 a0_0,.slice A0_1 l0_1.length c0_1] 30 (0,0)) (by (with_reducible repeat (first | refine zz6 ?_ _ | refine zz7 ?_ | refine zz8 ?_ _));exact BK524.out)):gb524 ≠ gb525));have n6_:=Aside0.mk ((by rw [hg];exact Nat.ne_of_gt (blk_lt (g:=gb524) (o:=.cells #[.int .i64 a0_0,.slice A0_1 l0_1.length c0_1] 30 (0,0)) (by (with_reducible repeat (first | refine zz6 ?_ _ | refine zz7 ?_ | refine zz8 ?_ _));exact BK524.out)):gb525 ≠ gb524));clear BK524;clear HB;have BK524:=n0_;have HB:=n1_;have BK525:=n2_;have GW525:=n3_;have GE525:=n4_;have NB524_525:=n5_;have NB525_524:=n6_;clear n0_ n1_ n2_ n3_ n4_ n5_ n6_;clear hb hbox hg;have hnb8:=NB524_525.out;have hnc8:=NB525_524.out;have hcz9_0:w7.cell? ⟨gb524,0,none⟩=some (.int .i64 a0_0):=(zz9 BK524.out 0).trans rfl;have hcz9_1:w7.cell? ⟨gb524,1,none⟩=some (.slice A0_1 l0_1.length c0_1):=(zz9 BK524.out 1).trans rfl;have hfz9_0:=zz10 BK524.out 0;have hfz9_1:=zz10 BK524.out 1) | ((with_reducible refine gate_callee (f:=65) rfl ?_);refine goesL_ (some 15) rfl rfl Try.func65 (by kernel_rfl) rfl #[.agg #[.int .i64 a0_0,.slice A0_1 l0_1.length c0_1],.int .i64 a1,.int .i64 a2] rfl (by (try simp only [zz26,zz27,zz28]);first | done | rfl | (simp only [zz24,zz25];rfl) | (simp only [zz25];congr;(try simp only [decide_eq_true_eq] at *);omega)) ?_;(with_reducible refine (impl_AreFriends.calls k a0_0 _ _ l0_1 a1 a2 t526 t527 _ ?side1 ?side2 A4.out).mono ?_);(case side1=>repeat (first | exact (Kd.C_below HR0_1.out HB.out) | (with_reducible refine zz18 ?_ _) | (with_reducible refine zz19 ?_ _) | (with_reducible refine zz20 ?_)));(case side2=>exact HC0_1.out);rintro e w10 ⟨rfl,hb⟩;refine ⟨_,rfl,?_⟩;have n0_:=Aside0.mk (zz11 (g:=gb524) (o:=.cells #[.int .i64 a0_0,.slice A0_1 l0_1.length c0_1] 30 (0,0)) (by (with_reducible repeat (first | refine zz6 ?_ _ | refine zz7 ?_ | refine zz8 ?_ _));exact BK524.out) hb);have n1_:=Aside0.mk (zz11 (g:=gb525) (o:=.cells #[.int .i64 0,.slice none 0 0] 30 (0,0)) (by (with_reducible repeat (first | refine zz6 ?_ _ | refine zz7 ?_ | refine zz8 ?_ _));exact BK525.out) hb);have n2_:=Aside0.mk (zz4 (by repeat first | exact HB.out | apply zz2 | apply zz0 | apply zz1 | refine zz3 ?_ GE524.out | refine zz3 ?_ GE525.out) hb);clear BK524;clear BK525;clear HB;have BK524:=n0_;have BK525:=n1_;have HB:=n2_;clear n0_ n1_ n2_;(try clear hb);(try clear hb2);(try clear hk);(try clear hi)))
 (try simp only [Act.put,zz21,zz22,zz23])
 go_cut [22] (fun v22 wc=>∃ (kq:Nat) (x22_4:Bool),v22=.bool x22_4∧Aside0 (impl_AddPair.j0 kq a1 a2 x22_4 a0_0 l0_1=some (r1,r2,r3))∧Aside0 (kq≤k)∧Aside0 (wc.heap[gb524]?=some (.cells #[.int .i64 a0_0,(.slice A0_1 l0_1.length c0_1)] 30 (0,0)))∧Aside0 (wc.heap[gb525]?=some (.cells #[.int .i64 0,(.slice none 0 0)] 30 (0,0)))∧Aside0 (Below w.heap.size w wc))
 case first =>
  have H:=HC5.out
  clear HC5
  by_cases c11:t527=true
  ·subst c11
   have H1:(impl_AddPair.j0 k a1 a2 t526 a0_0 l0_1)=some (r1,r2,r3):=by rw [if_pos rfl] at H;exact H
   clear H
   have H:=H1
   clear H1
   have H':=Aside0.mk H
   clear H
   go_wp2
   go_meet
   case rel=>exact ⟨_,(t526),(by first | rfl | (simp;done) | (simp [*];done)),H',⟨by first | omega | exact Nat.le_refl _⟩,⟨by (with_reducible repeat (first | refine zz6 ?_ _ | refine zz7 ?_ | refine zz8 ?_ _));exact BK524.out⟩,⟨by (with_reducible repeat (first | refine zz6 ?_ _ | refine zz7 ?_ | refine zz8 ?_ _));exact BK525.out⟩,⟨by repeat first | exact HB.out | apply zz2 | apply zz0 | apply zz1 | refine zz3 ?_ GE524.out | refine zz3 ?_ GE525.out⟩⟩
  ·replace c11:=Bool.eq_false_iff.mpr c11
   subst c11
   have H1:(impl_AddPair.j0 k a1 a2 true a0_0 l0_1)=some (r1,r2,r3):=by rw [if_neg (show ¬ (false=true) by decide)] at H;exact H
   clear H
   have H:=H1
   clear H1
   have H':=Aside0.mk H
   clear H
   go_wp2
   go_meet
   case rel=>exact ⟨_,(true),(by first | rfl | (simp;done) | (simp [*];done)),H',⟨by first | omega | exact Nat.le_refl _⟩,⟨by (with_reducible repeat (first | refine zz6 ?_ _ | refine zz7 ?_ | refine zz8 ?_ _));exact BK524.out⟩,⟨by (with_reducible repeat (first | refine zz6 ?_ _ | refine zz7 ?_ | refine zz8 ?_ _));exact BK525.out⟩,⟨by repeat first | exact HB.out | apply zz2 | apply zz0 | apply zz1 | refine zz3 ?_ GE524.out | refine zz3 ?_ GE525.out⟩⟩
 case rest =>
  clear HC5
  try clear c1
  try clear p2
  try clear c3
  try clear c6
  try clear c8
  try clear c11
  try clear hcz9_0
  try clear hcz9_1
  try clear hfz9_0
  try clear hfz9_1
  obtain ⟨kq,x22_4,rfl,HA,HJ4,BK524,BK525,HB⟩:=hcut
  cases kq with
  | zero=>exact absurd HA.out (by simp [impl_AddPair.j0])
  | succ kj4 =>
   have H:=HA.out
   clear HA
   simp only [impl_AddPair.j0] at H
   by_cases c12:x22_4=true
   ·subst c12
    have H1:(some (0,([]:List (S80)),false))=some (r1,r2,r3):=by rw [if_pos rfl] at H;exact H
    clear H
    have H:=H1
    clear H1
    simp only [Option.some.injEq,Prod.mk.injEq] at H
    obtain ⟨rfl,rfl,rfl⟩:=H
    have hnb13:=NB525_524.out
    have hnc13:=NB524_525.out
    have hcz14_0:wc.cell? ⟨gb525,0,none⟩=some (.int .i64 0):=(zz9 BK525.out 0).trans rfl
    have hcz14_1:wc.cell? ⟨gb525,1,none⟩=some (.slice none 0 0):=(zz9 BK525.out 1).trans rfl
    have hfz14_0:=zz10 BK525.out 0
    have hfz14_1:=zz10 BK525.out 1
    go_wp2
    refine bodyPost_ret (results_ct rfl _ _ gb525 30 #[.int .i64 0,.slice none 0 0] (0,0) _ rfl (by (with_reducible repeat (first | refine zz6 ?_ _ | refine zz7 ?_ | refine zz8 ?_ _));refine blk_put (cs:=#[.int .i64 0,.slice none 0 0]) ?_ 1 _ rfl;(with_reducible repeat (first | refine zz6 ?_ _ | refine zz7 ?_ | refine zz8 ?_ _));refine blk_put (cs:=#[.int .i64 0,.slice none 0 0]) ?_ 0 _ rfl;(with_reducible repeat (first | refine zz6 ?_ _ | refine zz7 ?_ | refine zz8 ?_ _));exact BK525.out) Try.underlying30 rfl (by kernel_rfl)) rfl ?_
    exact ⟨_,by first | rfl | (simp [errW_none,errW_some] <;> rfl) | (simp [*,errW_none,errW_some] <;> rfl),by first | exact Kd.R_nil _ _ _ _ _ | exact Kd.N_nil _ _ _ _ _ | exact Kd.V_nil _ _ _ _ _ | exact Kd.Q_nil _ _ _ _ _ | exact Kd.S_nil _ _ _ _ _,by repeat first | exact HB.out | apply zz2 | apply zz0 | apply zz1 | refine zz3 ?_ GE524.out | refine zz3 ?_ GE525.out⟩
   ·replace c12:=Bool.eq_false_iff.mpr c12
    subst c12
    have H1:((impl_Party_table.f kj4 a0_0 l0_1).bind fun t528=>((impl_table_put.f t528 a1 a2).bind fun t531=>((impl_table_party.f kj4 t531).bind fun bt532=>(some (bt532.1,bt532.2,true)))))=some (r1,r2,r3):=by rw [if_neg (show ¬ (false=true) by decide)] at H;exact H
    clear H
    have H:=H1
    clear H1
    replace H:=zz30.mp H
    obtain ⟨t528,A150,H⟩:=H
    replace H:((impl_table_put.f t528 a1 a2).bind fun t531=>((impl_table_party.f kj4 t531).bind fun bt532=>(some (bt532.1,bt532.2,true))))=some (r1,r2,r3):=H
    have A15:=Aside0.mk A150
    clear A150
    replace H:=zz30.mp H
    obtain ⟨t531,A160,H⟩:=H
    replace H:((impl_table_party.f kj4 t531).bind fun bt532=>(some (bt532.1,bt532.2,true)))=some (r1,r2,r3):=H
    have A16:=Aside0.mk A160
    clear A160
    replace H:=zz30.mp H
    obtain ⟨⟨t532,t533⟩,A170,H⟩:=H
    replace H:(some (t532,t533,true))=some (r1,r2,r3):=H
    have A17:=Aside0.mk A170
    clear A170
    simp only [Option.some.injEq,Prod.mk.injEq] at H
    obtain ⟨rfl,rfl,rfl⟩:=H
    have hnb18:=NB524_525.out
    have hnc18:=NB525_524.out
    have hcz19_0:wc.cell? ⟨gb524,0,none⟩=some (.int .i64 a0_0):=(zz9 BK524.out 0).trans rfl
    have hcz19_1:wc.cell? ⟨gb524,1,none⟩=some (.slice A0_1 l0_1.length c0_1):=(zz9 BK524.out 1).trans rfl
    have hfz19_0:=zz10 BK524.out 0
    have hfz19_1:=zz10 BK524.out 1
    go_wp2_with (first | ((with_reducible refine gate_callee (f:=46) rfl ?_);refine goesL_ (some 25) rfl rfl Try.func46 (by kernel_rfl) rfl #[.agg #[.int .i64 a0_0,.slice A0_1 l0_1.length c0_1]] rfl (by (try simp only [zz26,zz27,zz28]);first | done | rfl | (simp only [zz24,zz25];rfl) | (simp only [zz25];congr;(try simp only [decide_eq_true_eq] at *);omega)) ?_;(with_reducible refine (impl_Party_table.calls kj4 a0_0 _ _ l0_1 t528 _ ?side1 ?side2 A15.out).mono ?_);(case side1=>repeat (first | exact (Kd.C_below HR0_1.out HB.out) | (with_reducible refine zz18 ?_ _) | (with_reducible refine zz19 ?_ _) | (with_reducible refine zz20 ?_)));(case side2=>exact HC0_1.out);rintro e w20 ⟨v529,rfl,ho0,hb⟩;refine ⟨_,rfl,?_⟩;have n0_:=Aside0.mk (Kd.R_lower ho0 (zz5 (by repeat first | exact HB.out | apply zz2 | apply zz0 | apply zz1 | refine zz3 ?_ GE524.out | refine zz3 ?_ GE525.out)));have n1_:=Aside0.mk (zz11 (g:=gb524) (o:=.cells #[.int .i64 a0_0,.slice A0_1 l0_1.length c0_1] 30 (0,0)) (by (with_reducible repeat (first | refine zz6 ?_ _ | refine zz7 ?_ | refine zz8 ?_ _));exact BK524.out) hb);have n2_:=Aside0.mk (zz11 (g:=gb525) (o:=.cells #[.int .i64 0,.slice none 0 0] 30 (0,0)) (by (with_reducible repeat (first | refine zz6 ?_ _ | refine zz7 ?_ | refine zz8 ?_ _));exact BK525.out) hb);have n3_:=Aside0.mk (zz4 (by repeat first | exact HB.out | apply zz2 | apply zz0 | apply zz1 | refine zz3 ?_ GE524.out | refine zz3 ?_ GE525.out) hb);clear BK524;clear BK525;clear HB;have HO530:=n0_;have BK524:=n1_;have BK525:=n2_;have HB:=n3_;clear n0_ n1_ n2_ n3_;(try clear hb);(try clear hb2);(try clear hk);(try clear hi);(try clear ho0);obtain ⟨Ao21,co21,eo21⟩:=Kd.R_slice HO530.out;subst eo21) | ((with_reducible refine gate_callee (f:=66) rfl ?_);refine goesL_ (some 29) rfl rfl Try.func66 (by kernel_rfl) rfl #[.slice Ao21 t528.length co21,.int .i64 a1,.int .i64 a2] rfl (by (try simp only [zz26,zz27,zz28]);first | done | rfl | (simp only [zz24,zz25];rfl) | (simp only [zz25];congr;(try simp only [decide_eq_true_eq] at *);omega)) ?_;(with_reducible refine (impl_table_put.calls (fun k_=>some k_=(.slice Ao21 t528.length co21:Value).ownBlock) (.slice Ao21 t528.length co21) t528 a1 a2 t531 w _ ?side1 ?side2 A16.out).mono ?_);(case side1=>repeat first | exact HB.out | apply zz2 | apply zz0 | apply zz1 | refine zz3 ?_ GE524.out | refine zz3 ?_ GE525.out);(case side2=>exact Kd.R_tight rfl HO530.out);rintro e w22 ⟨rfl,hy0,hb,hkp⟩;refine ⟨_,rfl,?_⟩;have n0_:=Aside0.mk (blk_kept (by (with_reducible repeat (first | refine zz6 ?_ _ | refine zz7 ?_ | refine zz8 ?_ _));exact BK524.out) hkp (fun hs_=>(fun e_=>(Kd.R_ne HO530.out BK524.out (by decide)) e_) hs_));have n1_:=Aside0.mk (blk_kept (by (with_reducible repeat (first | refine zz6 ?_ _ | refine zz7 ?_ | refine zz8 ?_ _));exact BK525.out) hkp (fun hs_=>(fun e_=>(Kd.R_ne HO530.out BK525.out (by decide)) e_) hs_));have n2_:=Aside0.mk (Kd.R_reok rfl hy0 (fun k_ e_=>HO530.out.1 k_ e_));have n3_:=Aside0.mk (hb);clear BK524;clear BK525;clear HO530;clear HB;have BK524:=n0_;have BK525:=n1_;have HO530:=n2_;have HB:=n3_;clear n0_ n1_ n2_ n3_;(try clear hb);(try clear hkp);(try clear hy0)) | ((with_reducible refine gate_callee (f:=67) rfl ?_);refine goesL_ (some 31) rfl rfl Try.func67 (by kernel_rfl) rfl #[.slice Ao21 t531.length co21] rfl (by (try simp only [zz26,zz27,zz28]);first | done | (rw [show t531.length=t528.length from (Kd.R_reads' HO530.out).1.symm] <;> rfl) | rfl | (simp only [zz24,zz25];rfl)) ?_;(with_reducible refine (impl_table_party.calls kj4 _ _ t531 t532 t533 _ ?side1 ?side2 A17.out).mono ?_);(case side1=>repeat (first | exact (Kd.R_reads' HO530.out).2.2 | (with_reducible refine zz18 ?_ _) | (with_reducible refine zz19 ?_ _) | (with_reducible refine zz20 ?_)));(case side2=>rw [show t531.length=t528.length from (Kd.R_reads' HO530.out).1.symm];exact (Kd.R_reads' HO530.out).2.1);rintro e w23 ⟨v534,rfl,ho0,hb⟩;refine ⟨_,rfl,?_⟩;have n0_:=Aside0.mk (Kd.R_below (by (with_reducible repeat (first | apply zz12 | apply zz13 | apply zz14));exact HO530.out) hb);have n1_:=Aside0.mk (Kd.R_lower ho0 (zz5 (by repeat first | exact HB.out | apply zz2 | apply zz0 | apply zz1 | refine zz3 ?_ GE524.out | refine zz3 ?_ GE525.out)));have n2_:=Aside0.mk (zz11 (g:=gb524) (o:=.cells #[.int .i64 a0_0,.slice A0_1 l0_1.length c0_1] 30 (0,0)) (by (with_reducible repeat (first | refine zz6 ?_ _ | refine zz7 ?_ | refine zz8 ?_ _));exact BK524.out) hb);have n3_:=Aside0.mk (zz11 (g:=gb525) (o:=.cells #[.int .i64 0,.slice none 0 0] 30 (0,0)) (by (with_reducible repeat (first | refine zz6 ?_ _ | refine zz7 ?_ | refine zz8 ?_ _));exact BK525.out) hb);have n4_:=Aside0.mk (zz4 (by repeat first | exact HB.out | apply zz2 | apply zz0 | apply zz1 | refine zz3 ?_ GE524.out | refine zz3 ?_ GE525.out) hb);clear HO530;clear BK524;clear BK525;clear HB;have HO530:=n0_;have HO535:=n1_;have BK524:=n2_;have BK525:=n3_;have HB:=n4_;clear n0_ n1_ n2_ n3_ n4_;(try clear hb);(try clear hb2);(try clear hk);(try clear hi);(try clear ho0);have hcz24_0:w23.cell? ⟨gb525,0,none⟩=some (.int .i64 0):=(zz9 BK525.out 0).trans rfl;have hcz24_1:w23.cell? ⟨gb525,1,none⟩=some (.slice none 0 0):=(zz9 BK525.out 1).trans rfl;have hfz24_0:=zz10 BK525.out 0;have hfz24_1:=zz10 BK525.out 1;obtain ⟨Ao25,co25,eo25⟩:=Kd.R_slice HO535.out;subst eo25))
    refine bodyPost_ret (results_ct rfl _ _ gb525 30 #[.int .i64 t532,.slice Ao25 t533.length co25] (0,0) _ rfl (by (with_reducible repeat (first | refine zz6 ?_ _ | refine zz7 ?_ | refine zz8 ?_ _));refine blk_put (cs:=#[.int .i64 t532,.slice none 0 0]) ?_ 1 _ rfl;(with_reducible repeat (first | refine zz6 ?_ _ | refine zz7 ?_ | refine zz8 ?_ _));refine blk_put (cs:=#[.int .i64 0,.slice none 0 0]) ?_ 0 _ rfl;(with_reducible repeat (first | refine zz6 ?_ _ | refine zz7 ?_ | refine zz8 ?_ _));exact BK525.out) Try.underlying30 rfl (by kernel_rfl)) rfl ?_
    exact ⟨_,by first | rfl | (simp [errW_none,errW_some] <;> rfl) | (simp [*,errW_none,errW_some] <;> rfl),by (with_reducible repeat (first | apply zz12 | apply zz13 | apply zz14));exact Kd.R_mono (Kd.R_far (p:=⟨gb525,1,none⟩) (Kd.R_far (p:=⟨gb525,0,none⟩) (Kd.R_types HO535.out BK525.out (by decide)) (fun _ hk=>hk.2) (.int .i64 t532)) (fun _ hk=>hk.2) (.slice Ao25 t533.length co25)) (fun _ hk=>trivial),by repeat first | exact HB.out | apply zz2 | apply zz0 | apply zz1 | refine zz3 ?_ GE524.out | refine zz3 ?_ GE525.out⟩

/-! ### laws_FnExactAddPair: function 8 -/
mutual
def laws_FnExactAddPair.j0:Nat→Int→Int→Bool→Bool→Bool→Int→List (S94)→Int→List (S80)→Int→List (S80)→Int→List (S80)→Option (Bool)
 | 0,_,_,_,_,_,_,_,_,_,_,_,_,_=>none
 | k+1,x1,x2,x9,x12,x48,x537000,x537001,x548000,x548001,x553000,x553001,x559000,x559001=>if x48=true then (some false) else ((laws_toParty.f k x537000 x537001).bind fun bt560=>((laws_eqParty.f k x553000 x553001 bt560.1 bt560.2).bind fun t564=>(if t564=true then ((laws_markParty.f k x553000 x553001 1).bind fun bt565=>(if bt565.1 < 0 then (laws_FnExactAddPair.j1 k x1 x2 x9 true x537000 x537001 x548000 x548001 x559000 x559001) else ((laws_eqParty.f k x559000 x559001 x548000 x548001).bind fun t567=>(if t567=true then (laws_FnExactAddPair.j1 k x1 x2 x9 (x12 != x9) x537000 x537001 x548000 x548001 x559000 x559001) else (laws_FnExactAddPair.j1 k x1 x2 x9 true x537000 x537001 x548000 x548001 x559000 x559001))))) else (some false))))
def laws_FnExactAddPair.j1:Nat→Int→Int→Bool→Bool→Int→List (S94)→Int→List (S80)→Int→List (S80)→Option (Bool)
 | 0,_,_,_,_,_,_,_,_,_,_=>none
 | k+1,x1,x2,x9,x69,x537000,x537001,x548000,x548001,x559000,x559001=>if x69=true then (some false) else ((laws_markParty.f k x559000 x559001 1).bind fun bt568=>((laws_heldParty.f k x559000 bt568.2 1).bind fun t570=>(if t570 < 0 then (some false) else (if t570=bt568.1 then ((laws_toParty.f k x537000 x537001).bind fun bt571=>((impl_AddPair.f k bt571.1 bt571.2 x1 x2).bind fun bt575=>((laws_eqParty.f k bt575.1 bt575.2.1 x548000 x548001).bind fun t581=>(if t581=true then (laws_FnExactAddPair.j2 k bt568.1 (bt575.2.2 != x9) x559000 bt568.2) else (laws_FnExactAddPair.j2 k bt568.1 true x559000 bt568.2))))) else (some false)))))
def laws_FnExactAddPair.j2:Nat→Int→Bool→Int→List (S80)→Option (Bool)
 | 0,_,_,_,_=>none
 | k+1,x14,x97,x559000,x559001=>if x97=true then (some false) else ((laws_heldParty.f k x559000 x559001 1).bind fun t582=>(if t582 < 0 then (some false) else (if t582=x14 then (some true) else (some false))))
end
def laws_FnExactAddPair.f (k:Nat) (a0_0:Int) (l0_1:List (S94)) (a1:Int) (a2:Int):Option (Bool):=(laws_szParty.f a0_0 l0_1 1048576).bind fun t537=>(if t537 < 0 then (some true) else ((laws_toParty.f k a0_0 l0_1).bind fun bt538=>((spec_AddPair.f k bt538.1 bt538.2 a1 a2).bind fun bt542=>((laws_toParty.f k a0_0 l0_1).bind fun bt548=>((impl_AddPair.f k bt548.1 bt548.2 a1 a2).bind fun bt553=>((laws_eqParty.f k bt553.1 bt553.2.1 bt542.1 bt542.2.1).bind fun t559=>(if t559=true then (laws_FnExactAddPair.j0 k a1 a2 bt542.2.2 bt553.2.2 (bt553.2.2 != bt542.2.2) a0_0 l0_1 bt542.1 bt542.2.1 bt548.1 bt548.2 bt553.1 bt553.2.1) else (laws_FnExactAddPair.j0 k a1 a2 bt542.2.2 bt553.2.2 true a0_0 l0_1 bt542.1 bt542.2.1 bt548.1 bt548.2 bt553.1 bt553.2.1))))))))
theorem laws_FnExactAddPair.mono_l:∀ k,(∀ y0 y1 y2 y3 y4 y5 y6 y7 y8 y9 y10 y11 y12,LeO (laws_FnExactAddPair.j0 k y0 y1 y2 y3 y4 y5 y6 y7 y8 y9 y10 y11 y12) (laws_FnExactAddPair.j0 (k+1) y0 y1 y2 y3 y4 y5 y6 y7 y8 y9 y10 y11 y12))∧(∀ y0 y1 y2 y3 y4 y5 y6 y7 y8 y9,LeO (laws_FnExactAddPair.j1 k y0 y1 y2 y3 y4 y5 y6 y7 y8 y9) (laws_FnExactAddPair.j1 (k+1) y0 y1 y2 y3 y4 y5 y6 y7 y8 y9))∧(∀ y0 y1 y2 y3,LeO (laws_FnExactAddPair.j2 k y0 y1 y2 y3) (laws_FnExactAddPair.j2 (k+1) y0 y1 y2 y3))
 | 0=>⟨fun _ _ _ _ _ _ _ _ _ _ _ _ _ r h=>by simp [laws_FnExactAddPair.j0] at h,fun _ _ _ _ _ _ _ _ _ _ r h=>by simp [laws_FnExactAddPair.j1] at h,fun _ _ _ _ r h=>by simp [laws_FnExactAddPair.j2] at h⟩
 | k+1=>by
  obtain ⟨ih0,ih1,ih2⟩:=laws_FnExactAddPair.mono_l k
  refine ⟨?_,?_,?_⟩
  ·intro y0 y1 y2 y3 y4 y5 y6 y7 y8 y9 y10 y11 y12
   unfold laws_FnExactAddPair.j0
   repeat' first
   | (with_reducible exact ih0 _ _ _ _ _ _ _ _ _ _ _ _ _)
   | (with_reducible exact ih1 _ _ _ _ _ _ _ _ _ _)
   | (with_reducible exact ih2 _ _ _ _)
   | (with_reducible exact impl_AddPair.mono _ _ _ _ _)
   | (with_reducible exact laws_eqParty.mono _ _ _ _ _)
   | (with_reducible exact laws_heldParty.mono _ _ _ _)
   | (with_reducible exact laws_markParty.mono _ _ _ _)
   | (with_reducible exact laws_toParty.mono _ _ _)
   | (with_reducible exact spec_AddPair.mono _ _ _ _ _)
   | (with_reducible exact LeO.refl _)
   | (with_reducible exact LeO.none _)
   | (with_reducible refine LeO.ite ?_ ?_)
   | (with_reducible refine LeO.bind ?_ (fun _=>?_))
   | exact ih0 _ _ _ _ _ _ _ _ _ _ _ _ _
   | exact ih1 _ _ _ _ _ _ _ _ _ _
   | exact ih2 _ _ _ _
   | exact impl_AddPair.mono _ _ _ _ _
   | exact laws_eqParty.mono _ _ _ _ _
   | exact laws_heldParty.mono _ _ _ _
   | exact laws_markParty.mono _ _ _ _
   | exact laws_toParty.mono _ _ _
   | exact spec_AddPair.mono _ _ _ _ _
   | exact LeO.none _
   | refine LeO.ite ?_ ?_
   | refine LeO.bind ?_ (fun _=>?_)
  ·intro y0 y1 y2 y3 y4 y5 y6 y7 y8 y9
   unfold laws_FnExactAddPair.j1
   repeat' first
   | (with_reducible exact ih0 _ _ _ _ _ _ _ _ _ _ _ _ _)
   | (with_reducible exact ih1 _ _ _ _ _ _ _ _ _ _)
   | (with_reducible exact ih2 _ _ _ _)
   | (with_reducible exact impl_AddPair.mono _ _ _ _ _)
   | (with_reducible exact laws_eqParty.mono _ _ _ _ _)
   | (with_reducible exact laws_heldParty.mono _ _ _ _)
   | (with_reducible exact laws_markParty.mono _ _ _ _)
   | (with_reducible exact laws_toParty.mono _ _ _)
   | (with_reducible exact spec_AddPair.mono _ _ _ _ _)
   | (with_reducible exact LeO.refl _)
   | (with_reducible exact LeO.none _)
   | (with_reducible refine LeO.ite ?_ ?_)
   | (with_reducible refine LeO.bind ?_ (fun _=>?_))
   | exact ih0 _ _ _ _ _ _ _ _ _ _ _ _ _
   | exact ih1 _ _ _ _ _ _ _ _ _ _
   | exact ih2 _ _ _ _
   | exact impl_AddPair.mono _ _ _ _ _
   | exact laws_eqParty.mono _ _ _ _ _
   | exact laws_heldParty.mono _ _ _ _
   | exact laws_markParty.mono _ _ _ _
   | exact laws_toParty.mono _ _ _
   | exact spec_AddPair.mono _ _ _ _ _
   | exact LeO.none _
   | refine LeO.ite ?_ ?_
   | refine LeO.bind ?_ (fun _=>?_)
  ·intro y0 y1 y2 y3
   unfold laws_FnExactAddPair.j2
   repeat' first
   | (with_reducible exact ih0 _ _ _ _ _ _ _ _ _ _ _ _ _)
   | (with_reducible exact ih1 _ _ _ _ _ _ _ _ _ _)
   | (with_reducible exact ih2 _ _ _ _)
   | (with_reducible exact impl_AddPair.mono _ _ _ _ _)
   | (with_reducible exact laws_eqParty.mono _ _ _ _ _)
   | (with_reducible exact laws_heldParty.mono _ _ _ _)
   | (with_reducible exact laws_markParty.mono _ _ _ _)
   | (with_reducible exact laws_toParty.mono _ _ _)
   | (with_reducible exact spec_AddPair.mono _ _ _ _ _)
   | (with_reducible exact LeO.refl _)
   | (with_reducible exact LeO.none _)
   | (with_reducible refine LeO.ite ?_ ?_)
   | (with_reducible refine LeO.bind ?_ (fun _=>?_))
   | exact ih0 _ _ _ _ _ _ _ _ _ _ _ _ _
   | exact ih1 _ _ _ _ _ _ _ _ _ _
   | exact ih2 _ _ _ _
   | exact impl_AddPair.mono _ _ _ _ _
   | exact laws_eqParty.mono _ _ _ _ _
   | exact laws_heldParty.mono _ _ _ _
   | exact laws_markParty.mono _ _ _ _
   | exact laws_toParty.mono _ _ _
   | exact spec_AddPair.mono _ _ _ _ _
   | exact LeO.none _
   | refine LeO.ite ?_ ?_
   | refine LeO.bind ?_ (fun _=>?_)
theorem laws_FnExactAddPair.mono:∀ a0 a1 a2 a3 k,LeO (laws_FnExactAddPair.f k a0 a1 a2 a3) (laws_FnExactAddPair.f (k+1) a0 a1 a2 a3):=by
 intro a0 a1 a2 a3 k
 obtain ⟨ih0,ih1,ih2⟩:=laws_FnExactAddPair.mono_l k
 unfold laws_FnExactAddPair.f
 repeat' first
   | (with_reducible exact ih0 _ _ _ _ _ _ _ _ _ _ _ _ _)
   | (with_reducible exact ih1 _ _ _ _ _ _ _ _ _ _)
   | (with_reducible exact ih2 _ _ _ _)
   | (with_reducible exact impl_AddPair.mono _ _ _ _ _)
   | (with_reducible exact laws_eqParty.mono _ _ _ _ _)
   | (with_reducible exact laws_heldParty.mono _ _ _ _)
   | (with_reducible exact laws_markParty.mono _ _ _ _)
   | (with_reducible exact laws_toParty.mono _ _ _)
   | (with_reducible exact spec_AddPair.mono _ _ _ _ _)
   | (with_reducible exact LeO.refl _)
   | (with_reducible exact LeO.none _)
   | (with_reducible refine LeO.ite ?_ ?_)
   | (with_reducible refine LeO.bind ?_ (fun _=>?_))
   | exact ih0 _ _ _ _ _ _ _ _ _ _ _ _ _
   | exact ih1 _ _ _ _ _ _ _ _ _ _
   | exact ih2 _ _ _ _
   | exact impl_AddPair.mono _ _ _ _ _
   | exact laws_eqParty.mono _ _ _ _ _
   | exact laws_heldParty.mono _ _ _ _
   | exact laws_markParty.mono _ _ _ _
   | exact laws_toParty.mono _ _ _
   | exact spec_AddPair.mono _ _ _ _ _
   | exact LeO.none _
   | refine LeO.ite ?_ ?_
   | refine LeO.bind ?_ (fun _=>?_)
set_option maxHeartbeats 8000000 in
set_option maxRecDepth 100000 in
theorem laws_FnExactAddPair.calls (k:Nat) (a0_0:Int) (A0_1:Option Addr) (c0_1:Nat) (l0_1:List (S94)) (a1:Int) (a2:Int) (r:Bool) (w:World) (hr0_1:Kd.C k94 w A0_1 l0_1.length l0_1) (hc0_1:l0_1.length≤c0_1) (h:laws_FnExactAddPair.f k a0_0 l0_1 a1 a2=some r) :
  Calls Try.prog 8 #[.agg #[.int .i64 a0_0,.slice A0_1 l0_1.length c0_1],.int .i64 a1,.int .i64 a2] w fun e w'=>e=.returned (.bool r)∧Below w.heap.size w w':=by
 have hu24:=Try.underlying24
 have hu30:=Try.underlying30
 have HR0_1:=Aside0.mk hr0_1
 have HC0_1:=Aside0.mk hc0_1
 clear hr0_1 hc0_1
 have HB:=Aside0.mk (Below.refl w.heap.size w)
 have H:((laws_szParty.f a0_0 l0_1 1048576).bind fun t537=>(if t537 < 0 then (some true) else ((laws_toParty.f k a0_0 l0_1).bind fun bt538=>((spec_AddPair.f k bt538.1 bt538.2 a1 a2).bind fun bt542=>((laws_toParty.f k a0_0 l0_1).bind fun bt548=>((impl_AddPair.f k bt548.1 bt548.2 a1 a2).bind fun bt553=>((laws_eqParty.f k bt553.1 bt553.2.1 bt542.1 bt542.2.1).bind fun t559=>(if t559=true then (laws_FnExactAddPair.j0 k a1 a2 bt542.2.2 bt553.2.2 (bt553.2.2 != bt542.2.2) a0_0 l0_1 bt542.1 bt542.2.1 bt548.1 bt548.2 bt553.1 bt553.2.1) else (laws_FnExactAddPair.j0 k a1 a2 bt542.2.2 bt553.2.2 true a0_0 l0_1 bt542.1 bt542.2.1 bt548.1 bt548.2 bt553.1 bt553.2.1)))))))))=some r:=h
 clear h
 replace H:=zz30.mp H
 obtain ⟨t537,A40,H⟩:=H
 replace H:(if t537 < 0 then (some true) else ((laws_toParty.f k a0_0 l0_1).bind fun bt538=>((spec_AddPair.f k bt538.1 bt538.2 a1 a2).bind fun bt542=>((laws_toParty.f k a0_0 l0_1).bind fun bt548=>((impl_AddPair.f k bt548.1 bt548.2 a1 a2).bind fun bt553=>((laws_eqParty.f k bt553.1 bt553.2.1 bt542.1 bt542.2.1).bind fun t559=>(if t559=true then (laws_FnExactAddPair.j0 k a1 a2 bt542.2.2 bt553.2.2 (bt553.2.2 != bt542.2.2) a0_0 l0_1 bt542.1 bt542.2.1 bt548.1 bt548.2 bt553.1 bt553.2.1) else (laws_FnExactAddPair.j0 k a1 a2 bt542.2.2 bt553.2.2 true a0_0 l0_1 bt542.1 bt542.2.1 bt548.1 bt548.2 bt553.1 bt553.2.1))))))))=some r:=H
 have A4:=Aside0.mk A40
 clear A40
 by_cases c5:t537 < 0
 ·rw [if_pos c5] at H
  have c5b0:decide (t537 < 0)=true:=decide_eq_true c5
  clear c5
  obtain rfl:=Option.some.inj H
  go_enter Try.func8,Try.ntmps8
  go_wp2_with (first | ((with_reducible refine gate_dst (N:=3) rfl ?_);refine box_event ?hg (N:=3) ?hd (cs:=#[.int .i64 a0_0,.slice A0_1 l0_1.length c0_1]) (t:=24) ?hr ?_;(case hd=>rfl);(case hg=>rfl);(case hr=>first | (go_simp;done) | (go_simp;rfl));intro gb536 hg w6 hbox hb;have n0_:=Aside0.mk (zz4 (by repeat first | exact HB.out | apply zz2 | apply zz0 | apply zz1) hb);have n1_:=Aside0.mk (hbox);have n2_:=Aside0.mk ((by rw [hg];exact (zz5 (by repeat first | exact HB.out | apply zz2 | apply zz0 | apply zz1)):w.heap.size≤gb536));have n3_:=Aside0.mk ((by rw [hg];exact (zz5 (by repeat first | exact HB.out | apply zz2 | apply zz0 | apply zz1)):w.heap.size≤gb536));clear HB;have HB:=n0_;have BK536:=n1_;have GW536:=n2_;have GE536:=n3_;clear n0_ n1_ n2_ n3_;clear hb hbox hg;have hcz7_0:w6.cell? ⟨gb536,0,none⟩=some (.int .i64 a0_0):=(zz9 BK536.out 0).trans rfl;have hcz7_1:w6.cell? ⟨gb536,1,none⟩=some (.slice A0_1 l0_1.length c0_1):=(zz9 BK536.out 1).trans rfl;have hfz7_0:=zz10 BK536.out 0;have hfz7_1:=zz10 BK536.out 1) | ((with_reducible refine gate_callee (f:=12) rfl ?_);refine goesL_ (some 20) rfl rfl Try.func12 (by kernel_rfl) rfl #[.agg #[.int .i64 a0_0,.slice A0_1 l0_1.length c0_1],.int .i64 1048576] rfl (by (try simp only [zz26,zz27,zz28]);first | done | rfl | (simp only [zz24,zz25];rfl) | (simp only [zz25];congr;(try simp only [decide_eq_true_eq] at *);omega)) ?_;(with_reducible refine (laws_szParty.calls a0_0 _ _ l0_1 1048576 t537 _ ?side1 ?side2 A4.out).mono ?_);(case side1=>repeat (first | exact (Kd.C_below HR0_1.out HB.out) | (with_reducible refine zz18 ?_ _) | (with_reducible refine zz19 ?_ _) | (with_reducible refine zz20 ?_)));(case side2=>exact HC0_1.out);rintro e w8 ⟨rfl,hb⟩;refine ⟨_,rfl,?_⟩;have n0_:=Aside0.mk (zz11 (g:=gb536) (o:=.cells #[.int .i64 a0_0,.slice A0_1 l0_1.length c0_1] 24 (0,0)) (by (with_reducible repeat (first | refine zz6 ?_ _ | refine zz7 ?_ | refine zz8 ?_ _));exact BK536.out) hb);have n1_:=Aside0.mk (zz4 (by repeat first | exact HB.out | apply zz2 | apply zz0 | apply zz1 | refine zz3 ?_ GE536.out) hb);clear BK536;clear HB;have BK536:=n0_;have HB:=n1_;clear n0_ n1_;(try clear hb);(try clear hb2);(try clear hk);(try clear hi)))
  go_ret
  exact ⟨by first | rfl | (simp [errW_none,errW_some] <;> rfl) | (simp [*,errW_none,errW_some] <;> rfl),by repeat first | exact HB.out | apply zz2 | apply zz0 | apply zz1 | refine zz3 ?_ GE536.out⟩
 ·rw [if_neg c5] at H
  have c5b0:decide (t537 < 0)=false:=decide_eq_false c5
  clear c5
  replace H:=zz30.mp H
  obtain ⟨⟨t538,t539⟩,A90,H⟩:=H
  replace H:((spec_AddPair.f k t538 t539 a1 a2).bind fun bt542=>((laws_toParty.f k a0_0 l0_1).bind fun bt548=>((impl_AddPair.f k bt548.1 bt548.2 a1 a2).bind fun bt553=>((laws_eqParty.f k bt553.1 bt553.2.1 bt542.1 bt542.2.1).bind fun t559=>(if t559=true then (laws_FnExactAddPair.j0 k a1 a2 bt542.2.2 bt553.2.2 (bt553.2.2 != bt542.2.2) a0_0 l0_1 bt542.1 bt542.2.1 bt548.1 bt548.2 bt553.1 bt553.2.1) else (laws_FnExactAddPair.j0 k a1 a2 bt542.2.2 bt553.2.2 true a0_0 l0_1 bt542.1 bt542.2.1 bt548.1 bt548.2 bt553.1 bt553.2.1))))))=some r:=H
  have A9:=Aside0.mk A90
  clear A90
  replace H:=zz30.mp H
  obtain ⟨⟨t542,t543,t546⟩,A100,H⟩:=H
  replace H:((laws_toParty.f k a0_0 l0_1).bind fun bt548=>((impl_AddPair.f k bt548.1 bt548.2 a1 a2).bind fun bt553=>((laws_eqParty.f k bt553.1 bt553.2.1 t542 t543).bind fun t559=>(if t559=true then (laws_FnExactAddPair.j0 k a1 a2 t546 bt553.2.2 (bt553.2.2 != t546) a0_0 l0_1 t542 t543 bt548.1 bt548.2 bt553.1 bt553.2.1) else (laws_FnExactAddPair.j0 k a1 a2 t546 bt553.2.2 true a0_0 l0_1 t542 t543 bt548.1 bt548.2 bt553.1 bt553.2.1)))))=some r:=H
  have A10:=Aside0.mk A100
  clear A100
  replace H:=zz30.mp H
  obtain ⟨⟨t548,t549⟩,A110,H⟩:=H
  replace H:((impl_AddPair.f k t548 t549 a1 a2).bind fun bt553=>((laws_eqParty.f k bt553.1 bt553.2.1 t542 t543).bind fun t559=>(if t559=true then (laws_FnExactAddPair.j0 k a1 a2 t546 bt553.2.2 (bt553.2.2 != t546) a0_0 l0_1 t542 t543 t548 t549 bt553.1 bt553.2.1) else (laws_FnExactAddPair.j0 k a1 a2 t546 bt553.2.2 true a0_0 l0_1 t542 t543 t548 t549 bt553.1 bt553.2.1))))=some r:=H
  have A11:=Aside0.mk A110
  clear A110
  replace H:=zz30.mp H
  obtain ⟨⟨t553,t554,t557⟩,A120,H⟩:=H
  replace H:((laws_eqParty.f k t553 t554 t542 t543).bind fun t559=>(if t559=true then (laws_FnExactAddPair.j0 k a1 a2 t546 t557 (t557 != t546) a0_0 l0_1 t542 t543 t548 t549 t553 t554) else (laws_FnExactAddPair.j0 k a1 a2 t546 t557 true a0_0 l0_1 t542 t543 t548 t549 t553 t554)))=some r:=H
  have A12:=Aside0.mk A120
  clear A120
  have HC13:=Aside0.mk H
  clear H
  go_enter Try.func8,Try.ntmps8
  go_upto_region 8 with (first | ((with_reducible refine gate_dst (N:=3) rfl ?_);refine box_event ?hg (N:=3) ?hd (cs:=#[.int .i64 a0_0,.slice A0_1 l0_1.length c0_1]) (t:=24) ?hr ?_;(case hd=>rfl);(case hg=>rfl);(case hr=>first | (go_simp;done) | (go_simp;rfl));intro gb536 hg w14 hbox hb;have n0_:=Aside0.mk (zz4 (by repeat first | exact HB.out | apply zz2 | apply zz0 | apply zz1) hb);have n1_:=Aside0.mk (hbox);have n2_:=Aside0.mk ((by rw [hg];exact (zz5 (by repeat first | exact HB.out | apply zz2 | apply zz0 | apply zz1)):w.heap.size≤gb536));have n3_:=Aside0.mk ((by rw [hg];exact (zz5 (by repeat first | exact HB.out | apply zz2 | apply zz0 | apply zz1)):w.heap.size≤gb536));clear HB;have HB:=n0_;have BK536:=n1_;have GW536:=n2_;have GE536:=n3_;clear n0_ n1_ n2_ n3_;clear hb hbox hg;have hcz15_0:w14.cell? ⟨gb536,0,none⟩=some (.int .i64 a0_0):=(zz9 BK536.out 0).trans rfl;have hcz15_1:w14.cell? ⟨gb536,1,none⟩=some (.slice A0_1 l0_1.length c0_1):=(zz9 BK536.out 1).trans rfl;have hfz15_0:=zz10 BK536.out 0;have hfz15_1:=zz10 BK536.out 1) | ((with_reducible refine gate_callee (f:=12) rfl ?_);refine goesL_ (some 20) rfl rfl Try.func12 (by kernel_rfl) rfl #[.agg #[.int .i64 a0_0,.slice A0_1 l0_1.length c0_1],.int .i64 1048576] rfl (by (try simp only [zz26,zz27,zz28]);first | done | rfl | (simp only [zz24,zz25];rfl) | (simp only [zz25];congr;(try simp only [decide_eq_true_eq] at *);omega)) ?_;(with_reducible refine (laws_szParty.calls a0_0 _ _ l0_1 1048576 t537 _ ?side1 ?side2 A4.out).mono ?_);(case side1=>repeat (first | exact (Kd.C_below HR0_1.out HB.out) | (with_reducible refine zz18 ?_ _) | (with_reducible refine zz19 ?_ _) | (with_reducible refine zz20 ?_)));(case side2=>exact HC0_1.out);rintro e w16 ⟨rfl,hb⟩;refine ⟨_,rfl,?_⟩;have n0_:=Aside0.mk (zz11 (g:=gb536) (o:=.cells #[.int .i64 a0_0,.slice A0_1 l0_1.length c0_1] 24 (0,0)) (by (with_reducible repeat (first | refine zz6 ?_ _ | refine zz7 ?_ | refine zz8 ?_ _));exact BK536.out) hb);have n1_:=Aside0.mk (zz4 (by repeat first | exact HB.out | apply zz2 | apply zz0 | apply zz1 | refine zz3 ?_ GE536.out) hb);clear BK536;clear HB;have BK536:=n0_;have HB:=n1_;clear n0_ n1_;(try clear hb);(try clear hb2);(try clear hk);(try clear hi);have hcz17_0:w16.cell? ⟨gb536,0,none⟩=some (.int .i64 a0_0):=(zz9 BK536.out 0).trans rfl;have hcz17_1:w16.cell? ⟨gb536,1,none⟩=some (.slice A0_1 l0_1.length c0_1):=(zz9 BK536.out 1).trans rfl;have hfz17_0:=zz10 BK536.out 0;have hfz17_1:=zz10 BK536.out 1) | ((with_reducible refine gate_callee (f:=14) rfl ?_);refine goesL_ (some 25) rfl rfl Try.func14 (by kernel_rfl) rfl #[.agg #[.int .i64 a0_0,.slice A0_1 l0_1.length c0_1]] rfl (by (try simp only [zz26,zz27,zz28]);first | done | rfl | (simp only [zz24,zz25];rfl) | (simp only [zz25];congr;(try simp only [decide_eq_true_eq] at *);omega)) ?_;(with_reducible refine (laws_toParty.calls k a0_0 _ _ l0_1 t538 t539 _ ?side1 ?side2 A9.out).mono ?_);(case side1=>repeat (first | exact (Kd.C_below HR0_1.out HB.out) | (with_reducible refine zz18 ?_ _) | (with_reducible refine zz19 ?_ _) | (with_reducible refine zz20 ?_)));(case side2=>exact HC0_1.out);rintro e w18 ⟨v540,rfl,ho0,hb⟩;refine ⟨_,rfl,?_⟩;have n0_:=Aside0.mk (Kd.R_lower ho0 (zz5 (by repeat first | exact HB.out | apply zz2 | apply zz0 | apply zz1 | refine zz3 ?_ GE536.out)));have n1_:=Aside0.mk (zz11 (g:=gb536) (o:=.cells #[.int .i64 a0_0,.slice A0_1 l0_1.length c0_1] 24 (0,0)) (by (with_reducible repeat (first | refine zz6 ?_ _ | refine zz7 ?_ | refine zz8 ?_ _));exact BK536.out) hb);have n2_:=Aside0.mk (zz4 (by repeat first | exact HB.out | apply zz2 | apply zz0 | apply zz1 | refine zz3 ?_ GE536.out) hb);clear BK536;clear HB;have HO541:=n0_;have BK536:=n1_;have HB:=n2_;clear n0_ n1_ n2_;(try clear hb);(try clear hb2);(try clear hk);(try clear hi);(try clear ho0);obtain ⟨Ao19,co19,eo19⟩:=Kd.R_slice HO541.out;subst eo19) | ((with_reducible refine gate_callee (f:=32) rfl ?_);refine goesL_ (some 28) rfl rfl Try.func32 (by kernel_rfl) rfl #[.agg #[.int .i64 t538,.slice Ao19 t539.length co19],.int .i64 a1,.int .i64 a2] rfl (by (try simp only [zz26,zz27,zz28]);first | done | rfl | (simp only [zz24,zz25];rfl) | (simp only [zz25];congr;(try simp only [decide_eq_true_eq] at *);omega)) ?_;(with_reducible refine (spec_AddPair.calls k t538 _ _ t539 a1 a2 t542 t543 t546 _ ?side1 ?side2 A10.out).mono ?_);(case side1=>repeat (first | exact (Kd.R_reads' HO541.out).2.2 | (with_reducible refine zz18 ?_ _) | (with_reducible refine zz19 ?_ _) | (with_reducible refine zz20 ?_)));(case side2=>exact (Kd.R_reads' HO541.out).2.1);rintro e w20 ⟨v544,rfl,ho0,hb⟩;refine ⟨_,rfl,?_⟩;have n0_:=Aside0.mk (Kd.R_elder' (by (with_reducible repeat (first | apply zz12 | apply zz13 | apply zz14));exact HO541.out) (Kd.R_base ho0) hb);have n1_:=Aside0.mk (Kd.R_lower (Kd.R_new' ho0 (Kd.R_lt (by (with_reducible repeat (first | apply zz12 | apply zz13 | apply zz14));exact HO541.out))) (zz5 (by repeat first | exact HB.out | apply zz2 | apply zz0 | apply zz1 | refine zz3 ?_ GE536.out)));have n2_:=Aside0.mk (zz11 (g:=gb536) (o:=.cells #[.int .i64 a0_0,.slice A0_1 l0_1.length c0_1] 24 (0,0)) (by (with_reducible repeat (first | refine zz6 ?_ _ | refine zz7 ?_ | refine zz8 ?_ _));exact BK536.out) hb);have n3_:=Aside0.mk (zz4 (by repeat first | exact HB.out | apply zz2 | apply zz0 | apply zz1 | refine zz3 ?_ GE536.out) hb);clear HO541;clear BK536;clear HB;have HO541:=n0_;have HO545:=n1_;have BK536:=n2_;have HB:=n3_;clear n0_ n1_ n2_ n3_;(try clear hb);(try clear hb2);(try clear hk);(try clear hi);(try clear ho0)) | ((with_reducible refine gate_dst (N:=8) rfl ?_);refine box_event ?hg (N:=8) ?hd (cs:=#[.int .i64 0,.slice none 0 0]) (t:=30) ?hr ?_;(case hd=>rfl);(case hg=>rfl);(case hr=>first | (go_simp;done) | (go_simp;rfl));intro gb547 hg w21 hbox hb;have n0_:=Aside0.mk (Kd.R_below (by (with_reducible repeat (first | apply zz12 | apply zz13 | apply zz14));exact HO541.out) hb);have n1_:=Aside0.mk (Kd.R_below (by (with_reducible repeat (first | apply zz12 | apply zz13 | apply zz14));exact HO545.out) hb);have n2_:=Aside0.mk (zz11 (g:=gb536) (o:=.cells #[.int .i64 a0_0,.slice A0_1 l0_1.length c0_1] 24 (0,0)) (by (with_reducible repeat (first | refine zz6 ?_ _ | refine zz7 ?_ | refine zz8 ?_ _));exact BK536.out) hb);have n3_:=Aside0.mk (zz4 (by repeat first | exact HB.out | apply zz2 | apply zz0 | apply zz1 | refine zz3 ?_ GE536.out) hb);have n4_:=Aside0.mk (hbox);have n5_:=Aside0.mk ((by rw [hg];exact (zz5 (by repeat first | exact HB.out | apply zz2 | apply zz0 | apply zz1 | refine zz3 ?_ GE536.out)):w.heap.size≤gb547));have n6_:=Aside0.mk ((by rw [hg];exact (zz5 (by repeat first | exact HB.out | apply zz2 | apply zz0 | apply zz1 | refine zz3 ?_ GE536.out)):w.heap.size≤gb547));have n7_:=Aside0.mk ((by rw [hg];exact Nat.ne_of_lt (blk_lt (g:=gb536) (o:=.cells #[.int .i64 a0_0,.slice A0_1 l0_1.length c0_1] 24 (0,0)) (by (with_reducible repeat (first | refine zz6 ?_ _ | refine zz7 ?_ | refine zz8 ?_ _));exact BK536.out)):gb536 ≠ gb547));have n8_:=Aside0.mk ((by rw [hg];exact Nat.ne_of_gt (blk_lt (g:=gb536) (o:=.cells #[.int .i64 a0_0,.slice A0_1 l0_1.length c0_1] 24 (0,0)) (by (with_reducible repeat (first | refine zz6 ?_ _ | refine zz7 ?_ | refine zz8 ?_ _));exact BK536.out)):gb547 ≠ gb536));clear HO541;clear HO545;clear BK536;clear HB;have HO541:=n0_;have HO545:=n1_;have BK536:=n2_;have HB:=n3_;have BK547:=n4_;have GW547:=n5_;have GE547:=n6_;have NB536_547:=n7_;have NB547_536:=n8_;clear n0_ n1_ n2_ n3_ n4_ n5_ n6_ n7_ n8_;clear hb hbox hg;have hnb22:=NB547_536.out;have hnc22:=NB536_547.out;have hcz23_0:w21.cell? ⟨gb547,0,none⟩=some (.int .i64 0):=(zz9 BK547.out 0).trans rfl;have hcz23_1:w21.cell? ⟨gb547,1,none⟩=some (.slice none 0 0):=(zz9 BK547.out 1).trans rfl;have hfz23_0:=zz10 BK547.out 0;have hfz23_1:=zz10 BK547.out 1;obtain ⟨Ao24,co24,eo24⟩:=Kd.R_slice HO545.out;subst eo24;have hcz25_0:w21.cell? ⟨gb536,0,none⟩=some (.int .i64 a0_0):=(zz9 BK536.out 0).trans rfl;have hcz25_1:w21.cell? ⟨gb536,1,none⟩=some (.slice A0_1 l0_1.length c0_1):=(zz9 BK536.out 1).trans rfl;have hfz25_0:=zz10 BK536.out 0;have hfz25_1:=zz10 BK536.out 1) | ((with_reducible refine gate_callee (f:=14) rfl ?_);refine goesL_ (some 32) rfl rfl Try.func14 (by kernel_rfl) rfl #[.agg #[.int .i64 a0_0,.slice A0_1 l0_1.length c0_1]] rfl (by (try simp only [zz26,zz27,zz28]);first | done | rfl | (simp only [zz24,zz25];rfl) | (simp only [zz25];congr;(try simp only [decide_eq_true_eq] at *);omega)) ?_;(with_reducible refine (laws_toParty.calls k a0_0 _ _ l0_1 t548 t549 _ ?side1 ?side2 A11.out).mono ?_);(case side1=>exact Kd.C_below HR0_1.out (by repeat first | exact HB.out | apply zz2 | apply zz0 | apply zz1 | refine zz3 ?_ GE536.out | refine zz3 ?_ GE547.out));(case side2=>exact HC0_1.out);rintro e w26 ⟨v550,rfl,ho0,hb⟩;refine ⟨_,rfl,?_⟩;have n0_:=Aside0.mk (Kd.R_elder' (by (with_reducible repeat (first | apply zz12 | apply zz13 | apply zz14));exact (Kd.R_mono (Kd.R_far (p:=⟨gb547,1,none⟩) (Kd.R_far (p:=⟨gb547,0,none⟩) (Kd.R_types HO541.out BK547.out (by decide)) (fun _ hk=>hk.2) (.int .i64 t542)) (fun _ hk=>hk.2) (.slice Ao24 t543.length co24)) (fun _ h_=>h_.1))) (Kd.R_base ho0) hb);have n1_:=Aside0.mk (Kd.R_elder' (by (with_reducible repeat (first | apply zz12 | apply zz13 | apply zz14));exact (Kd.R_mono (Kd.R_far (p:=⟨gb547,1,none⟩) (Kd.R_far (p:=⟨gb547,0,none⟩) (Kd.R_types HO545.out BK547.out (by decide)) (fun _ hk=>hk.2) (.int .i64 t542)) (fun _ hk=>hk.2) (.slice Ao24 t543.length co24)) (fun _ h_=>h_.1))) (Kd.R_base ho0) hb);have n2_:=Aside0.mk (Kd.R_lower (Kd.R_new' (Kd.R_new' ho0 (Kd.R_lt (by (with_reducible repeat (first | apply zz12 | apply zz13 | apply zz14));exact (Kd.R_mono (Kd.R_far (p:=⟨gb547,1,none⟩) (Kd.R_far (p:=⟨gb547,0,none⟩) (Kd.R_types HO541.out BK547.out (by decide)) (fun _ hk=>hk.2) (.int .i64 t542)) (fun _ hk=>hk.2) (.slice Ao24 t543.length co24)) (fun _ h_=>h_.1))))) (Kd.R_lt (by (with_reducible repeat (first | apply zz12 | apply zz13 | apply zz14));exact (Kd.R_mono (Kd.R_far (p:=⟨gb547,1,none⟩) (Kd.R_far (p:=⟨gb547,0,none⟩) (Kd.R_types HO545.out BK547.out (by decide)) (fun _ hk=>hk.2) (.int .i64 t542)) (fun _ hk=>hk.2) (.slice Ao24 t543.length co24)) (fun _ h_=>h_.1))))) (zz5 (by repeat first | exact HB.out | apply zz2 | apply zz0 | apply zz1 | refine zz3 ?_ GE536.out | refine zz3 ?_ GE547.out)));have n3_:=Aside0.mk (zz11 (g:=gb536) (o:=.cells #[.int .i64 a0_0,.slice A0_1 l0_1.length c0_1] 24 (0,0)) (by (with_reducible repeat (first | refine zz6 ?_ _ | refine zz7 ?_ | refine zz8 ?_ _));refine blk_far ?_ NB536_547.out _;(with_reducible repeat (first | refine zz6 ?_ _ | refine zz7 ?_ | refine zz8 ?_ _));refine blk_far ?_ NB536_547.out _;(with_reducible repeat (first | refine zz6 ?_ _ | refine zz7 ?_ | refine zz8 ?_ _));exact BK536.out) hb);have n4_:=Aside0.mk (zz11 (g:=gb547) (o:=.cells #[.int .i64 t542,.slice Ao24 t543.length co24] 30 (0,0)) (by (with_reducible repeat (first | refine zz6 ?_ _ | refine zz7 ?_ | refine zz8 ?_ _));refine blk_put (cs:=#[.int .i64 t542,.slice none 0 0]) ?_ 1 _ rfl;(with_reducible repeat (first | refine zz6 ?_ _ | refine zz7 ?_ | refine zz8 ?_ _));refine blk_put (cs:=#[.int .i64 0,.slice none 0 0]) ?_ 0 _ rfl;(with_reducible repeat (first | refine zz6 ?_ _ | refine zz7 ?_ | refine zz8 ?_ _));exact BK547.out) hb);have n5_:=Aside0.mk (zz4 (by repeat first | exact HB.out | apply zz2 | apply zz0 | apply zz1 | refine zz3 ?_ GE536.out | refine zz3 ?_ GE547.out) hb);clear HO541;clear HO545;clear BK536;clear BK547;clear HB;have HO541:=n0_;have HO545:=n1_;have HO551:=n2_;have BK536:=n3_;have BK547:=n4_;have HB:=n5_;clear n0_ n1_ n2_ n3_ n4_ n5_;(try clear hb);(try clear hb2);(try clear hk);(try clear hi);(try clear ho0)) | ((with_reducible refine gate_dst (N:=10) rfl ?_);refine box_event ?hg (N:=10) ?hd (cs:=#[.int .i64 0,.slice none 0 0]) (t:=30) ?hr ?_;(case hd=>rfl);(case hg=>rfl);(case hr=>first | (go_simp;done) | (go_simp;rfl));intro gb552 hg w27 hbox hb;have n0_:=Aside0.mk (Kd.R_below (by (with_reducible repeat (first | apply zz12 | apply zz13 | apply zz14));exact HO541.out) hb);have n1_:=Aside0.mk (Kd.R_below (by (with_reducible repeat (first | apply zz12 | apply zz13 | apply zz14));exact HO545.out) hb);have n2_:=Aside0.mk (Kd.R_below (by (with_reducible repeat (first | apply zz12 | apply zz13 | apply zz14));exact HO551.out) hb);have n3_:=Aside0.mk (zz11 (g:=gb536) (o:=.cells #[.int .i64 a0_0,.slice A0_1 l0_1.length c0_1] 24 (0,0)) (by (with_reducible repeat (first | refine zz6 ?_ _ | refine zz7 ?_ | refine zz8 ?_ _));exact BK536.out) hb);have n4_:=Aside0.mk (zz11 (g:=gb547) (o:=.cells #[.int .i64 t542,.slice Ao24 t543.length co24] 30 (0,0)) (by (with_reducible repeat (first | refine zz6 ?_ _ | refine zz7 ?_ | refine zz8 ?_ _));exact BK547.out) hb);have n5_:=Aside0.mk (zz4 (by repeat first | exact HB.out | apply zz2 | apply zz0 | apply zz1 | refine zz3 ?_ GE536.out | refine zz3 ?_ GE547.out) hb);have n6_:=Aside0.mk (hbox);have n7_:=Aside0.mk ((by rw [hg];exact (zz5 (by repeat first | exact HB.out | apply zz2 | apply zz0 | apply zz1 | refine zz3 ?_ GE536.out | refine zz3 ?_ GE547.out)):w.heap.size≤gb552));have n8_:=Aside0.mk ((by rw [hg];exact (zz5 (by repeat first | exact HB.out | apply zz2 | apply zz0 | apply zz1 | refine zz3 ?_ GE536.out | refine zz3 ?_ GE547.out)):w.heap.size≤gb552));have n9_:=Aside0.mk ((by rw [hg];exact Nat.ne_of_lt (blk_lt (g:=gb536) (o:=.cells #[.int .i64 a0_0,.slice A0_1 l0_1.length c0_1] 24 (0,0)) (by (with_reducible repeat (first | refine zz6 ?_ _ | refine zz7 ?_ | refine zz8 ?_ _));exact BK536.out)):gb536 ≠ gb552));have n10_:=Aside0.mk ((by rw [hg];exact Nat.ne_of_gt (blk_lt (g:=gb536) (o:=.cells #[.int .i64 a0_0,.slice A0_1 l0_1.length c0_1] 24 (0,0)) (by (with_reducible repeat (first | refine zz6 ?_ _ | refine zz7 ?_ | refine zz8 ?_ _));exact BK536.out)):gb552 ≠ gb536));have n11_:=Aside0.mk ((by rw [hg];exact Nat.ne_of_lt (blk_lt (g:=gb547) (o:=.cells #[.int .i64 t542,.slice Ao24 t543.length co24] 30 (0,0)) (by (with_reducible repeat (first | refine zz6 ?_ _ | refine zz7 ?_ | refine zz8 ?_ _));exact BK547.out)):gb547 ≠ gb552));have n12_:=Aside0.mk ((by rw [hg];exact Nat.ne_of_gt (blk_lt (g:=gb547) (o:=.cells #[.int .i64 t542,.slice Ao24 t543.length co24] 30 (0,0)) (by (with_reducible repeat (first | refine zz6 ?_ _ | refine zz7 ?_ | refine zz8 ?_ _));exact BK547.out)):gb552 ≠ gb547));clear HO541;clear HO545;clear HO551;clear BK536;clear BK547;clear HB;have HO541:=n0_;have HO545:=n1_;have HO551:=n2_;have BK536:=n3_;have BK547:=n4_;have HB:=n5_;have BK552:=n6_;have GW552:=n7_;have GE552:=n8_;have NB536_552:=n9_;have NB552_536:=n10_;have NB547_552:=n11_;have NB552_547:=n12_;clear n0_ n1_ n2_ n3_ n4_ n5_ n6_ n7_ n8_ n9_ n10_ n11_ n12_;clear hb hbox hg;have hnb28:=NB552_536.out;have hnc28:=NB536_552.out;have hnb29:=NB552_547.out;have hnc29:=NB547_552.out;have hcz30_0:w27.cell? ⟨gb552,0,none⟩=some (.int .i64 0):=(zz9 BK552.out 0).trans rfl;have hcz30_1:w27.cell? ⟨gb552,1,none⟩=some (.slice none 0 0):=(zz9 BK552.out 1).trans rfl;have hfz30_0:=zz10 BK552.out 0;have hfz30_1:=zz10 BK552.out 1;obtain ⟨Ao31,co31,eo31⟩:=Kd.R_slice HO551.out;subst eo31) | ((with_reducible refine gate_callee (f:=33) rfl ?_);refine goesL_ (some 37) rfl rfl Try.func33 (by kernel_rfl) rfl #[.agg #[.int .i64 t548,.slice Ao31 t549.length co31],.int .i64 a1,.int .i64 a2] rfl (by (try simp only [zz26,zz27,zz28]);first | done | rfl | (simp only [zz24,zz25];rfl) | (simp only [zz25];congr;(try simp only [decide_eq_true_eq] at *);omega)) ?_;(with_reducible refine (impl_AddPair.calls k t548 _ _ t549 a1 a2 t553 t554 t557 _ ?side1 ?side2 A12.out).mono ?_);(case side1=>refine (Kd.R_reads' (e:=80) (base:=w.heap.size) (ok:=fun k_=>((True∧some k_ ≠ (.slice Ao19 t539.length co19:Value).ownBlock)∧some k_ ≠ (.slice Ao24 t543.length co24:Value).ownBlock)) (n:=t549.length) (c:=co31) ?_).2.2;exact (by (with_reducible repeat (first | apply zz12 | apply zz13 | apply zz14));exact (Kd.R_mono (Kd.R_far (p:=⟨gb552,1,none⟩) (Kd.R_far (p:=⟨gb552,0,none⟩) (Kd.R_types HO551.out BK552.out (by decide)) (fun _ hk=>hk.2) (.int .i64 t548)) (fun _ hk=>hk.2) (.slice Ao31 t549.length co31)) (fun _ h_=>h_.1))));(case side2=>exact (Kd.R_reads' HO551.out).2.1);rintro e w32 ⟨v555,rfl,ho0,hb⟩;refine ⟨_,rfl,?_⟩;have n0_:=Aside0.mk (Kd.R_elder' (by (with_reducible repeat (first | apply zz12 | apply zz13 | apply zz14));exact (Kd.R_mono (Kd.R_far (p:=⟨gb552,1,none⟩) (Kd.R_far (p:=⟨gb552,0,none⟩) (Kd.R_types HO541.out BK552.out (by decide)) (fun _ hk=>hk.2) (.int .i64 t548)) (fun _ hk=>hk.2) (.slice Ao31 t549.length co31)) (fun _ h_=>h_.1))) (Kd.R_base ho0) hb);have n1_:=Aside0.mk (Kd.R_elder' (by (with_reducible repeat (first | apply zz12 | apply zz13 | apply zz14));exact (Kd.R_mono (Kd.R_far (p:=⟨gb552,1,none⟩) (Kd.R_far (p:=⟨gb552,0,none⟩) (Kd.R_types HO545.out BK552.out (by decide)) (fun _ hk=>hk.2) (.int .i64 t548)) (fun _ hk=>hk.2) (.slice Ao31 t549.length co31)) (fun _ h_=>h_.1))) (Kd.R_base ho0) hb);have n2_:=Aside0.mk (Kd.R_elder' (by (with_reducible repeat (first | apply zz12 | apply zz13 | apply zz14));exact (Kd.R_mono (Kd.R_far (p:=⟨gb552,1,none⟩) (Kd.R_far (p:=⟨gb552,0,none⟩) (Kd.R_types HO551.out BK552.out (by decide)) (fun _ hk=>hk.2) (.int .i64 t548)) (fun _ hk=>hk.2) (.slice Ao31 t549.length co31)) (fun _ h_=>h_.1))) (Kd.R_base ho0) hb);have n3_:=Aside0.mk (Kd.R_lower (Kd.R_new' (Kd.R_new' (Kd.R_new' ho0 (Kd.R_lt (by (with_reducible repeat (first | apply zz12 | apply zz13 | apply zz14));exact (Kd.R_mono (Kd.R_far (p:=⟨gb552,1,none⟩) (Kd.R_far (p:=⟨gb552,0,none⟩) (Kd.R_types HO541.out BK552.out (by decide)) (fun _ hk=>hk.2) (.int .i64 t548)) (fun _ hk=>hk.2) (.slice Ao31 t549.length co31)) (fun _ h_=>h_.1))))) (Kd.R_lt (by (with_reducible repeat (first | apply zz12 | apply zz13 | apply zz14));exact (Kd.R_mono (Kd.R_far (p:=⟨gb552,1,none⟩) (Kd.R_far (p:=⟨gb552,0,none⟩) (Kd.R_types HO545.out BK552.out (by decide)) (fun _ hk=>hk.2) (.int .i64 t548)) (fun _ hk=>hk.2) (.slice Ao31 t549.length co31)) (fun _ h_=>h_.1))))) (Kd.R_lt (by (with_reducible repeat (first | apply zz12 | apply zz13 | apply zz14));exact (Kd.R_mono (Kd.R_far (p:=⟨gb552,1,none⟩) (Kd.R_far (p:=⟨gb552,0,none⟩) (Kd.R_types HO551.out BK552.out (by decide)) (fun _ hk=>hk.2) (.int .i64 t548)) (fun _ hk=>hk.2) (.slice Ao31 t549.length co31)) (fun _ h_=>h_.1))))) (zz5 (by repeat first | exact HB.out | apply zz2 | apply zz0 | apply zz1 | refine zz3 ?_ GE536.out | refine zz3 ?_ GE547.out | refine zz3 ?_ GE552.out)));have n4_:=Aside0.mk (zz11 (g:=gb536) (o:=.cells #[.int .i64 a0_0,.slice A0_1 l0_1.length c0_1] 24 (0,0)) (by (with_reducible repeat (first | refine zz6 ?_ _ | refine zz7 ?_ | refine zz8 ?_ _));refine blk_far ?_ NB536_552.out _;(with_reducible repeat (first | refine zz6 ?_ _ | refine zz7 ?_ | refine zz8 ?_ _));refine blk_far ?_ NB536_552.out _;(with_reducible repeat (first | refine zz6 ?_ _ | refine zz7 ?_ | refine zz8 ?_ _));exact BK536.out) hb);have n5_:=Aside0.mk (zz11 (g:=gb547) (o:=.cells #[.int .i64 t542,.slice Ao24 t543.length co24] 30 (0,0)) (by (with_reducible repeat (first | refine zz6 ?_ _ | refine zz7 ?_ | refine zz8 ?_ _));refine blk_far ?_ NB547_552.out _;(with_reducible repeat (first | refine zz6 ?_ _ | refine zz7 ?_ | refine zz8 ?_ _));refine blk_far ?_ NB547_552.out _;(with_reducible repeat (first | refine zz6 ?_ _ | refine zz7 ?_ | refine zz8 ?_ _));exact BK547.out) hb);have n6_:=Aside0.mk (zz11 (g:=gb552) (o:=.cells #[.int .i64 t548,.slice Ao31 t549.length co31] 30 (0,0)) (by (with_reducible repeat (first | refine zz6 ?_ _ | refine zz7 ?_ | refine zz8 ?_ _));refine blk_put (cs:=#[.int .i64 t548,.slice none 0 0]) ?_ 1 _ rfl;(with_reducible repeat (first | refine zz6 ?_ _ | refine zz7 ?_ | refine zz8 ?_ _));refine blk_put (cs:=#[.int .i64 0,.slice none 0 0]) ?_ 0 _ rfl;(with_reducible repeat (first | refine zz6 ?_ _ | refine zz7 ?_ | refine zz8 ?_ _));exact BK552.out) hb);have n7_:=Aside0.mk (zz4 (by repeat first | exact HB.out | apply zz2 | apply zz0 | apply zz1 | refine zz3 ?_ GE536.out | refine zz3 ?_ GE547.out | refine zz3 ?_ GE552.out) hb);clear HO541;clear HO545;clear HO551;clear BK536;clear BK547;clear BK552;clear HB;have HO541:=n0_;have HO545:=n1_;have HO551:=n2_;have HO556:=n3_;have BK536:=n4_;have BK547:=n5_;have BK552:=n6_;have HB:=n7_;clear n0_ n1_ n2_ n3_ n4_ n5_ n6_ n7_;(try clear hb);(try clear hb2);(try clear hk);(try clear hi);(try clear ho0)) | ((with_reducible refine gate_dst (N:=11) rfl ?_);refine box_event ?hg (N:=11) ?hd (cs:=#[.int .i64 0,.slice none 0 0]) (t:=30) ?hr ?_;(case hd=>rfl);(case hg=>rfl);(case hr=>first | (go_simp;done) | (go_simp;rfl));intro gb558 hg w33 hbox hb;have n0_:=Aside0.mk (Kd.R_below (by (with_reducible repeat (first | apply zz12 | apply zz13 | apply zz14));exact HO541.out) hb);have n1_:=Aside0.mk (Kd.R_below (by (with_reducible repeat (first | apply zz12 | apply zz13 | apply zz14));exact HO545.out) hb);have n2_:=Aside0.mk (Kd.R_below (by (with_reducible repeat (first | apply zz12 | apply zz13 | apply zz14));exact HO551.out) hb);have n3_:=Aside0.mk (Kd.R_below (by (with_reducible repeat (first | apply zz12 | apply zz13 | apply zz14));exact HO556.out) hb);have n4_:=Aside0.mk (zz11 (g:=gb536) (o:=.cells #[.int .i64 a0_0,.slice A0_1 l0_1.length c0_1] 24 (0,0)) (by (with_reducible repeat (first | refine zz6 ?_ _ | refine zz7 ?_ | refine zz8 ?_ _));exact BK536.out) hb);have n5_:=Aside0.mk (zz11 (g:=gb547) (o:=.cells #[.int .i64 t542,.slice Ao24 t543.length co24] 30 (0,0)) (by (with_reducible repeat (first | refine zz6 ?_ _ | refine zz7 ?_ | refine zz8 ?_ _));exact BK547.out) hb);have n6_:=Aside0.mk (zz11 (g:=gb552) (o:=.cells #[.int .i64 t548,.slice Ao31 t549.length co31] 30 (0,0)) (by (with_reducible repeat (first | refine zz6 ?_ _ | refine zz7 ?_ | refine zz8 ?_ _));exact BK552.out) hb);have n7_:=Aside0.mk (zz4 (by repeat first | exact HB.out | apply zz2 | apply zz0 | apply zz1 | refine zz3 ?_ GE536.out | refine zz3 ?_ GE547.out | refine zz3 ?_ GE552.out) hb);have n8_:=Aside0.mk (hbox);have n9_:=Aside0.mk ((by rw [hg];exact (zz5 (by repeat first | exact HB.out | apply zz2 | apply zz0 | apply zz1 | refine zz3 ?_ GE536.out | refine zz3 ?_ GE547.out | refine zz3 ?_ GE552.out)):w.heap.size≤gb558));have n10_:=Aside0.mk ((by rw [hg];exact (zz5 (by repeat first | exact HB.out | apply zz2 | apply zz0 | apply zz1 | refine zz3 ?_ GE536.out | refine zz3 ?_ GE547.out | refine zz3 ?_ GE552.out)):w.heap.size≤gb558));have n11_:=Aside0.mk ((by rw [hg];exact Nat.ne_of_lt (blk_lt (g:=gb536) (o:=.cells #[.int .i64 a0_0,.slice A0_1 l0_1.length c0_1] 24 (0,0)) (by (with_reducible repeat (first | refine zz6 ?_ _ | refine zz7 ?_ | refine zz8 ?_ _));exact BK536.out)):gb536 ≠ gb558));have n12_:=Aside0.mk ((by rw [hg];exact Nat.ne_of_gt (blk_lt (g:=gb536) (o:=.cells #[.int .i64 a0_0,.slice A0_1 l0_1.length c0_1] 24 (0,0)) (by (with_reducible repeat (first | refine zz6 ?_ _ | refine zz7 ?_ | refine zz8 ?_ _));exact BK536.out)):gb558 ≠ gb536));have n13_:=Aside0.mk ((by rw [hg];exact Nat.ne_of_lt (blk_lt (g:=gb547) (o:=.cells #[.int .i64 t542,.slice Ao24 t543.length co24] 30 (0,0)) (by (with_reducible repeat (first | refine zz6 ?_ _ | refine zz7 ?_ | refine zz8 ?_ _));exact BK547.out)):gb547 ≠ gb558));have n14_:=Aside0.mk ((by rw [hg];exact Nat.ne_of_gt (blk_lt (g:=gb547) (o:=.cells #[.int .i64 t542,.slice Ao24 t543.length co24] 30 (0,0)) (by (with_reducible repeat (first | refine zz6 ?_ _ | refine zz7 ?_ | refine zz8 ?_ _));exact BK547.out)):gb558 ≠ gb547));have n15_:=Aside0.mk ((by rw [hg];exact Nat.ne_of_lt (blk_lt (g:=gb552) (o:=.cells #[.int .i64 t548,.slice Ao31 t549.length co31] 30 (0,0)) (by (with_reducible repeat (first | refine zz6 ?_ _ | refine zz7 ?_ | refine zz8 ?_ _));exact BK552.out)):gb552 ≠ gb558));have n16_:=Aside0.mk ((by rw [hg];exact Nat.ne_of_gt (blk_lt (g:=gb552) (o:=.cells #[.int .i64 t548,.slice Ao31 t549.length co31] 30 (0,0)) (by (with_reducible repeat (first | refine zz6 ?_ _ | refine zz7 ?_ | refine zz8 ?_ _));exact BK552.out)):gb558 ≠ gb552));clear HO541;clear HO545;clear HO551;clear HO556;clear BK536;clear BK547;clear BK552;clear HB;have HO541:=n0_;have HO545:=n1_;have HO551:=n2_;have HO556:=n3_;have BK536:=n4_;have BK547:=n5_;have BK552:=n6_;have HB:=n7_;have BK558:=n8_;have GW558:=n9_;have GE558:=n10_;have NB536_558:=n11_;have NB558_536:=n12_;have NB547_558:=n13_;have NB558_547:=n14_;have NB552_558:=n15_;have NB558_552:=n16_;clear n0_ n1_ n2_ n3_ n4_ n5_ n6_ n7_ n8_ n9_ n10_ n11_ n12_ n13_ n14_ n15_ n16_;clear hb hbox hg;have hnb34:=NB558_536.out;have hnc34:=NB536_558.out;have hnb35:=NB558_547.out;have hnc35:=NB547_558.out;have hnb36:=NB558_552.out;have hnc36:=NB552_558.out;have hcz37_0:w33.cell? ⟨gb558,0,none⟩=some (.int .i64 0):=(zz9 BK558.out 0).trans rfl;have hcz37_1:w33.cell? ⟨gb558,1,none⟩=some (.slice none 0 0):=(zz9 BK558.out 1).trans rfl;have hfz37_0:=zz10 BK558.out 0;have hfz37_1:=zz10 BK558.out 1;obtain ⟨Ao38,co38,eo38⟩:=Kd.R_slice HO556.out;subst eo38))
  (try simp only [Act.put,zz21,zz22,zz23])
  go_cut [48] (fun v48 wc=>∃ (kq:Nat) (x48_12:Bool),v48=.bool x48_12∧Aside0 (laws_FnExactAddPair.j0 kq a1 a2 t546 t557 x48_12 a0_0 l0_1 t542 t543 t548 t549 t553 t554=some r)∧Aside0 (kq≤k)∧Aside0 (Kd.R k80 80 wc w.heap.size (fun k_=>some k_ ≠ ((.slice Ao31 t549.length co31):Value).ownBlock∧some k_ ≠ ((.slice Ao38 t554.length co38):Value).ownBlock) (.slice Ao24 t543.length co24) t543)∧Aside0 (Kd.R k80 80 wc w.heap.size (fun k_=>some k_ ≠ ((.slice Ao24 t543.length co24):Value).ownBlock∧some k_ ≠ ((.slice Ao38 t554.length co38):Value).ownBlock) (.slice Ao31 t549.length co31) t549)∧Aside0 (Kd.R k80 80 wc w.heap.size (fun k_=>some k_ ≠ ((.slice Ao24 t543.length co24):Value).ownBlock∧some k_ ≠ ((.slice Ao31 t549.length co31):Value).ownBlock) (.slice Ao38 t554.length co38) t554)∧Aside0 (wc.heap[gb536]?=some (.cells #[.int .i64 a0_0,(.slice A0_1 l0_1.length c0_1)] 24 (0,0)))∧Aside0 (wc.heap[gb547]?=some (.cells #[.int .i64 t542,(.slice Ao24 t543.length co24)] 30 (0,0)))∧Aside0 (wc.heap[gb552]?=some (.cells #[.int .i64 t548,(.slice Ao31 t549.length co31)] 30 (0,0)))∧Aside0 (wc.heap[gb558]?=some (.cells #[.int .i64 t553,(.slice Ao38 t554.length co38)] 30 (0,0)))∧Aside0 (Below w.heap.size w wc))
  case first =>
   have H:=HC13.out
   clear HC13
   replace H:=zz30.mp H
   obtain ⟨t559,A390,H⟩:=H
   replace H:(if t559=true then (laws_FnExactAddPair.j0 k a1 a2 t546 t557 (t557 != t546) a0_0 l0_1 t542 t543 t548 t549 t553 t554) else (laws_FnExactAddPair.j0 k a1 a2 t546 t557 true a0_0 l0_1 t542 t543 t548 t549 t553 t554))=some r:=H
   have A39:=Aside0.mk A390
   clear A390
   by_cases c40:t559=true
   ·subst c40
    have H1:(laws_FnExactAddPair.j0 k a1 a2 t546 t557 (t557 != t546) a0_0 l0_1 t542 t543 t548 t549 t553 t554)=some r:=by rw [if_pos rfl] at H;exact H
    clear H
    have H:=H1
    clear H1
    have H':=Aside0.mk H
    clear H
    have hnb41:=NB558_536.out
    have hnc41:=NB536_558.out
    have hnb42:=NB558_547.out
    have hnc42:=NB547_558.out
    have hnb43:=NB558_552.out
    have hnc43:=NB552_558.out
    have hcz44_0:w33.cell? ⟨gb558,0,none⟩=some (.int .i64 0):=(zz9 BK558.out 0).trans rfl
    have hcz44_1:w33.cell? ⟨gb558,1,none⟩=some (.slice none 0 0):=(zz9 BK558.out 1).trans rfl
    have hfz44_0:=zz10 BK558.out 0
    have hfz44_1:=zz10 BK558.out 1
    have hnb45:=NB547_536.out
    have hnc45:=NB536_547.out
    have hnb46:=NB547_552.out
    have hnc46:=NB552_547.out
    have hcz47_0:w33.cell? ⟨gb547,0,none⟩=some (.int .i64 t542):=(zz9 BK547.out 0).trans rfl
    have hcz47_1:w33.cell? ⟨gb547,1,none⟩=some (.slice Ao24 t543.length co24):=(zz9 BK547.out 1).trans rfl
    have hfz47_0:=zz10 BK547.out 0
    have hfz47_1:=zz10 BK547.out 1
    go_wp2_with (first | ((with_reducible refine gate_callee (f:=16) rfl ?_);refine goesL_ (some 42) rfl rfl Try.func16 (by kernel_rfl) rfl #[.agg #[.int .i64 t553,.slice Ao38 t554.length co38],.agg #[.int .i64 t542,.slice Ao24 t543.length co24]] rfl (by (try simp only [zz26,zz27,zz28]);first | done | rfl | (simp only [zz24,zz25];rfl) | (simp only [zz25];congr;(try simp only [decide_eq_true_eq] at *);omega)) ?_;(with_reducible refine (laws_eqParty.calls k t553 _ _ t554 t542 _ _ t543 true _ ?side1 ?side2 ?side3 ?side4 A39.out).mono ?_);(case side1=>refine (Kd.R_reads' (e:=80) (base:=w.heap.size) (ok:=fun k_=>(((True∧some k_ ≠ (.slice Ao19 t539.length co19:Value).ownBlock)∧some k_ ≠ (.slice Ao24 t543.length co24:Value).ownBlock)∧some k_ ≠ (.slice Ao31 t549.length co31:Value).ownBlock)) (n:=t554.length) (c:=co38) ?_).2.2;exact (by (with_reducible repeat (first | apply zz12 | apply zz13 | apply zz14));exact (Kd.R_mono (Kd.R_far (p:=⟨gb558,1,none⟩) (Kd.R_far (p:=⟨gb558,0,none⟩) (Kd.R_types HO556.out BK558.out (by decide)) (fun _ hk=>hk.2) (.int .i64 t553)) (fun _ hk=>hk.2) (.slice Ao38 t554.length co38)) (fun _ h_=>h_.1))));(case side2=>exact (Kd.R_reads' HO556.out).2.1);(case side3=>refine (Kd.R_reads' (e:=80) (base:=w.heap.size) (ok:=fun k_=>(((True∧some k_ ≠ (.slice Ao19 t539.length co19:Value).ownBlock)∧some k_ ≠ (.slice Ao31 t549.length co31:Value).ownBlock)∧some k_ ≠ (.slice Ao38 t554.length co38:Value).ownBlock)) (n:=t543.length) (c:=co24) ?_).2.2;exact (by (with_reducible repeat (first | apply zz12 | apply zz13 | apply zz14));exact (Kd.R_mono (Kd.R_far (p:=⟨gb558,1,none⟩) (Kd.R_far (p:=⟨gb558,0,none⟩) (Kd.R_types HO545.out BK558.out (by decide)) (fun _ hk=>hk.2) (.int .i64 t553)) (fun _ hk=>hk.2) (.slice Ao38 t554.length co38)) (fun _ h_=>h_.1))));(case side4=>exact (Kd.R_reads' HO545.out).2.1);rintro e w48 ⟨rfl,hb⟩;refine ⟨_,rfl,?_⟩;have n0_:=Aside0.mk (Kd.R_below (by (with_reducible repeat (first | apply zz12 | apply zz13 | apply zz14));exact (Kd.R_mono (Kd.R_far (p:=⟨gb558,1,none⟩) (Kd.R_far (p:=⟨gb558,0,none⟩) (Kd.R_types HO541.out BK558.out (by decide)) (fun _ hk=>hk.2) (.int .i64 t553)) (fun _ hk=>hk.2) (.slice Ao38 t554.length co38)) (fun _ h_=>h_.1))) hb);have n1_:=Aside0.mk (Kd.R_below (by (with_reducible repeat (first | apply zz12 | apply zz13 | apply zz14));exact (Kd.R_mono (Kd.R_far (p:=⟨gb558,1,none⟩) (Kd.R_far (p:=⟨gb558,0,none⟩) (Kd.R_types HO545.out BK558.out (by decide)) (fun _ hk=>hk.2) (.int .i64 t553)) (fun _ hk=>hk.2) (.slice Ao38 t554.length co38)) (fun _ h_=>h_.1))) hb);have n2_:=Aside0.mk (Kd.R_below (by (with_reducible repeat (first | apply zz12 | apply zz13 | apply zz14));exact (Kd.R_mono (Kd.R_far (p:=⟨gb558,1,none⟩) (Kd.R_far (p:=⟨gb558,0,none⟩) (Kd.R_types HO551.out BK558.out (by decide)) (fun _ hk=>hk.2) (.int .i64 t553)) (fun _ hk=>hk.2) (.slice Ao38 t554.length co38)) (fun _ h_=>h_.1))) hb);have n3_:=Aside0.mk (Kd.R_below (by (with_reducible repeat (first | apply zz12 | apply zz13 | apply zz14));exact (Kd.R_mono (Kd.R_far (p:=⟨gb558,1,none⟩) (Kd.R_far (p:=⟨gb558,0,none⟩) (Kd.R_types HO556.out BK558.out (by decide)) (fun _ hk=>hk.2) (.int .i64 t553)) (fun _ hk=>hk.2) (.slice Ao38 t554.length co38)) (fun _ h_=>h_.1))) hb);have n4_:=Aside0.mk (zz11 (g:=gb536) (o:=.cells #[.int .i64 a0_0,.slice A0_1 l0_1.length c0_1] 24 (0,0)) (by (with_reducible repeat (first | refine zz6 ?_ _ | refine zz7 ?_ | refine zz8 ?_ _));refine blk_far ?_ NB536_558.out _;(with_reducible repeat (first | refine zz6 ?_ _ | refine zz7 ?_ | refine zz8 ?_ _));refine blk_far ?_ NB536_558.out _;(with_reducible repeat (first | refine zz6 ?_ _ | refine zz7 ?_ | refine zz8 ?_ _));exact BK536.out) hb);have n5_:=Aside0.mk (zz11 (g:=gb547) (o:=.cells #[.int .i64 t542,.slice Ao24 t543.length co24] 30 (0,0)) (by (with_reducible repeat (first | refine zz6 ?_ _ | refine zz7 ?_ | refine zz8 ?_ _));refine blk_far ?_ NB547_558.out _;(with_reducible repeat (first | refine zz6 ?_ _ | refine zz7 ?_ | refine zz8 ?_ _));refine blk_far ?_ NB547_558.out _;(with_reducible repeat (first | refine zz6 ?_ _ | refine zz7 ?_ | refine zz8 ?_ _));exact BK547.out) hb);have n6_:=Aside0.mk (zz11 (g:=gb552) (o:=.cells #[.int .i64 t548,.slice Ao31 t549.length co31] 30 (0,0)) (by (with_reducible repeat (first | refine zz6 ?_ _ | refine zz7 ?_ | refine zz8 ?_ _));refine blk_far ?_ NB552_558.out _;(with_reducible repeat (first | refine zz6 ?_ _ | refine zz7 ?_ | refine zz8 ?_ _));refine blk_far ?_ NB552_558.out _;(with_reducible repeat (first | refine zz6 ?_ _ | refine zz7 ?_ | refine zz8 ?_ _));exact BK552.out) hb);have n7_:=Aside0.mk (zz11 (g:=gb558) (o:=.cells #[.int .i64 t553,.slice Ao38 t554.length co38] 30 (0,0)) (by (with_reducible repeat (first | refine zz6 ?_ _ | refine zz7 ?_ | refine zz8 ?_ _));refine blk_put (cs:=#[.int .i64 t553,.slice none 0 0]) ?_ 1 _ rfl;(with_reducible repeat (first | refine zz6 ?_ _ | refine zz7 ?_ | refine zz8 ?_ _));refine blk_put (cs:=#[.int .i64 0,.slice none 0 0]) ?_ 0 _ rfl;(with_reducible repeat (first | refine zz6 ?_ _ | refine zz7 ?_ | refine zz8 ?_ _));exact BK558.out) hb);have n8_:=Aside0.mk (zz4 (by repeat first | exact HB.out | apply zz2 | apply zz0 | apply zz1 | refine zz3 ?_ GE536.out | refine zz3 ?_ GE547.out | refine zz3 ?_ GE552.out | refine zz3 ?_ GE558.out) hb);clear HO541;clear HO545;clear HO551;clear HO556;clear BK536;clear BK547;clear BK552;clear BK558;clear HB;have HO541:=n0_;have HO545:=n1_;have HO551:=n2_;have HO556:=n3_;have BK536:=n4_;have BK547:=n5_;have BK552:=n6_;have BK558:=n7_;have HB:=n8_;clear n0_ n1_ n2_ n3_ n4_ n5_ n6_ n7_ n8_;(try clear hb);(try clear hb2);(try clear hk);(try clear hi)))
    go_meet
    case rel=>exact ⟨_,((t557 != t546)),(by first | rfl | (simp;done) | (simp [*];done)),H',⟨by first | omega | exact Nat.le_refl _⟩,⟨by (with_reducible repeat (first | apply zz12 | apply zz13 | apply zz14));exact Kd.R_mono HO545.out (fun _ hk=>⟨hk.1.2,hk.2⟩)⟩,⟨by (with_reducible repeat (first | apply zz12 | apply zz13 | apply zz14));exact Kd.R_mono HO551.out (fun _ hk=>⟨hk.1.2,hk.2⟩)⟩,⟨by (with_reducible repeat (first | apply zz12 | apply zz13 | apply zz14));exact Kd.R_mono HO556.out (fun _ hk=>⟨hk.1.2,hk.2⟩)⟩,⟨by (with_reducible repeat (first | refine zz6 ?_ _ | refine zz7 ?_ | refine zz8 ?_ _));exact BK536.out⟩,⟨by (with_reducible repeat (first | refine zz6 ?_ _ | refine zz7 ?_ | refine zz8 ?_ _));exact BK547.out⟩,⟨by (with_reducible repeat (first | refine zz6 ?_ _ | refine zz7 ?_ | refine zz8 ?_ _));exact BK552.out⟩,⟨by (with_reducible repeat (first | refine zz6 ?_ _ | refine zz7 ?_ | refine zz8 ?_ _));exact BK558.out⟩,⟨by repeat first | exact HB.out | apply zz2 | apply zz0 | apply zz1 | refine zz3 ?_ GE536.out | refine zz3 ?_ GE547.out | refine zz3 ?_ GE552.out | refine zz3 ?_ GE558.out⟩⟩
   ·replace c40:=Bool.eq_false_iff.mpr c40
    subst c40
    have H1:(laws_FnExactAddPair.j0 k a1 a2 t546 t557 true a0_0 l0_1 t542 t543 t548 t549 t553 t554)=some r:=by rw [if_neg (show ¬ (false=true) by decide)] at H;exact H
    clear H
    have H:=H1
    clear H1
    have H':=Aside0.mk H
    clear H
    have hnb49:=NB558_536.out
    have hnc49:=NB536_558.out
    have hnb50:=NB558_547.out
    have hnc50:=NB547_558.out
    have hnb51:=NB558_552.out
    have hnc51:=NB552_558.out
    have hcz52_0:w33.cell? ⟨gb558,0,none⟩=some (.int .i64 0):=(zz9 BK558.out 0).trans rfl
    have hcz52_1:w33.cell? ⟨gb558,1,none⟩=some (.slice none 0 0):=(zz9 BK558.out 1).trans rfl
    have hfz52_0:=zz10 BK558.out 0
    have hfz52_1:=zz10 BK558.out 1
    have hnb53:=NB547_536.out
    have hnc53:=NB536_547.out
    have hnb54:=NB547_552.out
    have hnc54:=NB552_547.out
    have hcz55_0:w33.cell? ⟨gb547,0,none⟩=some (.int .i64 t542):=(zz9 BK547.out 0).trans rfl
    have hcz55_1:w33.cell? ⟨gb547,1,none⟩=some (.slice Ao24 t543.length co24):=(zz9 BK547.out 1).trans rfl
    have hfz55_0:=zz10 BK547.out 0
    have hfz55_1:=zz10 BK547.out 1
    go_wp2_with (first | ((with_reducible refine gate_callee (f:=16) rfl ?_);refine goesL_ (some 42) rfl rfl Try.func16 (by kernel_rfl) rfl #[.agg #[.int .i64 t553,.slice Ao38 t554.length co38],.agg #[.int .i64 t542,.slice Ao24 t543.length co24]] rfl (by (try simp only [zz26,zz27,zz28]);first | done | rfl | (simp only [zz24,zz25];rfl) | (simp only [zz25];congr;(try simp only [decide_eq_true_eq] at *);omega)) ?_;(with_reducible refine (laws_eqParty.calls k t553 _ _ t554 t542 _ _ t543 false _ ?side1 ?side2 ?side3 ?side4 A39.out).mono ?_);(case side1=>refine (Kd.R_reads' (e:=80) (base:=w.heap.size) (ok:=fun k_=>(((True∧some k_ ≠ (.slice Ao19 t539.length co19:Value).ownBlock)∧some k_ ≠ (.slice Ao24 t543.length co24:Value).ownBlock)∧some k_ ≠ (.slice Ao31 t549.length co31:Value).ownBlock)) (n:=t554.length) (c:=co38) ?_).2.2;exact (by (with_reducible repeat (first | apply zz12 | apply zz13 | apply zz14));exact (Kd.R_mono (Kd.R_far (p:=⟨gb558,1,none⟩) (Kd.R_far (p:=⟨gb558,0,none⟩) (Kd.R_types HO556.out BK558.out (by decide)) (fun _ hk=>hk.2) (.int .i64 t553)) (fun _ hk=>hk.2) (.slice Ao38 t554.length co38)) (fun _ h_=>h_.1))));(case side2=>exact (Kd.R_reads' HO556.out).2.1);(case side3=>refine (Kd.R_reads' (e:=80) (base:=w.heap.size) (ok:=fun k_=>(((True∧some k_ ≠ (.slice Ao19 t539.length co19:Value).ownBlock)∧some k_ ≠ (.slice Ao31 t549.length co31:Value).ownBlock)∧some k_ ≠ (.slice Ao38 t554.length co38:Value).ownBlock)) (n:=t543.length) (c:=co24) ?_).2.2;exact (by (with_reducible repeat (first | apply zz12 | apply zz13 | apply zz14));exact (Kd.R_mono (Kd.R_far (p:=⟨gb558,1,none⟩) (Kd.R_far (p:=⟨gb558,0,none⟩) (Kd.R_types HO545.out BK558.out (by decide)) (fun _ hk=>hk.2) (.int .i64 t553)) (fun _ hk=>hk.2) (.slice Ao38 t554.length co38)) (fun _ h_=>h_.1))));(case side4=>exact (Kd.R_reads' HO545.out).2.1);rintro e w56 ⟨rfl,hb⟩;refine ⟨_,rfl,?_⟩;have n0_:=Aside0.mk (Kd.R_below (by (with_reducible repeat (first | apply zz12 | apply zz13 | apply zz14));exact (Kd.R_mono (Kd.R_far (p:=⟨gb558,1,none⟩) (Kd.R_far (p:=⟨gb558,0,none⟩) (Kd.R_types HO541.out BK558.out (by decide)) (fun _ hk=>hk.2) (.int .i64 t553)) (fun _ hk=>hk.2) (.slice Ao38 t554.length co38)) (fun _ h_=>h_.1))) hb);have n1_:=Aside0.mk (Kd.R_below (by (with_reducible repeat (first | apply zz12 | apply zz13 | apply zz14));exact (Kd.R_mono (Kd.R_far (p:=⟨gb558,1,none⟩) (Kd.R_far (p:=⟨gb558,0,none⟩) (Kd.R_types HO545.out BK558.out (by decide)) (fun _ hk=>hk.2) (.int .i64 t553)) (fun _ hk=>hk.2) (.slice Ao38 t554.length co38)) (fun _ h_=>h_.1))) hb);have n2_:=Aside0.mk (Kd.R_below (by (with_reducible repeat (first | apply zz12 | apply zz13 | apply zz14));exact (Kd.R_mono (Kd.R_far (p:=⟨gb558,1,none⟩) (Kd.R_far (p:=⟨gb558,0,none⟩) (Kd.R_types HO551.out BK558.out (by decide)) (fun _ hk=>hk.2) (.int .i64 t553)) (fun _ hk=>hk.2) (.slice Ao38 t554.length co38)) (fun _ h_=>h_.1))) hb);have n3_:=Aside0.mk (Kd.R_below (by (with_reducible repeat (first | apply zz12 | apply zz13 | apply zz14));exact (Kd.R_mono (Kd.R_far (p:=⟨gb558,1,none⟩) (Kd.R_far (p:=⟨gb558,0,none⟩) (Kd.R_types HO556.out BK558.out (by decide)) (fun _ hk=>hk.2) (.int .i64 t553)) (fun _ hk=>hk.2) (.slice Ao38 t554.length co38)) (fun _ h_=>h_.1))) hb);have n4_:=Aside0.mk (zz11 (g:=gb536) (o:=.cells #[.int .i64 a0_0,.slice A0_1 l0_1.length c0_1] 24 (0,0)) (by (with_reducible repeat (first | refine zz6 ?_ _ | refine zz7 ?_ | refine zz8 ?_ _));refine blk_far ?_ NB536_558.out _;(with_reducible repeat (first | refine zz6 ?_ _ | refine zz7 ?_ | refine zz8 ?_ _));refine blk_far ?_ NB536_558.out _;(with_reducible repeat (first | refine zz6 ?_ _ | refine zz7 ?_ | refine zz8 ?_ _));exact BK536.out) hb);have n5_:=Aside0.mk (zz11 (g:=gb547) (o:=.cells #[.int .i64 t542,.slice Ao24 t543.length co24] 30 (0,0)) (by (with_reducible repeat (first | refine zz6 ?_ _ | refine zz7 ?_ | refine zz8 ?_ _));refine blk_far ?_ NB547_558.out _;(with_reducible repeat (first | refine zz6 ?_ _ | refine zz7 ?_ | refine zz8 ?_ _));refine blk_far ?_ NB547_558.out _;(with_reducible repeat (first | refine zz6 ?_ _ | refine zz7 ?_ | refine zz8 ?_ _));exact BK547.out) hb);have n6_:=Aside0.mk (zz11 (g:=gb552) (o:=.cells #[.int .i64 t548,.slice Ao31 t549.length co31] 30 (0,0)) (by (with_reducible repeat (first | refine zz6 ?_ _ | refine zz7 ?_ | refine zz8 ?_ _));refine blk_far ?_ NB552_558.out _;(with_reducible repeat (first | refine zz6 ?_ _ | refine zz7 ?_ | refine zz8 ?_ _));refine blk_far ?_ NB552_558.out _;(with_reducible repeat (first | refine zz6 ?_ _ | refine zz7 ?_ | refine zz8 ?_ _));exact BK552.out) hb);have n7_:=Aside0.mk (zz11 (g:=gb558) (o:=.cells #[.int .i64 t553,.slice Ao38 t554.length co38] 30 (0,0)) (by (with_reducible repeat (first | refine zz6 ?_ _ | refine zz7 ?_ | refine zz8 ?_ _));refine blk_put (cs:=#[.int .i64 t553,.slice none 0 0]) ?_ 1 _ rfl;(with_reducible repeat (first | refine zz6 ?_ _ | refine zz7 ?_ | refine zz8 ?_ _));refine blk_put (cs:=#[.int .i64 0,.slice none 0 0]) ?_ 0 _ rfl;(with_reducible repeat (first | refine zz6 ?_ _ | refine zz7 ?_ | refine zz8 ?_ _));exact BK558.out) hb);have n8_:=Aside0.mk (zz4 (by repeat first | exact HB.out | apply zz2 | apply zz0 | apply zz1 | refine zz3 ?_ GE536.out | refine zz3 ?_ GE547.out | refine zz3 ?_ GE552.out | refine zz3 ?_ GE558.out) hb);clear HO541;clear HO545;clear HO551;clear HO556;clear BK536;clear BK547;clear BK552;clear BK558;clear HB;have HO541:=n0_;have HO545:=n1_;have HO551:=n2_;have HO556:=n3_;have BK536:=n4_;have BK547:=n5_;have BK552:=n6_;have BK558:=n7_;have HB:=n8_;clear n0_ n1_ n2_ n3_ n4_ n5_ n6_ n7_ n8_;(try clear hb);(try clear hb2);(try clear hk);(try clear hi)))
    go_meet
    case rel=>exact ⟨_,(true),(by first | rfl | (simp;done) | (simp [*];done)),H',⟨by first | omega | exact Nat.le_refl _⟩,⟨by (with_reducible repeat (first | apply zz12 | apply zz13 | apply zz14));exact Kd.R_mono HO545.out (fun _ hk=>⟨hk.1.2,hk.2⟩)⟩,⟨by (with_reducible repeat (first | apply zz12 | apply zz13 | apply zz14));exact Kd.R_mono HO551.out (fun _ hk=>⟨hk.1.2,hk.2⟩)⟩,⟨by (with_reducible repeat (first | apply zz12 | apply zz13 | apply zz14));exact Kd.R_mono HO556.out (fun _ hk=>⟨hk.1.2,hk.2⟩)⟩,⟨by (with_reducible repeat (first | refine zz6 ?_ _ | refine zz7 ?_ | refine zz8 ?_ _));exact BK536.out⟩,⟨by (with_reducible repeat (first | refine zz6 ?_ _ | refine zz7 ?_ | refine zz8 ?_ _));exact BK547.out⟩,⟨by (with_reducible repeat (first | refine zz6 ?_ _ | refine zz7 ?_ | refine zz8 ?_ _));exact BK552.out⟩,⟨by (with_reducible repeat (first | refine zz6 ?_ _ | refine zz7 ?_ | refine zz8 ?_ _));exact BK558.out⟩,⟨by repeat first | exact HB.out | apply zz2 | apply zz0 | apply zz1 | refine zz3 ?_ GE536.out | refine zz3 ?_ GE547.out | refine zz3 ?_ GE552.out | refine zz3 ?_ GE558.out⟩⟩
  case rest =>
   clear HC13
   try clear c1
   try clear c2
   try clear p2
   try clear c3
   try clear c4
   try clear c5
   try clear c5b0
   try clear c8
   try clear c12
   try clear c14
   try clear c16
   try clear c22
   try clear c28
   try clear c29
   try clear c32
   try clear c33
   try clear c34
   try clear c35
   try clear c36
   try clear c40
   try clear c41
   try clear c42
   try clear c43
   try clear c45
   try clear c46
   try clear c49
   try clear c50
   try clear c51
   try clear c53
   try clear c54
   try clear hcz15_0
   try clear hcz15_1
   try clear hcz17_0
   try clear hcz17_1
   try clear hcz23_0
   try clear hcz23_1
   try clear hcz25_0
   try clear hcz25_1
   try clear hcz30_0
   try clear hcz30_1
   try clear hcz37_0
   try clear hcz37_1
   try clear hcz44_0
   try clear hcz44_1
   try clear hcz47_0
   try clear hcz47_1
   try clear hcz52_0
   try clear hcz52_1
   try clear hcz55_0
   try clear hcz55_1
   try clear hcz7_0
   try clear hcz7_1
   try clear hfz15_0
   try clear hfz15_1
   try clear hfz17_0
   try clear hfz17_1
   try clear hfz23_0
   try clear hfz23_1
   try clear hfz25_0
   try clear hfz25_1
   try clear hfz30_0
   try clear hfz30_1
   try clear hfz37_0
   try clear hfz37_1
   try clear hfz44_0
   try clear hfz44_1
   try clear hfz47_0
   try clear hfz47_1
   try clear hfz52_0
   try clear hfz52_1
   try clear hfz55_0
   try clear hfz55_1
   try clear hfz7_0
   try clear hfz7_1
   obtain ⟨kq,x48_12,rfl,HA,HJ12,HO_548001,HO_553001,HO_559001,BK536,BK547,BK552,BK558,HB⟩:=hcut
   cases kq with
   | zero=>exact absurd HA.out (by simp [laws_FnExactAddPair.j0])
   | succ kj12 =>
    have H:=HA.out
    clear HA
    simp only [laws_FnExactAddPair.j0] at H
    by_cases c57:x48_12=true
    ·subst c57
     have H1:(some false)=some r:=by rw [if_pos rfl] at H;exact H
     clear H
     have H:=H1
     clear H1
     obtain rfl:=Option.some.inj H
     go_wp2
     go_ret
     exact ⟨by first | rfl | (simp [errW_none,errW_some] <;> rfl) | (simp [*,errW_none,errW_some] <;> rfl),by repeat first | exact HB.out | apply zz2 | apply zz0 | apply zz1 | refine zz3 ?_ GE536.out | refine zz3 ?_ GE547.out | refine zz3 ?_ GE552.out | refine zz3 ?_ GE558.out⟩
    ·replace c57:=Bool.eq_false_iff.mpr c57
     subst c57
     have H1:((laws_toParty.f kj12 a0_0 l0_1).bind fun bt560=>((laws_eqParty.f kj12 t548 t549 bt560.1 bt560.2).bind fun t564=>(if t564=true then ((laws_markParty.f kj12 t548 t549 1).bind fun bt565=>(if bt565.1 < 0 then (laws_FnExactAddPair.j1 kj12 a1 a2 t546 true a0_0 l0_1 t542 t543 t553 t554) else ((laws_eqParty.f kj12 t553 t554 t542 t543).bind fun t567=>(if t567=true then (laws_FnExactAddPair.j1 kj12 a1 a2 t546 (t557 != t546) a0_0 l0_1 t542 t543 t553 t554) else (laws_FnExactAddPair.j1 kj12 a1 a2 t546 true a0_0 l0_1 t542 t543 t553 t554))))) else (some false))))=some r:=by rw [if_neg (show ¬ (false=true) by decide)] at H;exact H
     clear H
     have H:=H1
     clear H1
     replace H:=zz30.mp H
     obtain ⟨⟨t560,t561⟩,A580,H⟩:=H
     replace H:((laws_eqParty.f kj12 t548 t549 t560 t561).bind fun t564=>(if t564=true then ((laws_markParty.f kj12 t548 t549 1).bind fun bt565=>(if bt565.1 < 0 then (laws_FnExactAddPair.j1 kj12 a1 a2 t546 true a0_0 l0_1 t542 t543 t553 t554) else ((laws_eqParty.f kj12 t553 t554 t542 t543).bind fun t567=>(if t567=true then (laws_FnExactAddPair.j1 kj12 a1 a2 t546 (t557 != t546) a0_0 l0_1 t542 t543 t553 t554) else (laws_FnExactAddPair.j1 kj12 a1 a2 t546 true a0_0 l0_1 t542 t543 t553 t554))))) else (some false)))=some r:=H
     have A58:=Aside0.mk A580
     clear A580
     replace H:=zz30.mp H
     obtain ⟨t564,A590,H⟩:=H
     replace H:(if t564=true then ((laws_markParty.f kj12 t548 t549 1).bind fun bt565=>(if bt565.1 < 0 then (laws_FnExactAddPair.j1 kj12 a1 a2 t546 true a0_0 l0_1 t542 t543 t553 t554) else ((laws_eqParty.f kj12 t553 t554 t542 t543).bind fun t567=>(if t567=true then (laws_FnExactAddPair.j1 kj12 a1 a2 t546 (t557 != t546) a0_0 l0_1 t542 t543 t553 t554) else (laws_FnExactAddPair.j1 kj12 a1 a2 t546 true a0_0 l0_1 t542 t543 t553 t554))))) else (some false))=some r:=H
     have A59:=Aside0.mk A590
     clear A590
     by_cases c60:t564=true
     ·subst c60
      have H1:((laws_markParty.f kj12 t548 t549 1).bind fun bt565=>(if bt565.1 < 0 then (laws_FnExactAddPair.j1 kj12 a1 a2 t546 true a0_0 l0_1 t542 t543 t553 t554) else ((laws_eqParty.f kj12 t553 t554 t542 t543).bind fun t567=>(if t567=true then (laws_FnExactAddPair.j1 kj12 a1 a2 t546 (t557 != t546) a0_0 l0_1 t542 t543 t553 t554) else (laws_FnExactAddPair.j1 kj12 a1 a2 t546 true a0_0 l0_1 t542 t543 t553 t554)))))=some r:=by rw [if_pos rfl] at H;exact H
      clear H
      have H:=H1
      clear H1
      replace H:=zz30.mp H
      obtain ⟨⟨t565,t566⟩,A610,H⟩:=H
      replace H:(if t565 < 0 then (laws_FnExactAddPair.j1 kj12 a1 a2 t546 true a0_0 l0_1 t542 t543 t553 t554) else ((laws_eqParty.f kj12 t553 t554 t542 t543).bind fun t567=>(if t567=true then (laws_FnExactAddPair.j1 kj12 a1 a2 t546 (t557 != t546) a0_0 l0_1 t542 t543 t553 t554) else (laws_FnExactAddPair.j1 kj12 a1 a2 t546 true a0_0 l0_1 t542 t543 t553 t554))))=some r:=H
      have A61:=Aside0.mk A610
      clear A610
      have HC62:=Aside0.mk H
      clear H
      try go_wp2
      have n0_:=Aside0.mk (zz14 HO_548001.out)
      have n1_:=Aside0.mk (zz14 HO_553001.out)
      have n2_:=Aside0.mk (zz14 HO_559001.out)
      have n3_:=Aside0.mk (zz7 BK536.out)
      have n4_:=Aside0.mk (zz7 BK547.out)
      have n5_:=Aside0.mk (zz7 BK552.out)
      have n6_:=Aside0.mk (zz7 BK558.out)
      have n7_:=Aside0.mk (zz1 HB.out)
      clear HO_548001
      clear HO_553001
      clear HO_559001
      clear BK536
      clear BK547
      clear BK552
      clear BK558
      clear HB
      have HO_548001:=n0_
      have HO_553001:=n1_
      have HO_559001:=n2_
      have BK536:=n3_
      have BK547:=n4_
      have BK552:=n5_
      have BK558:=n6_
      have HB:=n7_
      clear n0_ n1_ n2_ n3_ n4_ n5_ n6_ n7_
      refine start_ (n:=5) (S:=fun w'=>w'.cell? ⟨gb552,0,none⟩=some (.int .i64 t548)∧w'.cell? ⟨gb552,1,none⟩=some (.slice Ao31 t549.length co31)∧w'.cell? ⟨gb536,0,none⟩=some (.int .i64 a0_0)∧w'.cell? ⟨gb536,1,none⟩=some (.slice A0_1 l0_1.length c0_1)) (ds:=[]) #[F,F,F,F,F] (by kernel_rfl) rfl rfl ⟨(zz9 BK552.out 0).trans rfl,(zz9 BK552.out 1).trans rfl,(zz9 BK536.out 0).trans rfl,(zz9 BK536.out 1).trans rfl⟩ (fun hHeld=>?_)
      generalize wc.drew=w63 at HO_548001 HO_553001 HO_559001 BK536 BK547 BK552 BK558 HB hHeld ⊢
      refine take_ (i:=0) (N:=some 49) (v:=?_) (a':=?_) #[T,F,F,F,F] rfl rfl (by kernel_rfl) (fun _ _ _ h=>h) (Or.inl ⟨by rfl,?_⟩) hHeld ?_ ?_
      rotate_left
      ·rintro w' ⟨s0,s1,s2,s3⟩
       go_simp
       with_reducible rfl
      rotate_left
      ·simp only [Act.put,zz21,zz22,zz23,i64_w,i32_w]
       rfl
      refine take_ (i:=1) (N:=some 50) (v:=?_) (a':=?_) #[T,T,F,F,F] rfl rfl (by kernel_rfl) (fun _ _ _ h=>h) (Or.inl ⟨by rfl,?_⟩) hHeld ?_ ?_
      rotate_left
      ·rintro w' ⟨s0,s1,s2,s3⟩
       go_simp
       with_reducible rfl
      rotate_left
      ·simp only [Act.put,zz21,zz22,zz23,i64_w,i32_w]
       rfl
      refine one_ (i:=2) (N:=some 51) #[T,T,T,F,F] rfl rfl (by kernel_rfl) (by decide) (fun K hK=>?_)
      refine goes_ Try.func14 (by kernel_rfl) rfl #[.agg #[.int .i64 a0_0,.slice A0_1 l0_1.length c0_1]] (by rfl) rfl rfl (by (try simp only [zz26,zz27,zz28]);first | done | rfl | (simp only [zz24,zz25];rfl) | (simp only [zz25];congr;(try simp only [decide_eq_true_eq] at *);omega)) ?_
      with_reducible refine (laws_toParty.calls kj12 a0_0 _ _ l0_1 t560 t561 _ ?side1 ?side2 A58.out).mono ?_
      (case side1=>repeat (first | exact (Kd.C_below HR0_1.out HB.out) | (with_reducible refine zz18 ?_ _) | (with_reducible refine zz19 ?_ _) | (with_reducible refine zz20 ?_)))
      (case side2=>exact HC0_1.out)
      rintro e w64 ⟨v562,rfl,ho0,hb⟩
      refine ⟨_,rfl,?_⟩
      have n0_:=Aside0.mk (Kd.R_elder' (by (with_reducible repeat (first | apply zz12 | apply zz13 | apply zz14));exact HO_548001.out) (Kd.R_base ho0) hb)
      have n1_:=Aside0.mk (Kd.R_elder' (by (with_reducible repeat (first | apply zz12 | apply zz13 | apply zz14));exact HO_553001.out) (Kd.R_base ho0) hb)
      have n2_:=Aside0.mk (Kd.R_elder' (by (with_reducible repeat (first | apply zz12 | apply zz13 | apply zz14));exact HO_559001.out) (Kd.R_base ho0) hb)
      have n3_:=Aside0.mk (Kd.R_lower (Kd.R_new' (Kd.R_new' (Kd.R_new' ho0 (Kd.R_lt (by (with_reducible repeat (first | apply zz12 | apply zz13 | apply zz14));exact HO_548001.out))) (Kd.R_lt (by (with_reducible repeat (first | apply zz12 | apply zz13 | apply zz14));exact HO_553001.out))) (Kd.R_lt (by (with_reducible repeat (first | apply zz12 | apply zz13 | apply zz14));exact HO_559001.out))) (zz5 (by repeat first | exact HB.out | apply zz2 | apply zz0 | apply zz1 | refine zz3 ?_ GE536.out | refine zz3 ?_ GE547.out | refine zz3 ?_ GE552.out | refine zz3 ?_ GE558.out)))
      have n4_:=Aside0.mk (zz11 (g:=gb536) (o:=.cells #[.int .i64 a0_0,.slice A0_1 l0_1.length c0_1] 24 (0,0)) (by (with_reducible repeat (first | refine zz6 ?_ _ | refine zz7 ?_ | refine zz8 ?_ _));exact BK536.out) hb)
      have n5_:=Aside0.mk (zz11 (g:=gb547) (o:=.cells #[.int .i64 t542,.slice Ao24 t543.length co24] 30 (0,0)) (by (with_reducible repeat (first | refine zz6 ?_ _ | refine zz7 ?_ | refine zz8 ?_ _));exact BK547.out) hb)
      have n6_:=Aside0.mk (zz11 (g:=gb552) (o:=.cells #[.int .i64 t548,.slice Ao31 t549.length co31] 30 (0,0)) (by (with_reducible repeat (first | refine zz6 ?_ _ | refine zz7 ?_ | refine zz8 ?_ _));exact BK552.out) hb)
      have n7_:=Aside0.mk (zz11 (g:=gb558) (o:=.cells #[.int .i64 t553,.slice Ao38 t554.length co38] 30 (0,0)) (by (with_reducible repeat (first | refine zz6 ?_ _ | refine zz7 ?_ | refine zz8 ?_ _));exact BK558.out) hb)
      have n8_:=Aside0.mk (zz4 (by repeat first | exact HB.out | apply zz2 | apply zz0 | apply zz1 | refine zz3 ?_ GE536.out | refine zz3 ?_ GE547.out | refine zz3 ?_ GE552.out | refine zz3 ?_ GE558.out) hb)
      clear HO_548001
      clear HO_553001
      clear HO_559001
      clear BK536
      clear BK547
      clear BK552
      clear BK558
      clear HB
      have HO_548001:=n0_
      have HO_553001:=n1_
      have HO_559001:=n2_
      have HO563:=n3_
      have BK536:=n4_
      have BK547:=n5_
      have BK552:=n6_
      have BK558:=n7_
      have HB:=n8_
      clear n0_ n1_ n2_ n3_ n4_ n5_ n6_ n7_ n8_
      (try clear hb)
      (try clear hb2)
      (try clear hk)
      (try clear hi)
      (try clear ho0)
      obtain ⟨Ao65,co65,eo65⟩:=Kd.R_slice HO563.out
      (first | subst eo65 | (injection eo65 with f1_ f2_ f3_;have f4_:=f1_.symm;have f5_:=f3_.symm;clear f1_ f2_ f3_;subst f4_;subst f5_))
      refine hK.out _ _ ⟨(zz9 BK552.out 0).trans rfl,(zz9 BK552.out 1).trans rfl,(zz9 BK536.out 0).trans rfl,(zz9 BK536.out 1).trans rfl⟩ (fun hHeld=>?_)
      clear hK K
      refine norm_ (a':=?_) ?_ ?_
      rotate_left
      ·show Act.put _ (some 51) _=_
       simp only [Act.put,zz21,zz22,zz23,i64_w,i32_w]
       rfl
      refine one_ (i:=3) (N:=some 52) #[T,T,T,T,F] rfl rfl (by kernel_rfl) (by decide) (fun K hK=>?_)
      refine goes_ Try.func16 (by kernel_rfl) rfl #[.agg #[.int .i64 t548,.slice Ao31 t549.length co31],.agg #[.int .i64 t560,.slice Ao65 t561.length co65]] (by rfl) rfl rfl (by (try simp only [zz26,zz27,zz28]);first | done | rfl | (simp only [zz24,zz25];rfl) | (simp only [zz25];congr;(try simp only [decide_eq_true_eq] at *);omega)) ?_
      with_reducible refine (laws_eqParty.calls kj12 t548 _ _ t549 t560 _ _ t561 true _ ?side1 ?side2 ?side3 ?side4 A59.out).mono ?_
      (case side1=>repeat (first | exact (Kd.R_reads' HO_553001.out).2.2 | (with_reducible refine zz18 ?_ _) | (with_reducible refine zz19 ?_ _) | (with_reducible refine zz20 ?_)))
      (case side2=>exact (Kd.R_reads' HO_553001.out).2.1)
      (case side3=>repeat (first | exact (Kd.R_reads' HO563.out).2.2 | (with_reducible refine zz18 ?_ _) | (with_reducible refine zz19 ?_ _) | (with_reducible refine zz20 ?_)))
      (case side4=>exact (Kd.R_reads' HO563.out).2.1)
      rintro e w66 ⟨rfl,hb⟩
      refine ⟨_,rfl,?_⟩
      have n0_:=Aside0.mk (Kd.R_below (by (with_reducible repeat (first | apply zz12 | apply zz13 | apply zz14));exact HO_548001.out) hb)
      have n1_:=Aside0.mk (Kd.R_below (by (with_reducible repeat (first | apply zz12 | apply zz13 | apply zz14));exact HO_553001.out) hb)
      have n2_:=Aside0.mk (Kd.R_below (by (with_reducible repeat (first | apply zz12 | apply zz13 | apply zz14));exact HO_559001.out) hb)
      have n3_:=Aside0.mk (Kd.R_below (by (with_reducible repeat (first | apply zz12 | apply zz13 | apply zz14));exact HO563.out) hb)
      have n4_:=Aside0.mk (zz11 (g:=gb536) (o:=.cells #[.int .i64 a0_0,.slice A0_1 l0_1.length c0_1] 24 (0,0)) (by (with_reducible repeat (first | refine zz6 ?_ _ | refine zz7 ?_ | refine zz8 ?_ _));exact BK536.out) hb)
      have n5_:=Aside0.mk (zz11 (g:=gb547) (o:=.cells #[.int .i64 t542,.slice Ao24 t543.length co24] 30 (0,0)) (by (with_reducible repeat (first | refine zz6 ?_ _ | refine zz7 ?_ | refine zz8 ?_ _));exact BK547.out) hb)
      have n6_:=Aside0.mk (zz11 (g:=gb552) (o:=.cells #[.int .i64 t548,.slice Ao31 t549.length co31] 30 (0,0)) (by (with_reducible repeat (first | refine zz6 ?_ _ | refine zz7 ?_ | refine zz8 ?_ _));exact BK552.out) hb)
      have n7_:=Aside0.mk (zz11 (g:=gb558) (o:=.cells #[.int .i64 t553,.slice Ao38 t554.length co38] 30 (0,0)) (by (with_reducible repeat (first | refine zz6 ?_ _ | refine zz7 ?_ | refine zz8 ?_ _));exact BK558.out) hb)
      have n8_:=Aside0.mk (zz4 (by repeat first | exact HB.out | apply zz2 | apply zz0 | apply zz1 | refine zz3 ?_ GE536.out | refine zz3 ?_ GE547.out | refine zz3 ?_ GE552.out | refine zz3 ?_ GE558.out) hb)
      clear HO_548001
      clear HO_553001
      clear HO_559001
      clear HO563
      clear BK536
      clear BK547
      clear BK552
      clear BK558
      clear HB
      have HO_548001:=n0_
      have HO_553001:=n1_
      have HO_559001:=n2_
      have HO563:=n3_
      have BK536:=n4_
      have BK547:=n5_
      have BK552:=n6_
      have BK558:=n7_
      have HB:=n8_
      clear n0_ n1_ n2_ n3_ n4_ n5_ n6_ n7_ n8_
      (try clear hb)
      (try clear hb2)
      (try clear hk)
      (try clear hi)
      refine hK.out _ _ ⟨(zz9 BK552.out 0).trans rfl,(zz9 BK552.out 1).trans rfl,(zz9 BK536.out 0).trans rfl,(zz9 BK536.out 1).trans rfl⟩ (fun hHeld=>?_)
      clear hK K
      refine norm_ (a':=?_) ?_ ?_
      rotate_left
      ·show Act.put _ (some 52) _=_
       simp only [Act.put,zz21,zz22,zz23,i64_w,i32_w]
       rfl
      refine pure_ (i:=4) (N:=some 53) (v:=?_) (a':=?_) #[T,T,T,T,T] rfl rfl (by kernel_rfl) (fun _ _ _ h=>h) (Or.inl ⟨by rfl,?_⟩) ?_ ?_
      rotate_left
      ·intro w'
       go_simp
       with_reducible rfl
      rotate_left
      ·simp only [Act.put,zz21,zz22,zz23,i64_w,i32_w]
       rfl
      refine done_ (by kernel_rfl) ?_
      have hnb67:=NB552_536.out
      have hnc67:=NB536_552.out
      have hnb68:=NB552_547.out
      have hnc68:=NB547_552.out
      have hnb69:=NB552_558.out
      have hnc69:=NB558_552.out
      have hcz70_0:w66.cell? ⟨gb552,0,none⟩=some (.int .i64 t548):=(zz9 BK552.out 0).trans rfl
      have hcz70_1:w66.cell? ⟨gb552,1,none⟩=some (.slice Ao31 t549.length co31):=(zz9 BK552.out 1).trans rfl
      have hfz70_0:=zz10 BK552.out 0
      have hfz70_1:=zz10 BK552.out 1
      go_upto_region 14 with (first | ((with_reducible refine gate_callee (f:=20) rfl ?_);refine goesL_ (some 56) rfl rfl Try.func20 (by kernel_rfl) rfl #[.agg #[.int .i64 t548,.slice Ao31 t549.length co31],.int .i64 1] rfl (by (try simp only [zz26,zz27,zz28]);first | done | rfl | (simp only [zz24,zz25];rfl) | (simp only [zz25];congr;(try simp only [decide_eq_true_eq] at *);omega)) ?_;(with_reducible refine (laws_markParty.calls kj12 t548 (fun k_=>some k_=(.slice Ao31 t549.length co31:Value).ownBlock) (.slice Ao31 t549.length co31) t549 1 t565 t566 w _ ?side1 ?side2 A61.out).mono ?_);(case side1=>repeat first | exact HB.out | apply zz2 | apply zz0 | apply zz1 | refine zz3 ?_ GE536.out | refine zz3 ?_ GE547.out | refine zz3 ?_ GE552.out | refine zz3 ?_ GE558.out);(case side2=>exact Kd.R_tight rfl HO_553001.out);rintro e w71 ⟨rfl,hy0,hb,hkp⟩;refine ⟨_,rfl,?_⟩;have n0_:=Aside0.mk (Kd.R_mono (ok':=fun k_=>some k_ ≠ (.slice Ao31 t549.length co31:Value).ownBlock∧some k_ ≠ (.slice Ao38 t554.length co38:Value).ownBlock∧some k_ ≠ (.slice Ao65 t561.length co65:Value).ownBlock) (Kd.R_keptB (HO_548001.out) hkp (fun k_ hk_ hs_=>(hk_.1.1) hs_)) (fun k_ hk_=>⟨hk_.1.1.1,hk_.1.1.2,hk_.1.2⟩));have n1_:=Aside0.mk (Kd.R_reok rfl hy0 (fun k_ e_=>HO_553001.out.1 k_ e_));have n2_:=Aside0.mk (Kd.R_mono (ok':=fun k_=>some k_ ≠ (.slice Ao24 t543.length co24:Value).ownBlock∧some k_ ≠ (.slice Ao31 t549.length co31:Value).ownBlock∧some k_ ≠ (.slice Ao65 t561.length co65:Value).ownBlock) (Kd.R_keptB (HO_559001.out) hkp (fun k_ hk_ hs_=>(hk_.1.2) hs_)) (fun k_ hk_=>⟨hk_.1.1.1,hk_.1.1.2,hk_.1.2⟩));have n3_:=Aside0.mk (blk_kept (by (with_reducible repeat (first | refine zz6 ?_ _ | refine zz7 ?_ | refine zz8 ?_ _));exact BK536.out) hkp (fun hs_=>(fun e_=>(Kd.R_ne HO_553001.out BK536.out (by decide)) e_) hs_));have n4_:=Aside0.mk (blk_kept (by (with_reducible repeat (first | refine zz6 ?_ _ | refine zz7 ?_ | refine zz8 ?_ _));exact BK547.out) hkp (fun hs_=>(fun e_=>(Kd.R_ne HO_553001.out BK547.out (by decide)) e_) hs_));have n5_:=Aside0.mk (blk_kept (by (with_reducible repeat (first | refine zz6 ?_ _ | refine zz7 ?_ | refine zz8 ?_ _));exact BK552.out) hkp (fun hs_=>(fun e_=>(Kd.R_ne HO_553001.out BK552.out (by decide)) e_) hs_));have n6_:=Aside0.mk (blk_kept (by (with_reducible repeat (first | refine zz6 ?_ _ | refine zz7 ?_ | refine zz8 ?_ _));exact BK558.out) hkp (fun hs_=>(fun e_=>(Kd.R_ne HO_553001.out BK558.out (by decide)) e_) hs_));have n7_:=Aside0.mk (Kd.R_mono (ok':=fun k_=>some k_ ≠ (.slice Ao24 t543.length co24:Value).ownBlock∧some k_ ≠ (.slice Ao31 t549.length co31:Value).ownBlock∧some k_ ≠ (.slice Ao38 t554.length co38:Value).ownBlock) (Kd.R_keptB (HO563.out) hkp (fun k_ hk_ hs_=>(hk_.1.2) hs_)) (fun k_ hk_=>⟨hk_.1.1.1.2,hk_.1.1.2,hk_.1.2⟩));have n8_:=Aside0.mk (hb);clear HO_548001;clear HO_553001;clear HO_559001;clear BK536;clear BK547;clear BK552;clear BK558;clear HO563;clear HB;have HO_548001:=n0_;have HO_553001:=n1_;have HO_559001:=n2_;have BK536:=n3_;have BK547:=n4_;have BK552:=n5_;have BK558:=n6_;have HO563:=n7_;have HB:=n8_;clear n0_ n1_ n2_ n3_ n4_ n5_ n6_ n7_ n8_;(try clear hb);(try clear hkp);(try clear hy0)))
      (try simp only [Act.put,zz21,zz22,zz23])
      go_cut [69] (fun v69 wc=>∃ (kq:Nat) (x69_61:Bool),v69=.bool x69_61∧Aside0 (laws_FnExactAddPair.j1 kq a1 a2 t546 x69_61 a0_0 l0_1 t542 t543 t553 t554=some r)∧Aside0 (kq≤kj12)∧Aside0 (Kd.R k80 80 wc w.heap.size (fun k_=>some k_ ≠ ((.slice Ao31 t549.length co31):Value).ownBlock∧some k_ ≠ ((.slice Ao38 t554.length co38):Value).ownBlock) (.slice Ao24 t543.length co24) t543)∧Aside0 (Kd.R k80 80 wc w.heap.size (fun k_=>some k_ ≠ ((.slice Ao24 t543.length co24):Value).ownBlock∧some k_ ≠ ((.slice Ao38 t554.length co38):Value).ownBlock) (.slice Ao31 t549.length co31) t566)∧Aside0 (Kd.R k80 80 wc w.heap.size (fun k_=>some k_ ≠ ((.slice Ao24 t543.length co24):Value).ownBlock∧some k_ ≠ ((.slice Ao31 t549.length co31):Value).ownBlock) (.slice Ao38 t554.length co38) t554)∧Aside0 (wc.heap[gb536]?=some (.cells #[.int .i64 a0_0,(.slice A0_1 l0_1.length c0_1)] 24 (0,0)))∧Aside0 (wc.heap[gb547]?=some (.cells #[.int .i64 t542,(.slice Ao24 t543.length co24)] 30 (0,0)))∧Aside0 (wc.heap[gb552]?=some (.cells #[.int .i64 t548,(.slice Ao31 t549.length co31)] 30 (0,0)))∧Aside0 (wc.heap[gb558]?=some (.cells #[.int .i64 t553,(.slice Ao38 t554.length co38)] 30 (0,0)))∧Aside0 (Below w.heap.size w wc))
      case first =>
       have H:=HC62.out
       clear HC62
       by_cases c72:t565 < 0
       ·rw [if_pos c72] at H
        have c72b0:decide (t565 < 0)=true:=decide_eq_true c72
        clear c72
        (first | rw [c72b0] | (simp only [i64_w,i32_w];rw [c72b0]) | skip)
        have H':=Aside0.mk H
        clear H
        go_wp2
        go_meet
        case rel=>exact ⟨_,(true),(by first | rfl | (simp;done) | (simp [*];done)),H',⟨by have:=HJ12.out;first | omega | exact Nat.le_refl _⟩,⟨by (with_reducible repeat (first | apply zz12 | apply zz13 | apply zz14));exact Kd.R_mono HO_548001.out (fun _ hk=>⟨hk.1,hk.2.1⟩)⟩,⟨by (with_reducible repeat (first | apply zz12 | apply zz13 | apply zz14));exact Kd.R_mono HO_553001.out (fun _ hk=>⟨hk.1.1,hk.1.2⟩)⟩,⟨by (with_reducible repeat (first | apply zz12 | apply zz13 | apply zz14));exact Kd.R_mono HO_559001.out (fun _ hk=>⟨hk.1,hk.2.1⟩)⟩,⟨by (with_reducible repeat (first | refine zz6 ?_ _ | refine zz7 ?_ | refine zz8 ?_ _));exact BK536.out⟩,⟨by (with_reducible repeat (first | refine zz6 ?_ _ | refine zz7 ?_ | refine zz8 ?_ _));exact BK547.out⟩,⟨by (with_reducible repeat (first | refine zz6 ?_ _ | refine zz7 ?_ | refine zz8 ?_ _));exact BK552.out⟩,⟨by (with_reducible repeat (first | refine zz6 ?_ _ | refine zz7 ?_ | refine zz8 ?_ _));exact BK558.out⟩,⟨by repeat first | exact HB.out | apply zz2 | apply zz0 | apply zz1 | refine zz3 ?_ GE536.out | refine zz3 ?_ GE547.out | refine zz3 ?_ GE552.out | refine zz3 ?_ GE558.out⟩⟩
       ·rw [if_neg c72] at H
        have c72b0:decide (t565 < 0)=false:=decide_eq_false c72
        clear c72
        (first | rw [c72b0] | (simp only [i64_w,i32_w];rw [c72b0]) | skip)
        replace H:=zz30.mp H
        obtain ⟨t567,A730,H⟩:=H
        replace H:(if t567=true then (laws_FnExactAddPair.j1 kj12 a1 a2 t546 (t557 != t546) a0_0 l0_1 t542 t543 t553 t554) else (laws_FnExactAddPair.j1 kj12 a1 a2 t546 true a0_0 l0_1 t542 t543 t553 t554))=some r:=H
        have A73:=Aside0.mk A730
        clear A730
        by_cases c74:t567=true
        ·subst c74
         have H1:(laws_FnExactAddPair.j1 kj12 a1 a2 t546 (t557 != t546) a0_0 l0_1 t542 t543 t553 t554)=some r:=by rw [if_pos rfl] at H;exact H
         clear H
         have H:=H1
         clear H1
         have H':=Aside0.mk H
         clear H
         have hnb75:=NB558_536.out
         have hnc75:=NB536_558.out
         have hnb76:=NB558_547.out
         have hnc76:=NB547_558.out
         have hnb77:=NB558_552.out
         have hnc77:=NB552_558.out
         have hcz78_0:w71.cell? ⟨gb558,0,none⟩=some (.int .i64 t553):=(zz9 BK558.out 0).trans rfl
         have hcz78_1:w71.cell? ⟨gb558,1,none⟩=some (.slice Ao38 t554.length co38):=(zz9 BK558.out 1).trans rfl
         have hfz78_0:=zz10 BK558.out 0
         have hfz78_1:=zz10 BK558.out 1
         have hnb79:=NB547_536.out
         have hnc79:=NB536_547.out
         have hnb80:=NB547_552.out
         have hnc80:=NB552_547.out
         have hcz81_0:w71.cell? ⟨gb547,0,none⟩=some (.int .i64 t542):=(zz9 BK547.out 0).trans rfl
         have hcz81_1:w71.cell? ⟨gb547,1,none⟩=some (.slice Ao24 t543.length co24):=(zz9 BK547.out 1).trans rfl
         have hfz81_0:=zz10 BK547.out 0
         have hfz81_1:=zz10 BK547.out 1
         go_wp2_with (first | (go_at_call 16;(with_reducible refine (laws_eqParty.calls kj12 t553 _ _ t554 t542 _ _ t543 true _ ?side1 ?side2 ?side3 ?side4 A73.out).mono ?_);(case side1=>repeat (first | exact (Kd.R_reads' HO_559001.out).2.2 | (with_reducible refine zz18 ?_ _) | (with_reducible refine zz19 ?_ _) | (with_reducible refine zz20 ?_)));(case side2=>exact (Kd.R_reads' HO_559001.out).2.1);(case side3=>repeat (first | exact (Kd.R_reads' HO_548001.out).2.2 | (with_reducible refine zz18 ?_ _) | (with_reducible refine zz19 ?_ _) | (with_reducible refine zz20 ?_)));(case side4=>exact (Kd.R_reads' HO_548001.out).2.1);rintro e w82 ⟨rfl,hb⟩;have n0_:=Aside0.mk (Kd.R_below (by (with_reducible repeat (first | apply zz12 | apply zz13 | apply zz14));exact HO_548001.out) hb);have n1_:=Aside0.mk (Kd.R_below (by (with_reducible repeat (first | apply zz12 | apply zz13 | apply zz14));exact HO_553001.out) hb);have n2_:=Aside0.mk (Kd.R_below (by (with_reducible repeat (first | apply zz12 | apply zz13 | apply zz14));exact HO_559001.out) hb);have n3_:=Aside0.mk (Kd.R_below (by (with_reducible repeat (first | apply zz12 | apply zz13 | apply zz14));exact HO563.out) hb);have n4_:=Aside0.mk (zz11 (g:=gb536) (o:=.cells #[.int .i64 a0_0,.slice A0_1 l0_1.length c0_1] 24 (0,0)) (by (with_reducible repeat (first | refine zz6 ?_ _ | refine zz7 ?_ | refine zz8 ?_ _));exact BK536.out) hb);have n5_:=Aside0.mk (zz11 (g:=gb547) (o:=.cells #[.int .i64 t542,.slice Ao24 t543.length co24] 30 (0,0)) (by (with_reducible repeat (first | refine zz6 ?_ _ | refine zz7 ?_ | refine zz8 ?_ _));exact BK547.out) hb);have n6_:=Aside0.mk (zz11 (g:=gb552) (o:=.cells #[.int .i64 t548,.slice Ao31 t549.length co31] 30 (0,0)) (by (with_reducible repeat (first | refine zz6 ?_ _ | refine zz7 ?_ | refine zz8 ?_ _));exact BK552.out) hb);have n7_:=Aside0.mk (zz11 (g:=gb558) (o:=.cells #[.int .i64 t553,.slice Ao38 t554.length co38] 30 (0,0)) (by (with_reducible repeat (first | refine zz6 ?_ _ | refine zz7 ?_ | refine zz8 ?_ _));exact BK558.out) hb);have n8_:=Aside0.mk (zz4 (by repeat first | exact HB.out | apply zz2 | apply zz0 | apply zz1 | refine zz3 ?_ GE536.out | refine zz3 ?_ GE547.out | refine zz3 ?_ GE552.out | refine zz3 ?_ GE558.out) hb);clear HO_548001;clear HO_553001;clear HO_559001;clear HO563;clear BK536;clear BK547;clear BK552;clear BK558;clear HB;have HO_548001:=n0_;have HO_553001:=n1_;have HO_559001:=n2_;have HO563:=n3_;have BK536:=n4_;have BK547:=n5_;have BK552:=n6_;have BK558:=n7_;have HB:=n8_;clear n0_ n1_ n2_ n3_ n4_ n5_ n6_ n7_ n8_;(try clear hb);(try clear hb2);(try clear hk);(try clear hi)))
         go_meet
         case rel=>exact ⟨_,((t557 != t546)),(by first | rfl | (simp;done) | (simp [*];done)),H',⟨by have:=HJ12.out;first | omega | exact Nat.le_refl _⟩,⟨by (with_reducible repeat (first | apply zz12 | apply zz13 | apply zz14));exact Kd.R_mono HO_548001.out (fun _ hk=>⟨hk.1,hk.2.1⟩)⟩,⟨by (with_reducible repeat (first | apply zz12 | apply zz13 | apply zz14));exact Kd.R_mono HO_553001.out (fun _ hk=>⟨hk.1.1,hk.1.2⟩)⟩,⟨by (with_reducible repeat (first | apply zz12 | apply zz13 | apply zz14));exact Kd.R_mono HO_559001.out (fun _ hk=>⟨hk.1,hk.2.1⟩)⟩,⟨by (with_reducible repeat (first | refine zz6 ?_ _ | refine zz7 ?_ | refine zz8 ?_ _));exact BK536.out⟩,⟨by (with_reducible repeat (first | refine zz6 ?_ _ | refine zz7 ?_ | refine zz8 ?_ _));exact BK547.out⟩,⟨by (with_reducible repeat (first | refine zz6 ?_ _ | refine zz7 ?_ | refine zz8 ?_ _));exact BK552.out⟩,⟨by (with_reducible repeat (first | refine zz6 ?_ _ | refine zz7 ?_ | refine zz8 ?_ _));exact BK558.out⟩,⟨by repeat first | exact HB.out | apply zz2 | apply zz0 | apply zz1 | refine zz3 ?_ GE536.out | refine zz3 ?_ GE547.out | refine zz3 ?_ GE552.out | refine zz3 ?_ GE558.out⟩⟩
        ·replace c74:=Bool.eq_false_iff.mpr c74
         subst c74
         have H1:(laws_FnExactAddPair.j1 kj12 a1 a2 t546 true a0_0 l0_1 t542 t543 t553 t554)=some r:=by rw [if_neg (show ¬ (false=true) by decide)] at H;exact H
         clear H
         have H:=H1
         clear H1
         have H':=Aside0.mk H
         clear H
         have hnb83:=NB558_536.out
         have hnc83:=NB536_558.out
         have hnb84:=NB558_547.out
         have hnc84:=NB547_558.out
         have hnb85:=NB558_552.out
         have hnc85:=NB552_558.out
         have hcz86_0:w71.cell? ⟨gb558,0,none⟩=some (.int .i64 t553):=(zz9 BK558.out 0).trans rfl
         have hcz86_1:w71.cell? ⟨gb558,1,none⟩=some (.slice Ao38 t554.length co38):=(zz9 BK558.out 1).trans rfl
         have hfz86_0:=zz10 BK558.out 0
         have hfz86_1:=zz10 BK558.out 1
         have hnb87:=NB547_536.out
         have hnc87:=NB536_547.out
         have hnb88:=NB547_552.out
         have hnc88:=NB552_547.out
         have hcz89_0:w71.cell? ⟨gb547,0,none⟩=some (.int .i64 t542):=(zz9 BK547.out 0).trans rfl
         have hcz89_1:w71.cell? ⟨gb547,1,none⟩=some (.slice Ao24 t543.length co24):=(zz9 BK547.out 1).trans rfl
         have hfz89_0:=zz10 BK547.out 0
         have hfz89_1:=zz10 BK547.out 1
         go_wp2_with (first | (go_at_call 16;(with_reducible refine (laws_eqParty.calls kj12 t553 _ _ t554 t542 _ _ t543 false _ ?side1 ?side2 ?side3 ?side4 A73.out).mono ?_);(case side1=>repeat (first | exact (Kd.R_reads' HO_559001.out).2.2 | (with_reducible refine zz18 ?_ _) | (with_reducible refine zz19 ?_ _) | (with_reducible refine zz20 ?_)));(case side2=>exact (Kd.R_reads' HO_559001.out).2.1);(case side3=>repeat (first | exact (Kd.R_reads' HO_548001.out).2.2 | (with_reducible refine zz18 ?_ _) | (with_reducible refine zz19 ?_ _) | (with_reducible refine zz20 ?_)));(case side4=>exact (Kd.R_reads' HO_548001.out).2.1);rintro e w90 ⟨rfl,hb⟩;have n0_:=Aside0.mk (Kd.R_below (by (with_reducible repeat (first | apply zz12 | apply zz13 | apply zz14));exact HO_548001.out) hb);have n1_:=Aside0.mk (Kd.R_below (by (with_reducible repeat (first | apply zz12 | apply zz13 | apply zz14));exact HO_553001.out) hb);have n2_:=Aside0.mk (Kd.R_below (by (with_reducible repeat (first | apply zz12 | apply zz13 | apply zz14));exact HO_559001.out) hb);have n3_:=Aside0.mk (Kd.R_below (by (with_reducible repeat (first | apply zz12 | apply zz13 | apply zz14));exact HO563.out) hb);have n4_:=Aside0.mk (zz11 (g:=gb536) (o:=.cells #[.int .i64 a0_0,.slice A0_1 l0_1.length c0_1] 24 (0,0)) (by (with_reducible repeat (first | refine zz6 ?_ _ | refine zz7 ?_ | refine zz8 ?_ _));exact BK536.out) hb);have n5_:=Aside0.mk (zz11 (g:=gb547) (o:=.cells #[.int .i64 t542,.slice Ao24 t543.length co24] 30 (0,0)) (by (with_reducible repeat (first | refine zz6 ?_ _ | refine zz7 ?_ | refine zz8 ?_ _));exact BK547.out) hb);have n6_:=Aside0.mk (zz11 (g:=gb552) (o:=.cells #[.int .i64 t548,.slice Ao31 t549.length co31] 30 (0,0)) (by (with_reducible repeat (first | refine zz6 ?_ _ | refine zz7 ?_ | refine zz8 ?_ _));exact BK552.out) hb);have n7_:=Aside0.mk (zz11 (g:=gb558) (o:=.cells #[.int .i64 t553,.slice Ao38 t554.length co38] 30 (0,0)) (by (with_reducible repeat (first | refine zz6 ?_ _ | refine zz7 ?_ | refine zz8 ?_ _));exact BK558.out) hb);have n8_:=Aside0.mk (zz4 (by repeat first | exact HB.out | apply zz2 | apply zz0 | apply zz1 | refine zz3 ?_ GE536.out | refine zz3 ?_ GE547.out | refine zz3 ?_ GE552.out | refine zz3 ?_ GE558.out) hb);clear HO_548001;clear HO_553001;clear HO_559001;clear HO563;clear BK536;clear BK547;clear BK552;clear BK558;clear HB;have HO_548001:=n0_;have HO_553001:=n1_;have HO_559001:=n2_;have HO563:=n3_;have BK536:=n4_;have BK547:=n5_;have BK552:=n6_;have BK558:=n7_;have HB:=n8_;clear n0_ n1_ n2_ n3_ n4_ n5_ n6_ n7_ n8_;(try clear hb);(try clear hb2);(try clear hk);(try clear hi)))
         go_meet
         case rel=>exact ⟨_,(true),(by first | rfl | (simp;done) | (simp [*];done)),H',⟨by have:=HJ12.out;first | omega | exact Nat.le_refl _⟩,⟨by (with_reducible repeat (first | apply zz12 | apply zz13 | apply zz14));exact Kd.R_mono HO_548001.out (fun _ hk=>⟨hk.1,hk.2.1⟩)⟩,⟨by (with_reducible repeat (first | apply zz12 | apply zz13 | apply zz14));exact Kd.R_mono HO_553001.out (fun _ hk=>⟨hk.1.1,hk.1.2⟩)⟩,⟨by (with_reducible repeat (first | apply zz12 | apply zz13 | apply zz14));exact Kd.R_mono HO_559001.out (fun _ hk=>⟨hk.1,hk.2.1⟩)⟩,⟨by (with_reducible repeat (first | refine zz6 ?_ _ | refine zz7 ?_ | refine zz8 ?_ _));exact BK536.out⟩,⟨by (with_reducible repeat (first | refine zz6 ?_ _ | refine zz7 ?_ | refine zz8 ?_ _));exact BK547.out⟩,⟨by (with_reducible repeat (first | refine zz6 ?_ _ | refine zz7 ?_ | refine zz8 ?_ _));exact BK552.out⟩,⟨by (with_reducible repeat (first | refine zz6 ?_ _ | refine zz7 ?_ | refine zz8 ?_ _));exact BK558.out⟩,⟨by repeat first | exact HB.out | apply zz2 | apply zz0 | apply zz1 | refine zz3 ?_ GE536.out | refine zz3 ?_ GE547.out | refine zz3 ?_ GE552.out | refine zz3 ?_ GE558.out⟩⟩
      case rest =>
       clear HC62
       try clear c1
       try clear c2
       try clear p2
       try clear c3
       try clear c4
       try clear c5
       try clear c5b0
       try clear c6
       try clear c7
       try clear c8
       try clear c12
       try clear c14
       try clear c16
       try clear c20
       try clear c22
       try clear c28
       try clear c29
       try clear c32
       try clear c33
       try clear c34
       try clear c35
       try clear c36
       try clear c40
       try clear c41
       try clear c42
       try clear c43
       try clear c45
       try clear c46
       try clear c49
       try clear c50
       try clear c51
       try clear c53
       try clear c54
       try clear c57
       try clear c60
       try clear c67
       try clear c68
       try clear c69
       try clear c72
       try clear c72b0
       try clear c74
       try clear c75
       try clear c76
       try clear c77
       try clear c79
       try clear c80
       try clear c83
       try clear c84
       try clear c85
       try clear c87
       try clear c88
       try clear hcz15_0
       try clear hcz15_1
       try clear hcz17_0
       try clear hcz17_1
       try clear hcz23_0
       try clear hcz23_1
       try clear hcz25_0
       try clear hcz25_1
       try clear hcz30_0
       try clear hcz30_1
       try clear hcz37_0
       try clear hcz37_1
       try clear hcz44_0
       try clear hcz44_1
       try clear hcz47_0
       try clear hcz47_1
       try clear hcz52_0
       try clear hcz52_1
       try clear hcz55_0
       try clear hcz55_1
       try clear hcz70_0
       try clear hcz70_1
       try clear hcz78_0
       try clear hcz78_1
       try clear hcz7_0
       try clear hcz7_1
       try clear hcz81_0
       try clear hcz81_1
       try clear hcz86_0
       try clear hcz86_1
       try clear hcz89_0
       try clear hcz89_1
       try clear hfz15_0
       try clear hfz15_1
       try clear hfz17_0
       try clear hfz17_1
       try clear hfz23_0
       try clear hfz23_1
       try clear hfz25_0
       try clear hfz25_1
       try clear hfz30_0
       try clear hfz30_1
       try clear hfz37_0
       try clear hfz37_1
       try clear hfz44_0
       try clear hfz44_1
       try clear hfz47_0
       try clear hfz47_1
       try clear hfz52_0
       try clear hfz52_1
       try clear hfz55_0
       try clear hfz55_1
       try clear hfz70_0
       try clear hfz70_1
       try clear hfz78_0
       try clear hfz78_1
       try clear hfz7_0
       try clear hfz7_1
       try clear hfz81_0
       try clear hfz81_1
       try clear hfz86_0
       try clear hfz86_1
       try clear hfz89_0
       try clear hfz89_1
       try clear p2
       obtain ⟨kq,x69_61,rfl,HA,HJ61,HO_548001,HO_553001,HO_559001,BK536,BK547,BK552,BK558,HB⟩:=hcut
       have hl553001_61:=(Kd.R_reads' HO_553001.out).1
       rw [hl553001_61] at HO_553001
       (try simp only [hl553001_61])
       (try simp only [hl553001_61] at BK536)
       (try simp only [hl553001_61] at BK547)
       (try simp only [hl553001_61] at BK552)
       (try simp only [hl553001_61] at BK558)
       (try simp only [hl553001_61] at HO_548001)
       (try simp only [hl553001_61] at HO_559001)
       cases kq with
       | zero=>exact absurd HA.out (by simp [laws_FnExactAddPair.j1])
       | succ kj61 =>
        have H:=HA.out
        clear HA
        simp only [laws_FnExactAddPair.j1] at H
        by_cases c91:x69_61=true
        ·subst c91
         have H1:(some false)=some r:=by rw [if_pos rfl] at H;exact H
         clear H
         have H:=H1
         clear H1
         obtain rfl:=Option.some.inj H
         go_wp2
         go_ret
         exact ⟨by first | rfl | (simp [errW_none,errW_some] <;> rfl) | (simp [*,errW_none,errW_some] <;> rfl),by repeat first | exact HB.out | apply zz2 | apply zz0 | apply zz1 | refine zz3 ?_ GE536.out | refine zz3 ?_ GE547.out | refine zz3 ?_ GE552.out | refine zz3 ?_ GE558.out⟩
        ·replace c91:=Bool.eq_false_iff.mpr c91
         subst c91
         have H1:((laws_markParty.f kj61 t553 t554 1).bind fun bt568=>((laws_heldParty.f kj61 t553 bt568.2 1).bind fun t570=>(if t570 < 0 then (some false) else (if t570=bt568.1 then ((laws_toParty.f kj61 a0_0 l0_1).bind fun bt571=>((impl_AddPair.f kj61 bt571.1 bt571.2 a1 a2).bind fun bt575=>((laws_eqParty.f kj61 bt575.1 bt575.2.1 t542 t543).bind fun t581=>(if t581=true then (laws_FnExactAddPair.j2 kj61 bt568.1 (bt575.2.2 != t546) t553 bt568.2) else (laws_FnExactAddPair.j2 kj61 bt568.1 true t553 bt568.2))))) else (some false)))))=some r:=by rw [if_neg (show ¬ (false=true) by decide)] at H;exact H
         clear H
         have H:=H1
         clear H1
         replace H:=zz30.mp H
         obtain ⟨⟨t568,t569⟩,A920,H⟩:=H
         replace H:((laws_heldParty.f kj61 t553 t569 1).bind fun t570=>(if t570 < 0 then (some false) else (if t570=t568 then ((laws_toParty.f kj61 a0_0 l0_1).bind fun bt571=>((impl_AddPair.f kj61 bt571.1 bt571.2 a1 a2).bind fun bt575=>((laws_eqParty.f kj61 bt575.1 bt575.2.1 t542 t543).bind fun t581=>(if t581=true then (laws_FnExactAddPair.j2 kj61 t568 (bt575.2.2 != t546) t553 t569) else (laws_FnExactAddPair.j2 kj61 t568 true t553 t569))))) else (some false))))=some r:=H
         have A92:=Aside0.mk A920
         clear A920
         replace H:=zz30.mp H
         obtain ⟨t570,A930,H⟩:=H
         replace H:(if t570 < 0 then (some false) else (if t570=t568 then ((laws_toParty.f kj61 a0_0 l0_1).bind fun bt571=>((impl_AddPair.f kj61 bt571.1 bt571.2 a1 a2).bind fun bt575=>((laws_eqParty.f kj61 bt575.1 bt575.2.1 t542 t543).bind fun t581=>(if t581=true then (laws_FnExactAddPair.j2 kj61 t568 (bt575.2.2 != t546) t553 t569) else (laws_FnExactAddPair.j2 kj61 t568 true t553 t569))))) else (some false)))=some r:=H
         have A93:=Aside0.mk A930
         clear A930
         by_cases c94:t570 < 0
         ·rw [if_pos c94] at H
          have c94b0:decide (t570 < 0)=true:=decide_eq_true c94
          clear c94
          obtain rfl:=Option.some.inj H
          have hnb95:=NB558_536.out
          have hnc95:=NB536_558.out
          have hnb96:=NB558_547.out
          have hnc96:=NB547_558.out
          have hnb97:=NB558_552.out
          have hnc97:=NB552_558.out
          have hcz98_0:wc.cell? ⟨gb558,0,none⟩=some (.int .i64 t553):=(zz9 BK558.out 0).trans rfl
          have hcz98_1:wc.cell? ⟨gb558,1,none⟩=some (.slice Ao38 t554.length co38):=(zz9 BK558.out 1).trans rfl
          have hfz98_0:=zz10 BK558.out 0
          have hfz98_1:=zz10 BK558.out 1
          go_wp2_with (first | ((with_reducible refine gate_callee (f:=20) rfl ?_);refine goesL_ (some 72) rfl rfl Try.func20 (by kernel_rfl) rfl #[.agg #[.int .i64 t553,.slice Ao38 t554.length co38],.int .i64 1] rfl (by (try simp only [zz26,zz27,zz28]);first | done | rfl | (simp only [zz24,zz25];rfl) | (simp only [zz25];congr;(try simp only [decide_eq_true_eq] at *);omega)) ?_;(with_reducible refine (laws_markParty.calls kj61 t553 (fun k_=>some k_=(.slice Ao38 t554.length co38:Value).ownBlock) (.slice Ao38 t554.length co38) t554 1 t568 t569 w _ ?side1 ?side2 A92.out).mono ?_);(case side1=>repeat first | exact HB.out | apply zz2 | apply zz0 | apply zz1 | refine zz3 ?_ GE536.out | refine zz3 ?_ GE547.out | refine zz3 ?_ GE552.out | refine zz3 ?_ GE558.out);(case side2=>exact Kd.R_tight rfl HO_559001.out);rintro e w99 ⟨rfl,hy0,hb,hkp⟩;refine ⟨_,rfl,?_⟩;have n0_:=Aside0.mk (Kd.R_mono (ok':=fun k_=>some k_ ≠ (.slice Ao31 t566.length co31:Value).ownBlock∧some k_ ≠ (.slice Ao38 t554.length co38:Value).ownBlock) (Kd.R_keptB (HO_548001.out) hkp (fun k_ hk_ hs_=>(hk_.2) hs_)) (fun k_ hk_=>⟨hk_.1.1,hk_.1.2⟩));have n1_:=Aside0.mk (Kd.R_mono (ok':=fun k_=>some k_ ≠ (.slice Ao24 t543.length co24:Value).ownBlock∧some k_ ≠ (.slice Ao38 t554.length co38:Value).ownBlock) (Kd.R_keptB (HO_553001.out) hkp (fun k_ hk_ hs_=>(hk_.2) hs_)) (fun k_ hk_=>⟨hk_.1.1,hk_.1.2⟩));have n2_:=Aside0.mk (Kd.R_reok rfl hy0 (fun k_ e_=>HO_559001.out.1 k_ e_));have n3_:=Aside0.mk (blk_kept (by (with_reducible repeat (first | refine zz6 ?_ _ | refine zz7 ?_ | refine zz8 ?_ _));exact BK536.out) hkp (fun hs_=>(fun e_=>(Kd.R_ne HO_559001.out BK536.out (by decide)) e_) hs_));have n4_:=Aside0.mk (blk_kept (by (with_reducible repeat (first | refine zz6 ?_ _ | refine zz7 ?_ | refine zz8 ?_ _));exact BK547.out) hkp (fun hs_=>(fun e_=>(Kd.R_ne HO_559001.out BK547.out (by decide)) e_) hs_));have n5_:=Aside0.mk (blk_kept (by (with_reducible repeat (first | refine zz6 ?_ _ | refine zz7 ?_ | refine zz8 ?_ _));exact BK552.out) hkp (fun hs_=>(fun e_=>(Kd.R_ne HO_559001.out BK552.out (by decide)) e_) hs_));have n6_:=Aside0.mk (blk_kept (by (with_reducible repeat (first | refine zz6 ?_ _ | refine zz7 ?_ | refine zz8 ?_ _));exact BK558.out) hkp (fun hs_=>(fun e_=>(Kd.R_ne HO_559001.out BK558.out (by decide)) e_) hs_));have n7_:=Aside0.mk (hb);clear HO_548001;clear HO_553001;clear HO_559001;clear BK536;clear BK547;clear BK552;clear BK558;clear HB;have HO_548001:=n0_;have HO_553001:=n1_;have HO_559001:=n2_;have BK536:=n3_;have BK547:=n4_;have BK552:=n5_;have BK558:=n6_;have HB:=n7_;clear n0_ n1_ n2_ n3_ n4_ n5_ n6_ n7_;(try clear hb);(try clear hkp);(try clear hy0);have hcz100_0:w99.cell? ⟨gb558,0,none⟩=some (.int .i64 t553):=(zz9 BK558.out 0).trans rfl;have hcz100_1:w99.cell? ⟨gb558,1,none⟩=some (.slice Ao38 t554.length co38):=(zz9 BK558.out 1).trans rfl;have hfz100_0:=zz10 BK558.out 0;have hfz100_1:=zz10 BK558.out 1) | ((with_reducible refine gate_callee (f:=29) rfl ?_);refine goesL_ (some 75) rfl rfl Try.func29 (by kernel_rfl) rfl #[.agg #[.int .i64 t553,.slice Ao38 t569.length co38],.int .i64 1] rfl (by (try simp only [zz26,zz27,zz28]);first | done | (rw [show t569.length=t554.length from (Kd.R_reads' HO_559001.out).1.symm] <;> rfl) | rfl | (simp only [zz24,zz25];rfl)) ?_;(with_reducible refine (laws_heldParty.calls kj61 t553 _ _ t569 1 t570 _ ?side1 ?side2 A93.out).mono ?_);(case side1=>repeat (first | exact (Kd.R_reads' HO_559001.out).2.2 | (with_reducible refine zz18 ?_ _) | (with_reducible refine zz19 ?_ _) | (with_reducible refine zz20 ?_)));(case side2=>rw [show t569.length=t554.length from (Kd.R_reads' HO_559001.out).1.symm];exact (Kd.R_reads' HO_559001.out).2.1);rintro e w101 ⟨rfl,hb⟩;refine ⟨_,rfl,?_⟩;have n0_:=Aside0.mk (Kd.R_below (by (with_reducible repeat (first | apply zz12 | apply zz13 | apply zz14));exact HO_548001.out) hb);have n1_:=Aside0.mk (Kd.R_below (by (with_reducible repeat (first | apply zz12 | apply zz13 | apply zz14));exact HO_553001.out) hb);have n2_:=Aside0.mk (Kd.R_below (by (with_reducible repeat (first | apply zz12 | apply zz13 | apply zz14));exact HO_559001.out) hb);have n3_:=Aside0.mk (zz11 (g:=gb536) (o:=.cells #[.int .i64 a0_0,.slice A0_1 l0_1.length c0_1] 24 (0,0)) (by (with_reducible repeat (first | refine zz6 ?_ _ | refine zz7 ?_ | refine zz8 ?_ _));exact BK536.out) hb);have n4_:=Aside0.mk (zz11 (g:=gb547) (o:=.cells #[.int .i64 t542,.slice Ao24 t543.length co24] 30 (0,0)) (by (with_reducible repeat (first | refine zz6 ?_ _ | refine zz7 ?_ | refine zz8 ?_ _));exact BK547.out) hb);have n5_:=Aside0.mk (zz11 (g:=gb552) (o:=.cells #[.int .i64 t548,.slice Ao31 t566.length co31] 30 (0,0)) (by (with_reducible repeat (first | refine zz6 ?_ _ | refine zz7 ?_ | refine zz8 ?_ _));exact BK552.out) hb);have n6_:=Aside0.mk (zz11 (g:=gb558) (o:=.cells #[.int .i64 t553,.slice Ao38 t554.length co38] 30 (0,0)) (by (with_reducible repeat (first | refine zz6 ?_ _ | refine zz7 ?_ | refine zz8 ?_ _));exact BK558.out) hb);have n7_:=Aside0.mk (zz4 (by repeat first | exact HB.out | apply zz2 | apply zz0 | apply zz1 | refine zz3 ?_ GE536.out | refine zz3 ?_ GE547.out | refine zz3 ?_ GE552.out | refine zz3 ?_ GE558.out) hb);clear HO_548001;clear HO_553001;clear HO_559001;clear BK536;clear BK547;clear BK552;clear BK558;clear HB;have HO_548001:=n0_;have HO_553001:=n1_;have HO_559001:=n2_;have BK536:=n3_;have BK547:=n4_;have BK552:=n5_;have BK558:=n6_;have HB:=n7_;clear n0_ n1_ n2_ n3_ n4_ n5_ n6_ n7_;(try clear hb);(try clear hb2);(try clear hk);(try clear hi)))
          go_ret
          exact ⟨by first | rfl | (simp [errW_none,errW_some] <;> rfl) | (simp [*,errW_none,errW_some] <;> rfl),by repeat first | exact HB.out | apply zz2 | apply zz0 | apply zz1 | refine zz3 ?_ GE536.out | refine zz3 ?_ GE547.out | refine zz3 ?_ GE552.out | refine zz3 ?_ GE558.out⟩
         ·rw [if_neg c94] at H
          have c94b0:decide (t570 < 0)=false:=decide_eq_false c94
          clear c94
          by_cases c102:t570=t568
          ·rw [if_pos c102] at H
           have c102b0:(t570 == t568)=true:=beq_iff_eq.mpr c102
           have c102b1:(t570 != t568)=false:=bne_eq_false_iff_eq.mpr c102
           clear c102
           replace H:=zz30.mp H
           obtain ⟨⟨t571,t572⟩,A1030,H⟩:=H
           replace H:((impl_AddPair.f kj61 t571 t572 a1 a2).bind fun bt575=>((laws_eqParty.f kj61 bt575.1 bt575.2.1 t542 t543).bind fun t581=>(if t581=true then (laws_FnExactAddPair.j2 kj61 t568 (bt575.2.2 != t546) t553 t569) else (laws_FnExactAddPair.j2 kj61 t568 true t553 t569))))=some r:=H
           have A103:=Aside0.mk A1030
           clear A1030
           replace H:=zz30.mp H
           obtain ⟨⟨t575,t576,t579⟩,A1040,H⟩:=H
           replace H:((laws_eqParty.f kj61 t575 t576 t542 t543).bind fun t581=>(if t581=true then (laws_FnExactAddPair.j2 kj61 t568 (t579 != t546) t553 t569) else (laws_FnExactAddPair.j2 kj61 t568 true t553 t569)))=some r:=H
           have A104:=Aside0.mk A1040
           clear A1040
           have HC105:=Aside0.mk H
           clear H
           have hnb106:=NB558_536.out
           have hnc106:=NB536_558.out
           have hnb107:=NB558_547.out
           have hnc107:=NB547_558.out
           have hnb108:=NB558_552.out
           have hnc108:=NB552_558.out
           have hcz109_0:wc.cell? ⟨gb558,0,none⟩=some (.int .i64 t553):=(zz9 BK558.out 0).trans rfl
           have hcz109_1:wc.cell? ⟨gb558,1,none⟩=some (.slice Ao38 t554.length co38):=(zz9 BK558.out 1).trans rfl
           have hfz109_0:=zz10 BK558.out 0
           have hfz109_1:=zz10 BK558.out 1
           go_upto_region 25 with (first | ((with_reducible refine gate_callee (f:=20) rfl ?_);refine goesL_ (some 72) rfl rfl Try.func20 (by kernel_rfl) rfl #[.agg #[.int .i64 t553,.slice Ao38 t554.length co38],.int .i64 1] rfl (by (try simp only [zz26,zz27,zz28]);first | done | rfl | (simp only [zz24,zz25];rfl) | (simp only [zz25];congr;(try simp only [decide_eq_true_eq] at *);omega)) ?_;(with_reducible refine (laws_markParty.calls kj61 t553 (fun k_=>some k_=(.slice Ao38 t554.length co38:Value).ownBlock) (.slice Ao38 t554.length co38) t554 1 t568 t569 w _ ?side1 ?side2 A92.out).mono ?_);(case side1=>repeat first | exact HB.out | apply zz2 | apply zz0 | apply zz1 | refine zz3 ?_ GE536.out | refine zz3 ?_ GE547.out | refine zz3 ?_ GE552.out | refine zz3 ?_ GE558.out);(case side2=>exact Kd.R_tight rfl HO_559001.out);rintro e w110 ⟨rfl,hy0,hb,hkp⟩;refine ⟨_,rfl,?_⟩;have n0_:=Aside0.mk (Kd.R_mono (ok':=fun k_=>some k_ ≠ (.slice Ao31 t566.length co31:Value).ownBlock∧some k_ ≠ (.slice Ao38 t554.length co38:Value).ownBlock) (Kd.R_keptB (HO_548001.out) hkp (fun k_ hk_ hs_=>(hk_.2) hs_)) (fun k_ hk_=>⟨hk_.1.1,hk_.1.2⟩));have n1_:=Aside0.mk (Kd.R_mono (ok':=fun k_=>some k_ ≠ (.slice Ao24 t543.length co24:Value).ownBlock∧some k_ ≠ (.slice Ao38 t554.length co38:Value).ownBlock) (Kd.R_keptB (HO_553001.out) hkp (fun k_ hk_ hs_=>(hk_.2) hs_)) (fun k_ hk_=>⟨hk_.1.1,hk_.1.2⟩));have n2_:=Aside0.mk (Kd.R_reok rfl hy0 (fun k_ e_=>HO_559001.out.1 k_ e_));have n3_:=Aside0.mk (blk_kept (by (with_reducible repeat (first | refine zz6 ?_ _ | refine zz7 ?_ | refine zz8 ?_ _));exact BK536.out) hkp (fun hs_=>(fun e_=>(Kd.R_ne HO_559001.out BK536.out (by decide)) e_) hs_));have n4_:=Aside0.mk (blk_kept (by (with_reducible repeat (first | refine zz6 ?_ _ | refine zz7 ?_ | refine zz8 ?_ _));exact BK547.out) hkp (fun hs_=>(fun e_=>(Kd.R_ne HO_559001.out BK547.out (by decide)) e_) hs_));have n5_:=Aside0.mk (blk_kept (by (with_reducible repeat (first | refine zz6 ?_ _ | refine zz7 ?_ | refine zz8 ?_ _));exact BK552.out) hkp (fun hs_=>(fun e_=>(Kd.R_ne HO_559001.out BK552.out (by decide)) e_) hs_));have n6_:=Aside0.mk (blk_kept (by (with_reducible repeat (first | refine zz6 ?_ _ | refine zz7 ?_ | refine zz8 ?_ _));exact BK558.out) hkp (fun hs_=>(fun e_=>(Kd.R_ne HO_559001.out BK558.out (by decide)) e_) hs_));have n7_:=Aside0.mk (hb);clear HO_548001;clear HO_553001;clear HO_559001;clear BK536;clear BK547;clear BK552;clear BK558;clear HB;have HO_548001:=n0_;have HO_553001:=n1_;have HO_559001:=n2_;have BK536:=n3_;have BK547:=n4_;have BK552:=n5_;have BK558:=n6_;have HB:=n7_;clear n0_ n1_ n2_ n3_ n4_ n5_ n6_ n7_;(try clear hb);(try clear hkp);(try clear hy0);have hcz111_0:w110.cell? ⟨gb558,0,none⟩=some (.int .i64 t553):=(zz9 BK558.out 0).trans rfl;have hcz111_1:w110.cell? ⟨gb558,1,none⟩=some (.slice Ao38 t554.length co38):=(zz9 BK558.out 1).trans rfl;have hfz111_0:=zz10 BK558.out 0;have hfz111_1:=zz10 BK558.out 1) | ((with_reducible refine gate_callee (f:=29) rfl ?_);refine goesL_ (some 75) rfl rfl Try.func29 (by kernel_rfl) rfl #[.agg #[.int .i64 t553,.slice Ao38 t569.length co38],.int .i64 1] rfl (by (try simp only [zz26,zz27,zz28]);first | done | (rw [show t569.length=t554.length from (Kd.R_reads' HO_559001.out).1.symm] <;> rfl) | rfl | (simp only [zz24,zz25];rfl)) ?_;(with_reducible refine (laws_heldParty.calls kj61 t553 _ _ t569 1 t570 _ ?side1 ?side2 A93.out).mono ?_);(case side1=>repeat (first | exact (Kd.R_reads' HO_559001.out).2.2 | (with_reducible refine zz18 ?_ _) | (with_reducible refine zz19 ?_ _) | (with_reducible refine zz20 ?_)));(case side2=>rw [show t569.length=t554.length from (Kd.R_reads' HO_559001.out).1.symm];exact (Kd.R_reads' HO_559001.out).2.1);rintro e w112 ⟨rfl,hb⟩;refine ⟨_,rfl,?_⟩;have n0_:=Aside0.mk (Kd.R_below (by (with_reducible repeat (first | apply zz12 | apply zz13 | apply zz14));exact HO_548001.out) hb);have n1_:=Aside0.mk (Kd.R_below (by (with_reducible repeat (first | apply zz12 | apply zz13 | apply zz14));exact HO_553001.out) hb);have n2_:=Aside0.mk (Kd.R_below (by (with_reducible repeat (first | apply zz12 | apply zz13 | apply zz14));exact HO_559001.out) hb);have n3_:=Aside0.mk (zz11 (g:=gb536) (o:=.cells #[.int .i64 a0_0,.slice A0_1 l0_1.length c0_1] 24 (0,0)) (by (with_reducible repeat (first | refine zz6 ?_ _ | refine zz7 ?_ | refine zz8 ?_ _));exact BK536.out) hb);have n4_:=Aside0.mk (zz11 (g:=gb547) (o:=.cells #[.int .i64 t542,.slice Ao24 t543.length co24] 30 (0,0)) (by (with_reducible repeat (first | refine zz6 ?_ _ | refine zz7 ?_ | refine zz8 ?_ _));exact BK547.out) hb);have n5_:=Aside0.mk (zz11 (g:=gb552) (o:=.cells #[.int .i64 t548,.slice Ao31 t566.length co31] 30 (0,0)) (by (with_reducible repeat (first | refine zz6 ?_ _ | refine zz7 ?_ | refine zz8 ?_ _));exact BK552.out) hb);have n6_:=Aside0.mk (zz11 (g:=gb558) (o:=.cells #[.int .i64 t553,.slice Ao38 t554.length co38] 30 (0,0)) (by (with_reducible repeat (first | refine zz6 ?_ _ | refine zz7 ?_ | refine zz8 ?_ _));exact BK558.out) hb);have n7_:=Aside0.mk (zz4 (by repeat first | exact HB.out | apply zz2 | apply zz0 | apply zz1 | refine zz3 ?_ GE536.out | refine zz3 ?_ GE547.out | refine zz3 ?_ GE552.out | refine zz3 ?_ GE558.out) hb);clear HO_548001;clear HO_553001;clear HO_559001;clear BK536;clear BK547;clear BK552;clear BK558;clear HB;have HO_548001:=n0_;have HO_553001:=n1_;have HO_559001:=n2_;have BK536:=n3_;have BK547:=n4_;have BK552:=n5_;have BK558:=n6_;have HB:=n7_;clear n0_ n1_ n2_ n3_ n4_ n5_ n6_ n7_;(try clear hb);(try clear hb2);(try clear hk);(try clear hi);have hnb113:=NB536_547.out;have hnc113:=NB547_536.out;have hnb114:=NB536_552.out;have hnc114:=NB552_536.out;have hcz115_0:w112.cell? ⟨gb536,0,none⟩=some (.int .i64 a0_0):=(zz9 BK536.out 0).trans rfl;have hcz115_1:w112.cell? ⟨gb536,1,none⟩=some (.slice A0_1 l0_1.length c0_1):=(zz9 BK536.out 1).trans rfl;have hfz115_0:=zz10 BK536.out 0;have hfz115_1:=zz10 BK536.out 1) | ((with_reducible refine gate_callee (f:=14) rfl ?_);refine goesL_ (some 83) rfl rfl Try.func14 (by kernel_rfl) rfl #[.agg #[.int .i64 a0_0,.slice A0_1 l0_1.length c0_1]] rfl (by (try simp only [zz26,zz27,zz28]);first | done | rfl | (simp only [zz24,zz25];rfl) | (simp only [zz25];congr;(try simp only [decide_eq_true_eq] at *);omega)) ?_;(with_reducible refine (laws_toParty.calls kj61 a0_0 _ _ l0_1 t571 t572 _ ?side1 ?side2 A103.out).mono ?_);(case side1=>repeat (first | exact (Kd.C_below HR0_1.out HB.out) | (with_reducible refine zz18 ?_ _) | (with_reducible refine zz19 ?_ _) | (with_reducible refine zz20 ?_)));(case side2=>exact HC0_1.out);rintro e w116 ⟨v573,rfl,ho0,hb⟩;refine ⟨_,rfl,?_⟩;have n0_:=Aside0.mk (Kd.R_elder' (by (with_reducible repeat (first | apply zz12 | apply zz13 | apply zz14));exact HO_548001.out) (Kd.R_base ho0) hb);have n1_:=Aside0.mk (Kd.R_elder' (by (with_reducible repeat (first | apply zz12 | apply zz13 | apply zz14));exact HO_553001.out) (Kd.R_base ho0) hb);have n2_:=Aside0.mk (Kd.R_elder' (by (with_reducible repeat (first | apply zz12 | apply zz13 | apply zz14));exact HO_559001.out) (Kd.R_base ho0) hb);have n3_:=Aside0.mk (Kd.R_lower (Kd.R_new' (Kd.R_new' (Kd.R_new' ho0 (Kd.R_lt (by (with_reducible repeat (first | apply zz12 | apply zz13 | apply zz14));exact HO_548001.out))) (Kd.R_lt (by (with_reducible repeat (first | apply zz12 | apply zz13 | apply zz14));exact HO_553001.out))) (Kd.R_lt (by (with_reducible repeat (first | apply zz12 | apply zz13 | apply zz14));exact HO_559001.out))) (zz5 (by repeat first | exact HB.out | apply zz2 | apply zz0 | apply zz1 | refine zz3 ?_ GE536.out | refine zz3 ?_ GE547.out | refine zz3 ?_ GE552.out | refine zz3 ?_ GE558.out)));have n4_:=Aside0.mk (zz11 (g:=gb536) (o:=.cells #[.int .i64 a0_0,.slice A0_1 l0_1.length c0_1] 24 (0,0)) (by (with_reducible repeat (first | refine zz6 ?_ _ | refine zz7 ?_ | refine zz8 ?_ _));exact BK536.out) hb);have n5_:=Aside0.mk (zz11 (g:=gb547) (o:=.cells #[.int .i64 t542,.slice Ao24 t543.length co24] 30 (0,0)) (by (with_reducible repeat (first | refine zz6 ?_ _ | refine zz7 ?_ | refine zz8 ?_ _));exact BK547.out) hb);have n6_:=Aside0.mk (zz11 (g:=gb552) (o:=.cells #[.int .i64 t548,.slice Ao31 t566.length co31] 30 (0,0)) (by (with_reducible repeat (first | refine zz6 ?_ _ | refine zz7 ?_ | refine zz8 ?_ _));exact BK552.out) hb);have n7_:=Aside0.mk (zz11 (g:=gb558) (o:=.cells #[.int .i64 t553,.slice Ao38 t554.length co38] 30 (0,0)) (by (with_reducible repeat (first | refine zz6 ?_ _ | refine zz7 ?_ | refine zz8 ?_ _));exact BK558.out) hb);have n8_:=Aside0.mk (zz4 (by repeat first | exact HB.out | apply zz2 | apply zz0 | apply zz1 | refine zz3 ?_ GE536.out | refine zz3 ?_ GE547.out | refine zz3 ?_ GE552.out | refine zz3 ?_ GE558.out) hb);clear HO_548001;clear HO_553001;clear HO_559001;clear BK536;clear BK547;clear BK552;clear BK558;clear HB;have HO_548001:=n0_;have HO_553001:=n1_;have HO_559001:=n2_;have HO574:=n3_;have BK536:=n4_;have BK547:=n5_;have BK552:=n6_;have BK558:=n7_;have HB:=n8_;clear n0_ n1_ n2_ n3_ n4_ n5_ n6_ n7_ n8_;(try clear hb);(try clear hb2);(try clear hk);(try clear hi);(try clear ho0);obtain ⟨Ao117,co117,eo117⟩:=Kd.R_slice HO574.out;subst eo117) | ((with_reducible refine gate_callee (f:=33) rfl ?_);refine goesL_ (some 86) rfl rfl Try.func33 (by kernel_rfl) rfl #[.agg #[.int .i64 t571,.slice Ao117 t572.length co117],.int .i64 a1,.int .i64 a2] rfl (by (try simp only [zz26,zz27,zz28]);first | done | rfl | (simp only [zz24,zz25];rfl) | (simp only [zz25];congr;(try simp only [decide_eq_true_eq] at *);omega)) ?_;(with_reducible refine (impl_AddPair.calls kj61 t571 _ _ t572 a1 a2 t575 t576 t579 _ ?side1 ?side2 A104.out).mono ?_);(case side1=>repeat (first | exact (Kd.R_reads' HO574.out).2.2 | (with_reducible refine zz18 ?_ _) | (with_reducible refine zz19 ?_ _) | (with_reducible refine zz20 ?_)));(case side2=>exact (Kd.R_reads' HO574.out).2.1);rintro e w118 ⟨v577,rfl,ho0,hb⟩;refine ⟨_,rfl,?_⟩;have n0_:=Aside0.mk (Kd.R_elder' (by (with_reducible repeat (first | apply zz12 | apply zz13 | apply zz14));exact HO_548001.out) (Kd.R_base ho0) hb);have n1_:=Aside0.mk (Kd.R_elder' (by (with_reducible repeat (first | apply zz12 | apply zz13 | apply zz14));exact HO_553001.out) (Kd.R_base ho0) hb);have n2_:=Aside0.mk (Kd.R_elder' (by (with_reducible repeat (first | apply zz12 | apply zz13 | apply zz14));exact HO_559001.out) (Kd.R_base ho0) hb);have n3_:=Aside0.mk (Kd.R_elder' (by (with_reducible repeat (first | apply zz12 | apply zz13 | apply zz14));exact HO574.out) (Kd.R_base ho0) hb);have n4_:=Aside0.mk (Kd.R_lower (Kd.R_new' (Kd.R_new' (Kd.R_new' (Kd.R_new' ho0 (Kd.R_lt (by (with_reducible repeat (first | apply zz12 | apply zz13 | apply zz14));exact HO_548001.out))) (Kd.R_lt (by (with_reducible repeat (first | apply zz12 | apply zz13 | apply zz14));exact HO_553001.out))) (Kd.R_lt (by (with_reducible repeat (first | apply zz12 | apply zz13 | apply zz14));exact HO_559001.out))) (Kd.R_lt (by (with_reducible repeat (first | apply zz12 | apply zz13 | apply zz14));exact HO574.out))) (zz5 (by repeat first | exact HB.out | apply zz2 | apply zz0 | apply zz1 | refine zz3 ?_ GE536.out | refine zz3 ?_ GE547.out | refine zz3 ?_ GE552.out | refine zz3 ?_ GE558.out)));have n5_:=Aside0.mk (zz11 (g:=gb536) (o:=.cells #[.int .i64 a0_0,.slice A0_1 l0_1.length c0_1] 24 (0,0)) (by (with_reducible repeat (first | refine zz6 ?_ _ | refine zz7 ?_ | refine zz8 ?_ _));exact BK536.out) hb);have n6_:=Aside0.mk (zz11 (g:=gb547) (o:=.cells #[.int .i64 t542,.slice Ao24 t543.length co24] 30 (0,0)) (by (with_reducible repeat (first | refine zz6 ?_ _ | refine zz7 ?_ | refine zz8 ?_ _));exact BK547.out) hb);have n7_:=Aside0.mk (zz11 (g:=gb552) (o:=.cells #[.int .i64 t548,.slice Ao31 t566.length co31] 30 (0,0)) (by (with_reducible repeat (first | refine zz6 ?_ _ | refine zz7 ?_ | refine zz8 ?_ _));exact BK552.out) hb);have n8_:=Aside0.mk (zz11 (g:=gb558) (o:=.cells #[.int .i64 t553,.slice Ao38 t554.length co38] 30 (0,0)) (by (with_reducible repeat (first | refine zz6 ?_ _ | refine zz7 ?_ | refine zz8 ?_ _));exact BK558.out) hb);have n9_:=Aside0.mk (zz4 (by repeat first | exact HB.out | apply zz2 | apply zz0 | apply zz1 | refine zz3 ?_ GE536.out | refine zz3 ?_ GE547.out | refine zz3 ?_ GE552.out | refine zz3 ?_ GE558.out) hb);clear HO_548001;clear HO_553001;clear HO_559001;clear HO574;clear BK536;clear BK547;clear BK552;clear BK558;clear HB;have HO_548001:=n0_;have HO_553001:=n1_;have HO_559001:=n2_;have HO574:=n3_;have HO578:=n4_;have BK536:=n5_;have BK547:=n6_;have BK552:=n7_;have BK558:=n8_;have HB:=n9_;clear n0_ n1_ n2_ n3_ n4_ n5_ n6_ n7_ n8_ n9_;(try clear hb);(try clear hb2);(try clear hk);(try clear hi);(try clear ho0)) | ((with_reducible refine gate_dst (N:=16) rfl ?_);refine box_event ?hg (N:=16) ?hd (cs:=#[.int .i64 0,.slice none 0 0]) (t:=30) ?hr ?_;(case hd=>rfl);(case hg=>rfl);(case hr=>first | (go_simp;done) | (go_simp;rfl));intro gb580 hg w119 hbox hb;have n0_:=Aside0.mk (Kd.R_below (by (with_reducible repeat (first | apply zz12 | apply zz13 | apply zz14));exact HO_548001.out) hb);have n1_:=Aside0.mk (Kd.R_below (by (with_reducible repeat (first | apply zz12 | apply zz13 | apply zz14));exact HO_553001.out) hb);have n2_:=Aside0.mk (Kd.R_below (by (with_reducible repeat (first | apply zz12 | apply zz13 | apply zz14));exact HO_559001.out) hb);have n3_:=Aside0.mk (Kd.R_below (by (with_reducible repeat (first | apply zz12 | apply zz13 | apply zz14));exact HO574.out) hb);have n4_:=Aside0.mk (Kd.R_below (by (with_reducible repeat (first | apply zz12 | apply zz13 | apply zz14));exact HO578.out) hb);have n5_:=Aside0.mk (zz11 (g:=gb536) (o:=.cells #[.int .i64 a0_0,.slice A0_1 l0_1.length c0_1] 24 (0,0)) (by (with_reducible repeat (first | refine zz6 ?_ _ | refine zz7 ?_ | refine zz8 ?_ _));exact BK536.out) hb);have n6_:=Aside0.mk (zz11 (g:=gb547) (o:=.cells #[.int .i64 t542,.slice Ao24 t543.length co24] 30 (0,0)) (by (with_reducible repeat (first | refine zz6 ?_ _ | refine zz7 ?_ | refine zz8 ?_ _));exact BK547.out) hb);have n7_:=Aside0.mk (zz11 (g:=gb552) (o:=.cells #[.int .i64 t548,.slice Ao31 t566.length co31] 30 (0,0)) (by (with_reducible repeat (first | refine zz6 ?_ _ | refine zz7 ?_ | refine zz8 ?_ _));exact BK552.out) hb);have n8_:=Aside0.mk (zz11 (g:=gb558) (o:=.cells #[.int .i64 t553,.slice Ao38 t554.length co38] 30 (0,0)) (by (with_reducible repeat (first | refine zz6 ?_ _ | refine zz7 ?_ | refine zz8 ?_ _));exact BK558.out) hb);have n9_:=Aside0.mk (zz4 (by repeat first | exact HB.out | apply zz2 | apply zz0 | apply zz1 | refine zz3 ?_ GE536.out | refine zz3 ?_ GE547.out | refine zz3 ?_ GE552.out | refine zz3 ?_ GE558.out) hb);have n10_:=Aside0.mk (hbox);have n11_:=Aside0.mk ((by rw [hg];exact (zz5 (by repeat first | exact HB.out | apply zz2 | apply zz0 | apply zz1 | refine zz3 ?_ GE536.out | refine zz3 ?_ GE547.out | refine zz3 ?_ GE552.out | refine zz3 ?_ GE558.out)):w.heap.size≤gb580));have n12_:=Aside0.mk ((by rw [hg];exact (zz5 (by repeat first | exact HB.out | apply zz2 | apply zz0 | apply zz1 | refine zz3 ?_ GE536.out | refine zz3 ?_ GE547.out | refine zz3 ?_ GE552.out | refine zz3 ?_ GE558.out)):w.heap.size≤gb580));have n13_:=Aside0.mk ((by rw [hg];exact Nat.ne_of_lt (blk_lt (g:=gb536) (o:=.cells #[.int .i64 a0_0,.slice A0_1 l0_1.length c0_1] 24 (0,0)) (by (with_reducible repeat (first | refine zz6 ?_ _ | refine zz7 ?_ | refine zz8 ?_ _));exact BK536.out)):gb536 ≠ gb580));have n14_:=Aside0.mk ((by rw [hg];exact Nat.ne_of_gt (blk_lt (g:=gb536) (o:=.cells #[.int .i64 a0_0,.slice A0_1 l0_1.length c0_1] 24 (0,0)) (by (with_reducible repeat (first | refine zz6 ?_ _ | refine zz7 ?_ | refine zz8 ?_ _));exact BK536.out)):gb580 ≠ gb536));have n15_:=Aside0.mk ((by rw [hg];exact Nat.ne_of_lt (blk_lt (g:=gb547) (o:=.cells #[.int .i64 t542,.slice Ao24 t543.length co24] 30 (0,0)) (by (with_reducible repeat (first | refine zz6 ?_ _ | refine zz7 ?_ | refine zz8 ?_ _));exact BK547.out)):gb547 ≠ gb580));have n16_:=Aside0.mk ((by rw [hg];exact Nat.ne_of_gt (blk_lt (g:=gb547) (o:=.cells #[.int .i64 t542,.slice Ao24 t543.length co24] 30 (0,0)) (by (with_reducible repeat (first | refine zz6 ?_ _ | refine zz7 ?_ | refine zz8 ?_ _));exact BK547.out)):gb580 ≠ gb547));have n17_:=Aside0.mk ((by rw [hg];exact Nat.ne_of_lt (blk_lt (g:=gb552) (o:=.cells #[.int .i64 t548,.slice Ao31 t566.length co31] 30 (0,0)) (by (with_reducible repeat (first | refine zz6 ?_ _ | refine zz7 ?_ | refine zz8 ?_ _));exact BK552.out)):gb552 ≠ gb580));have n18_:=Aside0.mk ((by rw [hg];exact Nat.ne_of_gt (blk_lt (g:=gb552) (o:=.cells #[.int .i64 t548,.slice Ao31 t566.length co31] 30 (0,0)) (by (with_reducible repeat (first | refine zz6 ?_ _ | refine zz7 ?_ | refine zz8 ?_ _));exact BK552.out)):gb580 ≠ gb552));have n19_:=Aside0.mk ((by rw [hg];exact Nat.ne_of_lt (blk_lt (g:=gb558) (o:=.cells #[.int .i64 t553,.slice Ao38 t554.length co38] 30 (0,0)) (by (with_reducible repeat (first | refine zz6 ?_ _ | refine zz7 ?_ | refine zz8 ?_ _));exact BK558.out)):gb558 ≠ gb580));have n20_:=Aside0.mk ((by rw [hg];exact Nat.ne_of_gt (blk_lt (g:=gb558) (o:=.cells #[.int .i64 t553,.slice Ao38 t554.length co38] 30 (0,0)) (by (with_reducible repeat (first | refine zz6 ?_ _ | refine zz7 ?_ | refine zz8 ?_ _));exact BK558.out)):gb580 ≠ gb558));clear HO_548001;clear HO_553001;clear HO_559001;clear HO574;clear HO578;clear BK536;clear BK547;clear BK552;clear BK558;clear HB;have HO_548001:=n0_;have HO_553001:=n1_;have HO_559001:=n2_;have HO574:=n3_;have HO578:=n4_;have BK536:=n5_;have BK547:=n6_;have BK552:=n7_;have BK558:=n8_;have HB:=n9_;have BK580:=n10_;have GW580:=n11_;have GE580:=n12_;have NB536_580:=n13_;have NB580_536:=n14_;have NB547_580:=n15_;have NB580_547:=n16_;have NB552_580:=n17_;have NB580_552:=n18_;have NB558_580:=n19_;have NB580_558:=n20_;clear n0_ n1_ n2_ n3_ n4_ n5_ n6_ n7_ n8_ n9_ n10_ n11_ n12_ n13_ n14_ n15_ n16_ n17_ n18_ n19_ n20_;clear hb hbox hg;have hnb120:=NB580_536.out;have hnc120:=NB536_580.out;have hnb121:=NB580_547.out;have hnc121:=NB547_580.out;have hnb122:=NB580_552.out;have hnc122:=NB552_580.out;have hnb123:=NB580_558.out;have hnc123:=NB558_580.out;have hcz124_0:w119.cell? ⟨gb580,0,none⟩=some (.int .i64 0):=(zz9 BK580.out 0).trans rfl;have hcz124_1:w119.cell? ⟨gb580,1,none⟩=some (.slice none 0 0):=(zz9 BK580.out 1).trans rfl;have hfz124_0:=zz10 BK580.out 0;have hfz124_1:=zz10 BK580.out 1;obtain ⟨Ao125,co125,eo125⟩:=Kd.R_slice HO578.out;subst eo125))
           (try simp only [Act.put,zz21,zz22,zz23])
           go_cut [97] (fun v97 wc=>∃ (kq:Nat) (x97_104:Bool),v97=.bool x97_104∧Aside0 (laws_FnExactAddPair.j2 kq t568 x97_104 t553 t569=some r)∧Aside0 (kq≤kj61)∧Aside0 (Kd.R k80 80 wc w.heap.size (fun k_=>some k_ ≠ ((.slice Ao31 t566.length co31):Value).ownBlock∧some k_ ≠ ((.slice Ao38 t554.length co38):Value).ownBlock∧some k_ ≠ ((.slice Ao125 t576.length co125):Value).ownBlock) (.slice Ao24 t543.length co24) t543)∧Aside0 (Kd.R k80 80 wc w.heap.size (fun k_=>some k_ ≠ ((.slice Ao24 t543.length co24):Value).ownBlock∧some k_ ≠ ((.slice Ao38 t554.length co38):Value).ownBlock∧some k_ ≠ ((.slice Ao125 t576.length co125):Value).ownBlock) (.slice Ao31 t566.length co31) t566)∧Aside0 (Kd.R k80 80 wc w.heap.size (fun k_=>some k_ ≠ ((.slice Ao24 t543.length co24):Value).ownBlock∧some k_ ≠ ((.slice Ao31 t566.length co31):Value).ownBlock∧some k_ ≠ ((.slice Ao125 t576.length co125):Value).ownBlock) (.slice Ao38 t554.length co38) t569)∧Aside0 (Kd.R k80 80 wc w.heap.size (fun k_=>some k_ ≠ ((.slice Ao24 t543.length co24):Value).ownBlock∧some k_ ≠ ((.slice Ao31 t566.length co31):Value).ownBlock∧some k_ ≠ ((.slice Ao38 t554.length co38):Value).ownBlock) (.slice Ao125 t576.length co125) t576)∧Aside0 (wc.heap[gb536]?=some (.cells #[.int .i64 a0_0,(.slice A0_1 l0_1.length c0_1)] 24 (0,0)))∧Aside0 (wc.heap[gb547]?=some (.cells #[.int .i64 t542,(.slice Ao24 t543.length co24)] 30 (0,0)))∧Aside0 (wc.heap[gb552]?=some (.cells #[.int .i64 t548,(.slice Ao31 t566.length co31)] 30 (0,0)))∧Aside0 (wc.heap[gb558]?=some (.cells #[.int .i64 t553,(.slice Ao38 t554.length co38)] 30 (0,0)))∧Aside0 (wc.heap[gb580]?=some (.cells #[.int .i64 t575,(.slice Ao125 t576.length co125)] 30 (0,0)))∧Aside0 (Below w.heap.size w wc))
           case first =>
            have H:=HC105.out
            clear HC105
            replace H:=zz30.mp H
            obtain ⟨t581,A1260,H⟩:=H
            replace H:(if t581=true then (laws_FnExactAddPair.j2 kj61 t568 (t579 != t546) t553 t569) else (laws_FnExactAddPair.j2 kj61 t568 true t553 t569))=some r:=H
            have A126:=Aside0.mk A1260
            clear A1260
            by_cases c127:t581=true
            ·subst c127
             have H1:(laws_FnExactAddPair.j2 kj61 t568 (t579 != t546) t553 t569)=some r:=by rw [if_pos rfl] at H;exact H
             clear H
             have H:=H1
             clear H1
             have H':=Aside0.mk H
             clear H
             have hnb128:=NB580_536.out
             have hnc128:=NB536_580.out
             have hnb129:=NB580_547.out
             have hnc129:=NB547_580.out
             have hnb130:=NB580_552.out
             have hnc130:=NB552_580.out
             have hnb131:=NB580_558.out
             have hnc131:=NB558_580.out
             have hcz132_0:w119.cell? ⟨gb580,0,none⟩=some (.int .i64 0):=(zz9 BK580.out 0).trans rfl
             have hcz132_1:w119.cell? ⟨gb580,1,none⟩=some (.slice none 0 0):=(zz9 BK580.out 1).trans rfl
             have hfz132_0:=zz10 BK580.out 0
             have hfz132_1:=zz10 BK580.out 1
             have hnb133:=NB547_536.out
             have hnc133:=NB536_547.out
             have hnb134:=NB547_552.out
             have hnc134:=NB552_547.out
             have hnb135:=NB547_558.out
             have hnc135:=NB558_547.out
             have hcz136_0:w119.cell? ⟨gb547,0,none⟩=some (.int .i64 t542):=(zz9 BK547.out 0).trans rfl
             have hcz136_1:w119.cell? ⟨gb547,1,none⟩=some (.slice Ao24 t543.length co24):=(zz9 BK547.out 1).trans rfl
             have hfz136_0:=zz10 BK547.out 0
             have hfz136_1:=zz10 BK547.out 1
             go_wp2_with (first | ((with_reducible refine gate_callee (f:=16) rfl ?_);refine goesL_ (some 91) rfl rfl Try.func16 (by kernel_rfl) rfl #[.agg #[.int .i64 t575,.slice Ao125 t576.length co125],.agg #[.int .i64 t542,.slice Ao24 t543.length co24]] rfl (by (try simp only [zz26,zz27,zz28]);first | done | rfl | (simp only [zz24,zz25];rfl) | (simp only [zz25];congr;(try simp only [decide_eq_true_eq] at *);omega)) ?_;(with_reducible refine (laws_eqParty.calls kj61 t575 _ _ t576 t542 _ _ t543 true _ ?side1 ?side2 ?side3 ?side4 A126.out).mono ?_);(case side1=>refine (Kd.R_reads' (e:=80) (base:=w.heap.size) (ok:=fun k_=>((((True∧some k_ ≠ (.slice Ao24 t543.length co24:Value).ownBlock)∧some k_ ≠ (.slice Ao31 t566.length co31:Value).ownBlock)∧some k_ ≠ (.slice Ao38 t554.length co38:Value).ownBlock)∧some k_ ≠ (.slice Ao117 t572.length co117:Value).ownBlock)) (n:=t576.length) (c:=co125) ?_).2.2;exact (by (with_reducible repeat (first | apply zz12 | apply zz13 | apply zz14));exact (Kd.R_mono (Kd.R_far (p:=⟨gb580,1,none⟩) (Kd.R_far (p:=⟨gb580,0,none⟩) (Kd.R_types HO578.out BK580.out (by decide)) (fun _ hk=>hk.2) (.int .i64 t575)) (fun _ hk=>hk.2) (.slice Ao125 t576.length co125)) (fun _ h_=>h_.1))));(case side2=>exact (Kd.R_reads' HO578.out).2.1);(case side3=>refine (Kd.R_reads' (e:=80) (base:=w.heap.size) (ok:=fun k_=>(((some k_ ≠ (.slice Ao31 t566.length co31:Value).ownBlock∧some k_ ≠ (.slice Ao38 t554.length co38:Value).ownBlock)∧some k_ ≠ (.slice Ao117 t572.length co117:Value).ownBlock)∧some k_ ≠ (.slice Ao125 t576.length co125:Value).ownBlock)) (n:=t543.length) (c:=co24) ?_).2.2;exact (by (with_reducible repeat (first | apply zz12 | apply zz13 | apply zz14));exact (Kd.R_mono (Kd.R_far (p:=⟨gb580,1,none⟩) (Kd.R_far (p:=⟨gb580,0,none⟩) (Kd.R_types HO_548001.out BK580.out (by decide)) (fun _ hk=>hk.2) (.int .i64 t575)) (fun _ hk=>hk.2) (.slice Ao125 t576.length co125)) (fun _ h_=>h_.1))));(case side4=>exact (Kd.R_reads' HO_548001.out).2.1);rintro e w137 ⟨rfl,hb⟩;refine ⟨_,rfl,?_⟩;have n0_:=Aside0.mk (Kd.R_below (by (with_reducible repeat (first | apply zz12 | apply zz13 | apply zz14));exact (Kd.R_mono (Kd.R_far (p:=⟨gb580,1,none⟩) (Kd.R_far (p:=⟨gb580,0,none⟩) (Kd.R_types HO_548001.out BK580.out (by decide)) (fun _ hk=>hk.2) (.int .i64 t575)) (fun _ hk=>hk.2) (.slice Ao125 t576.length co125)) (fun _ h_=>h_.1))) hb);have n1_:=Aside0.mk (Kd.R_below (by (with_reducible repeat (first | apply zz12 | apply zz13 | apply zz14));exact (Kd.R_mono (Kd.R_far (p:=⟨gb580,1,none⟩) (Kd.R_far (p:=⟨gb580,0,none⟩) (Kd.R_types HO_553001.out BK580.out (by decide)) (fun _ hk=>hk.2) (.int .i64 t575)) (fun _ hk=>hk.2) (.slice Ao125 t576.length co125)) (fun _ h_=>h_.1))) hb);have n2_:=Aside0.mk (Kd.R_below (by (with_reducible repeat (first | apply zz12 | apply zz13 | apply zz14));exact (Kd.R_mono (Kd.R_far (p:=⟨gb580,1,none⟩) (Kd.R_far (p:=⟨gb580,0,none⟩) (Kd.R_types HO_559001.out BK580.out (by decide)) (fun _ hk=>hk.2) (.int .i64 t575)) (fun _ hk=>hk.2) (.slice Ao125 t576.length co125)) (fun _ h_=>h_.1))) hb);have n3_:=Aside0.mk (Kd.R_below (by (with_reducible repeat (first | apply zz12 | apply zz13 | apply zz14));exact (Kd.R_mono (Kd.R_far (p:=⟨gb580,1,none⟩) (Kd.R_far (p:=⟨gb580,0,none⟩) (Kd.R_types HO574.out BK580.out (by decide)) (fun _ hk=>hk.2) (.int .i64 t575)) (fun _ hk=>hk.2) (.slice Ao125 t576.length co125)) (fun _ h_=>h_.1))) hb);have n4_:=Aside0.mk (Kd.R_below (by (with_reducible repeat (first | apply zz12 | apply zz13 | apply zz14));exact (Kd.R_mono (Kd.R_far (p:=⟨gb580,1,none⟩) (Kd.R_far (p:=⟨gb580,0,none⟩) (Kd.R_types HO578.out BK580.out (by decide)) (fun _ hk=>hk.2) (.int .i64 t575)) (fun _ hk=>hk.2) (.slice Ao125 t576.length co125)) (fun _ h_=>h_.1))) hb);have n5_:=Aside0.mk (zz11 (g:=gb536) (o:=.cells #[.int .i64 a0_0,.slice A0_1 l0_1.length c0_1] 24 (0,0)) (by (with_reducible repeat (first | refine zz6 ?_ _ | refine zz7 ?_ | refine zz8 ?_ _));refine blk_far ?_ NB536_580.out _;(with_reducible repeat (first | refine zz6 ?_ _ | refine zz7 ?_ | refine zz8 ?_ _));refine blk_far ?_ NB536_580.out _;(with_reducible repeat (first | refine zz6 ?_ _ | refine zz7 ?_ | refine zz8 ?_ _));exact BK536.out) hb);have n6_:=Aside0.mk (zz11 (g:=gb547) (o:=.cells #[.int .i64 t542,.slice Ao24 t543.length co24] 30 (0,0)) (by (with_reducible repeat (first | refine zz6 ?_ _ | refine zz7 ?_ | refine zz8 ?_ _));refine blk_far ?_ NB547_580.out _;(with_reducible repeat (first | refine zz6 ?_ _ | refine zz7 ?_ | refine zz8 ?_ _));refine blk_far ?_ NB547_580.out _;(with_reducible repeat (first | refine zz6 ?_ _ | refine zz7 ?_ | refine zz8 ?_ _));exact BK547.out) hb);have n7_:=Aside0.mk (zz11 (g:=gb552) (o:=.cells #[.int .i64 t548,.slice Ao31 t566.length co31] 30 (0,0)) (by (with_reducible repeat (first | refine zz6 ?_ _ | refine zz7 ?_ | refine zz8 ?_ _));refine blk_far ?_ NB552_580.out _;(with_reducible repeat (first | refine zz6 ?_ _ | refine zz7 ?_ | refine zz8 ?_ _));refine blk_far ?_ NB552_580.out _;(with_reducible repeat (first | refine zz6 ?_ _ | refine zz7 ?_ | refine zz8 ?_ _));exact BK552.out) hb);have n8_:=Aside0.mk (zz11 (g:=gb558) (o:=.cells #[.int .i64 t553,.slice Ao38 t554.length co38] 30 (0,0)) (by (with_reducible repeat (first | refine zz6 ?_ _ | refine zz7 ?_ | refine zz8 ?_ _));refine blk_far ?_ NB558_580.out _;(with_reducible repeat (first | refine zz6 ?_ _ | refine zz7 ?_ | refine zz8 ?_ _));refine blk_far ?_ NB558_580.out _;(with_reducible repeat (first | refine zz6 ?_ _ | refine zz7 ?_ | refine zz8 ?_ _));exact BK558.out) hb);have n9_:=Aside0.mk (zz11 (g:=gb580) (o:=.cells #[.int .i64 t575,.slice Ao125 t576.length co125] 30 (0,0)) (by (with_reducible repeat (first | refine zz6 ?_ _ | refine zz7 ?_ | refine zz8 ?_ _));refine blk_put (cs:=#[.int .i64 t575,.slice none 0 0]) ?_ 1 _ rfl;(with_reducible repeat (first | refine zz6 ?_ _ | refine zz7 ?_ | refine zz8 ?_ _));refine blk_put (cs:=#[.int .i64 0,.slice none 0 0]) ?_ 0 _ rfl;(with_reducible repeat (first | refine zz6 ?_ _ | refine zz7 ?_ | refine zz8 ?_ _));exact BK580.out) hb);have n10_:=Aside0.mk (zz4 (by repeat first | exact HB.out | apply zz2 | apply zz0 | apply zz1 | refine zz3 ?_ GE536.out | refine zz3 ?_ GE547.out | refine zz3 ?_ GE552.out | refine zz3 ?_ GE558.out | refine zz3 ?_ GE580.out) hb);clear HO_548001;clear HO_553001;clear HO_559001;clear HO574;clear HO578;clear BK536;clear BK547;clear BK552;clear BK558;clear BK580;clear HB;have HO_548001:=n0_;have HO_553001:=n1_;have HO_559001:=n2_;have HO574:=n3_;have HO578:=n4_;have BK536:=n5_;have BK547:=n6_;have BK552:=n7_;have BK558:=n8_;have BK580:=n9_;have HB:=n10_;clear n0_ n1_ n2_ n3_ n4_ n5_ n6_ n7_ n8_ n9_ n10_;(try clear hb);(try clear hb2);(try clear hk);(try clear hi)))
             go_meet
             case rel=>exact ⟨_,((t579 != t546)),(by first | rfl | (simp;done) | (simp [*];done)),H',⟨by have:=HJ12.out;have:=HJ61.out;first | omega | exact Nat.le_refl _⟩,⟨by (try simp only [hl553001_61]);(with_reducible repeat (first | apply zz12 | apply zz13 | apply zz14));exact Kd.R_mono HO_548001.out (fun _ hk=>⟨hk.1.1.1,⟨hk.1.1.2,hk.2⟩⟩)⟩,⟨by (try simp only [hl553001_61]);(with_reducible repeat (first | apply zz12 | apply zz13 | apply zz14));exact Kd.R_mono HO_553001.out (fun _ hk=>⟨hk.1.1.1,⟨hk.1.1.2,hk.2⟩⟩)⟩,⟨by (try simp only [hl553001_61]);(with_reducible repeat (first | apply zz12 | apply zz13 | apply zz14));exact Kd.R_mono HO_559001.out (fun _ hk=>⟨hk.1.1.1,⟨hk.1.1.2,hk.2⟩⟩)⟩,⟨by (try simp only [hl553001_61]);(with_reducible repeat (first | apply zz12 | apply zz13 | apply zz14));exact Kd.R_mono HO578.out (fun _ hk=>⟨hk.1.1.1.2,⟨hk.1.1.2,hk.1.2⟩⟩)⟩,⟨by (try simp only [hl553001_61]);(with_reducible repeat (first | refine zz6 ?_ _ | refine zz7 ?_ | refine zz8 ?_ _));exact BK536.out⟩,⟨by (try simp only [hl553001_61]);(with_reducible repeat (first | refine zz6 ?_ _ | refine zz7 ?_ | refine zz8 ?_ _));exact BK547.out⟩,⟨by (try simp only [hl553001_61]);(with_reducible repeat (first | refine zz6 ?_ _ | refine zz7 ?_ | refine zz8 ?_ _));exact BK552.out⟩,⟨by (try simp only [hl553001_61]);(with_reducible repeat (first | refine zz6 ?_ _ | refine zz7 ?_ | refine zz8 ?_ _));exact BK558.out⟩,⟨by (try simp only [hl553001_61]);(with_reducible repeat (first | refine zz6 ?_ _ | refine zz7 ?_ | refine zz8 ?_ _));exact BK580.out⟩,⟨by repeat first | exact HB.out | apply zz2 | apply zz0 | apply zz1 | refine zz3 ?_ GE536.out | refine zz3 ?_ GE547.out | refine zz3 ?_ GE552.out | refine zz3 ?_ GE558.out | refine zz3 ?_ GE580.out⟩⟩
            ·replace c127:=Bool.eq_false_iff.mpr c127
             subst c127
             have H1:(laws_FnExactAddPair.j2 kj61 t568 true t553 t569)=some r:=by rw [if_neg (show ¬ (false=true) by decide)] at H;exact H
             clear H
             have H:=H1
             clear H1
             have H':=Aside0.mk H
             clear H
             have hnb138:=NB580_536.out
             have hnc138:=NB536_580.out
             have hnb139:=NB580_547.out
             have hnc139:=NB547_580.out
             have hnb140:=NB580_552.out
             have hnc140:=NB552_580.out
             have hnb141:=NB580_558.out
             have hnc141:=NB558_580.out
             have hcz142_0:w119.cell? ⟨gb580,0,none⟩=some (.int .i64 0):=(zz9 BK580.out 0).trans rfl
             have hcz142_1:w119.cell? ⟨gb580,1,none⟩=some (.slice none 0 0):=(zz9 BK580.out 1).trans rfl
             have hfz142_0:=zz10 BK580.out 0
             have hfz142_1:=zz10 BK580.out 1
             have hnb143:=NB547_536.out
             have hnc143:=NB536_547.out
             have hnb144:=NB547_552.out
             have hnc144:=NB552_547.out
             have hnb145:=NB547_558.out
             have hnc145:=NB558_547.out
             have hcz146_0:w119.cell? ⟨gb547,0,none⟩=some (.int .i64 t542):=(zz9 BK547.out 0).trans rfl
             have hcz146_1:w119.cell? ⟨gb547,1,none⟩=some (.slice Ao24 t543.length co24):=(zz9 BK547.out 1).trans rfl
             have hfz146_0:=zz10 BK547.out 0
             have hfz146_1:=zz10 BK547.out 1
             go_wp2_with (first | ((with_reducible refine gate_callee (f:=16) rfl ?_);refine goesL_ (some 91) rfl rfl Try.func16 (by kernel_rfl) rfl #[.agg #[.int .i64 t575,.slice Ao125 t576.length co125],.agg #[.int .i64 t542,.slice Ao24 t543.length co24]] rfl (by (try simp only [zz26,zz27,zz28]);first | done | rfl | (simp only [zz24,zz25];rfl) | (simp only [zz25];congr;(try simp only [decide_eq_true_eq] at *);omega)) ?_;(with_reducible refine (laws_eqParty.calls kj61 t575 _ _ t576 t542 _ _ t543 false _ ?side1 ?side2 ?side3 ?side4 A126.out).mono ?_);(case side1=>refine (Kd.R_reads' (e:=80) (base:=w.heap.size) (ok:=fun k_=>((((True∧some k_ ≠ (.slice Ao24 t543.length co24:Value).ownBlock)∧some k_ ≠ (.slice Ao31 t566.length co31:Value).ownBlock)∧some k_ ≠ (.slice Ao38 t554.length co38:Value).ownBlock)∧some k_ ≠ (.slice Ao117 t572.length co117:Value).ownBlock)) (n:=t576.length) (c:=co125) ?_).2.2;exact (by (with_reducible repeat (first | apply zz12 | apply zz13 | apply zz14));exact (Kd.R_mono (Kd.R_far (p:=⟨gb580,1,none⟩) (Kd.R_far (p:=⟨gb580,0,none⟩) (Kd.R_types HO578.out BK580.out (by decide)) (fun _ hk=>hk.2) (.int .i64 t575)) (fun _ hk=>hk.2) (.slice Ao125 t576.length co125)) (fun _ h_=>h_.1))));(case side2=>exact (Kd.R_reads' HO578.out).2.1);(case side3=>refine (Kd.R_reads' (e:=80) (base:=w.heap.size) (ok:=fun k_=>(((some k_ ≠ (.slice Ao31 t566.length co31:Value).ownBlock∧some k_ ≠ (.slice Ao38 t554.length co38:Value).ownBlock)∧some k_ ≠ (.slice Ao117 t572.length co117:Value).ownBlock)∧some k_ ≠ (.slice Ao125 t576.length co125:Value).ownBlock)) (n:=t543.length) (c:=co24) ?_).2.2;exact (by (with_reducible repeat (first | apply zz12 | apply zz13 | apply zz14));exact (Kd.R_mono (Kd.R_far (p:=⟨gb580,1,none⟩) (Kd.R_far (p:=⟨gb580,0,none⟩) (Kd.R_types HO_548001.out BK580.out (by decide)) (fun _ hk=>hk.2) (.int .i64 t575)) (fun _ hk=>hk.2) (.slice Ao125 t576.length co125)) (fun _ h_=>h_.1))));(case side4=>exact (Kd.R_reads' HO_548001.out).2.1);rintro e w147 ⟨rfl,hb⟩;refine ⟨_,rfl,?_⟩;have n0_:=Aside0.mk (Kd.R_below (by (with_reducible repeat (first | apply zz12 | apply zz13 | apply zz14));exact (Kd.R_mono (Kd.R_far (p:=⟨gb580,1,none⟩) (Kd.R_far (p:=⟨gb580,0,none⟩) (Kd.R_types HO_548001.out BK580.out (by decide)) (fun _ hk=>hk.2) (.int .i64 t575)) (fun _ hk=>hk.2) (.slice Ao125 t576.length co125)) (fun _ h_=>h_.1))) hb);have n1_:=Aside0.mk (Kd.R_below (by (with_reducible repeat (first | apply zz12 | apply zz13 | apply zz14));exact (Kd.R_mono (Kd.R_far (p:=⟨gb580,1,none⟩) (Kd.R_far (p:=⟨gb580,0,none⟩) (Kd.R_types HO_553001.out BK580.out (by decide)) (fun _ hk=>hk.2) (.int .i64 t575)) (fun _ hk=>hk.2) (.slice Ao125 t576.length co125)) (fun _ h_=>h_.1))) hb);have n2_:=Aside0.mk (Kd.R_below (by (with_reducible repeat (first | apply zz12 | apply zz13 | apply zz14));exact (Kd.R_mono (Kd.R_far (p:=⟨gb580,1,none⟩) (Kd.R_far (p:=⟨gb580,0,none⟩) (Kd.R_types HO_559001.out BK580.out (by decide)) (fun _ hk=>hk.2) (.int .i64 t575)) (fun _ hk=>hk.2) (.slice Ao125 t576.length co125)) (fun _ h_=>h_.1))) hb);have n3_:=Aside0.mk (Kd.R_below (by (with_reducible repeat (first | apply zz12 | apply zz13 | apply zz14));exact (Kd.R_mono (Kd.R_far (p:=⟨gb580,1,none⟩) (Kd.R_far (p:=⟨gb580,0,none⟩) (Kd.R_types HO574.out BK580.out (by decide)) (fun _ hk=>hk.2) (.int .i64 t575)) (fun _ hk=>hk.2) (.slice Ao125 t576.length co125)) (fun _ h_=>h_.1))) hb);have n4_:=Aside0.mk (Kd.R_below (by (with_reducible repeat (first | apply zz12 | apply zz13 | apply zz14));exact (Kd.R_mono (Kd.R_far (p:=⟨gb580,1,none⟩) (Kd.R_far (p:=⟨gb580,0,none⟩) (Kd.R_types HO578.out BK580.out (by decide)) (fun _ hk=>hk.2) (.int .i64 t575)) (fun _ hk=>hk.2) (.slice Ao125 t576.length co125)) (fun _ h_=>h_.1))) hb);have n5_:=Aside0.mk (zz11 (g:=gb536) (o:=.cells #[.int .i64 a0_0,.slice A0_1 l0_1.length c0_1] 24 (0,0)) (by (with_reducible repeat (first | refine zz6 ?_ _ | refine zz7 ?_ | refine zz8 ?_ _));refine blk_far ?_ NB536_580.out _;(with_reducible repeat (first | refine zz6 ?_ _ | refine zz7 ?_ | refine zz8 ?_ _));refine blk_far ?_ NB536_580.out _;(with_reducible repeat (first | refine zz6 ?_ _ | refine zz7 ?_ | refine zz8 ?_ _));exact BK536.out) hb);have n6_:=Aside0.mk (zz11 (g:=gb547) (o:=.cells #[.int .i64 t542,.slice Ao24 t543.length co24] 30 (0,0)) (by (with_reducible repeat (first | refine zz6 ?_ _ | refine zz7 ?_ | refine zz8 ?_ _));refine blk_far ?_ NB547_580.out _;(with_reducible repeat (first | refine zz6 ?_ _ | refine zz7 ?_ | refine zz8 ?_ _));refine blk_far ?_ NB547_580.out _;(with_reducible repeat (first | refine zz6 ?_ _ | refine zz7 ?_ | refine zz8 ?_ _));exact BK547.out) hb);have n7_:=Aside0.mk (zz11 (g:=gb552) (o:=.cells #[.int .i64 t548,.slice Ao31 t566.length co31] 30 (0,0)) (by (with_reducible repeat (first | refine zz6 ?_ _ | refine zz7 ?_ | refine zz8 ?_ _));refine blk_far ?_ NB552_580.out _;(with_reducible repeat (first | refine zz6 ?_ _ | refine zz7 ?_ | refine zz8 ?_ _));refine blk_far ?_ NB552_580.out _;(with_reducible repeat (first | refine zz6 ?_ _ | refine zz7 ?_ | refine zz8 ?_ _));exact BK552.out) hb);have n8_:=Aside0.mk (zz11 (g:=gb558) (o:=.cells #[.int .i64 t553,.slice Ao38 t554.length co38] 30 (0,0)) (by (with_reducible repeat (first | refine zz6 ?_ _ | refine zz7 ?_ | refine zz8 ?_ _));refine blk_far ?_ NB558_580.out _;(with_reducible repeat (first | refine zz6 ?_ _ | refine zz7 ?_ | refine zz8 ?_ _));refine blk_far ?_ NB558_580.out _;(with_reducible repeat (first | refine zz6 ?_ _ | refine zz7 ?_ | refine zz8 ?_ _));exact BK558.out) hb);have n9_:=Aside0.mk (zz11 (g:=gb580) (o:=.cells #[.int .i64 t575,.slice Ao125 t576.length co125] 30 (0,0)) (by (with_reducible repeat (first | refine zz6 ?_ _ | refine zz7 ?_ | refine zz8 ?_ _));refine blk_put (cs:=#[.int .i64 t575,.slice none 0 0]) ?_ 1 _ rfl;(with_reducible repeat (first | refine zz6 ?_ _ | refine zz7 ?_ | refine zz8 ?_ _));refine blk_put (cs:=#[.int .i64 0,.slice none 0 0]) ?_ 0 _ rfl;(with_reducible repeat (first | refine zz6 ?_ _ | refine zz7 ?_ | refine zz8 ?_ _));exact BK580.out) hb);have n10_:=Aside0.mk (zz4 (by repeat first | exact HB.out | apply zz2 | apply zz0 | apply zz1 | refine zz3 ?_ GE536.out | refine zz3 ?_ GE547.out | refine zz3 ?_ GE552.out | refine zz3 ?_ GE558.out | refine zz3 ?_ GE580.out) hb);clear HO_548001;clear HO_553001;clear HO_559001;clear HO574;clear HO578;clear BK536;clear BK547;clear BK552;clear BK558;clear BK580;clear HB;have HO_548001:=n0_;have HO_553001:=n1_;have HO_559001:=n2_;have HO574:=n3_;have HO578:=n4_;have BK536:=n5_;have BK547:=n6_;have BK552:=n7_;have BK558:=n8_;have BK580:=n9_;have HB:=n10_;clear n0_ n1_ n2_ n3_ n4_ n5_ n6_ n7_ n8_ n9_ n10_;(try clear hb);(try clear hb2);(try clear hk);(try clear hi)))
             go_meet
             case rel=>exact ⟨_,(true),(by first | rfl | (simp;done) | (simp [*];done)),H',⟨by have:=HJ12.out;have:=HJ61.out;first | omega | exact Nat.le_refl _⟩,⟨by (try simp only [hl553001_61]);(with_reducible repeat (first | apply zz12 | apply zz13 | apply zz14));exact Kd.R_mono HO_548001.out (fun _ hk=>⟨hk.1.1.1,⟨hk.1.1.2,hk.2⟩⟩)⟩,⟨by (try simp only [hl553001_61]);(with_reducible repeat (first | apply zz12 | apply zz13 | apply zz14));exact Kd.R_mono HO_553001.out (fun _ hk=>⟨hk.1.1.1,⟨hk.1.1.2,hk.2⟩⟩)⟩,⟨by (try simp only [hl553001_61]);(with_reducible repeat (first | apply zz12 | apply zz13 | apply zz14));exact Kd.R_mono HO_559001.out (fun _ hk=>⟨hk.1.1.1,⟨hk.1.1.2,hk.2⟩⟩)⟩,⟨by (try simp only [hl553001_61]);(with_reducible repeat (first | apply zz12 | apply zz13 | apply zz14));exact Kd.R_mono HO578.out (fun _ hk=>⟨hk.1.1.1.2,⟨hk.1.1.2,hk.1.2⟩⟩)⟩,⟨by (try simp only [hl553001_61]);(with_reducible repeat (first | refine zz6 ?_ _ | refine zz7 ?_ | refine zz8 ?_ _));exact BK536.out⟩,⟨by (try simp only [hl553001_61]);(with_reducible repeat (first | refine zz6 ?_ _ | refine zz7 ?_ | refine zz8 ?_ _));exact BK547.out⟩,⟨by (try simp only [hl553001_61]);(with_reducible repeat (first | refine zz6 ?_ _ | refine zz7 ?_ | refine zz8 ?_ _));exact BK552.out⟩,⟨by (try simp only [hl553001_61]);(with_reducible repeat (first | refine zz6 ?_ _ | refine zz7 ?_ | refine zz8 ?_ _));exact BK558.out⟩,⟨by (try simp only [hl553001_61]);(with_reducible repeat (first | refine zz6 ?_ _ | refine zz7 ?_ | refine zz8 ?_ _));exact BK580.out⟩,⟨by repeat first | exact HB.out | apply zz2 | apply zz0 | apply zz1 | refine zz3 ?_ GE536.out | refine zz3 ?_ GE547.out | refine zz3 ?_ GE552.out | refine zz3 ?_ GE558.out | refine zz3 ?_ GE580.out⟩⟩
           case rest =>
            clear HC105
            try clear c1
            try clear c2
            try clear p2
            try clear c3
            try clear c4
            try clear c5
            try clear c5b0
            try clear c6
            try clear c7
            try clear c8
            try clear c9
            try clear c10
            try clear c11
            try clear c12
            try clear c13
            try clear c14
            try clear c16
            try clear c20
            try clear c22
            try clear c28
            try clear c29
            try clear c32
            try clear c33
            try clear c34
            try clear c35
            try clear c36
            try clear c40
            try clear c41
            try clear c42
            try clear c43
            try clear c45
            try clear c46
            try clear c49
            try clear c50
            try clear c51
            try clear c53
            try clear c54
            try clear c57
            try clear c60
            try clear c67
            try clear c68
            try clear c69
            try clear c72
            try clear c72b0
            try clear c74
            try clear c75
            try clear c76
            try clear c77
            try clear c79
            try clear c80
            try clear c83
            try clear c84
            try clear c85
            try clear c87
            try clear c88
            try clear c91
            try clear c94
            try clear c94b0
            try clear c95
            try clear c96
            try clear c97
            try clear c102
            try clear c102b0
            try clear c102b1
            try clear c106
            try clear c107
            try clear c108
            try clear c113
            try clear c114
            try clear c120
            try clear c121
            try clear c122
            try clear c123
            try clear c127
            try clear c128
            try clear c129
            try clear c130
            try clear c131
            try clear c133
            try clear c134
            try clear c135
            try clear c138
            try clear c139
            try clear c140
            try clear c141
            try clear c143
            try clear c144
            try clear c145
            try clear hcz100_0
            try clear hcz100_1
            try clear hcz109_0
            try clear hcz109_1
            try clear hcz111_0
            try clear hcz111_1
            try clear hcz115_0
            try clear hcz115_1
            try clear hcz124_0
            try clear hcz124_1
            try clear hcz132_0
            try clear hcz132_1
            try clear hcz136_0
            try clear hcz136_1
            try clear hcz142_0
            try clear hcz142_1
            try clear hcz146_0
            try clear hcz146_1
            try clear hcz15_0
            try clear hcz15_1
            try clear hcz17_0
            try clear hcz17_1
            try clear hcz23_0
            try clear hcz23_1
            try clear hcz25_0
            try clear hcz25_1
            try clear hcz30_0
            try clear hcz30_1
            try clear hcz37_0
            try clear hcz37_1
            try clear hcz44_0
            try clear hcz44_1
            try clear hcz47_0
            try clear hcz47_1
            try clear hcz52_0
            try clear hcz52_1
            try clear hcz55_0
            try clear hcz55_1
            try clear hcz70_0
            try clear hcz70_1
            try clear hcz78_0
            try clear hcz78_1
            try clear hcz7_0
            try clear hcz7_1
            try clear hcz81_0
            try clear hcz81_1
            try clear hcz86_0
            try clear hcz86_1
            try clear hcz89_0
            try clear hcz89_1
            try clear hcz98_0
            try clear hcz98_1
            try clear hfz100_0
            try clear hfz100_1
            try clear hfz109_0
            try clear hfz109_1
            try clear hfz111_0
            try clear hfz111_1
            try clear hfz115_0
            try clear hfz115_1
            try clear hfz124_0
            try clear hfz124_1
            try clear hfz132_0
            try clear hfz132_1
            try clear hfz136_0
            try clear hfz136_1
            try clear hfz142_0
            try clear hfz142_1
            try clear hfz146_0
            try clear hfz146_1
            try clear hfz15_0
            try clear hfz15_1
            try clear hfz17_0
            try clear hfz17_1
            try clear hfz23_0
            try clear hfz23_1
            try clear hfz25_0
            try clear hfz25_1
            try clear hfz30_0
            try clear hfz30_1
            try clear hfz37_0
            try clear hfz37_1
            try clear hfz44_0
            try clear hfz44_1
            try clear hfz47_0
            try clear hfz47_1
            try clear hfz52_0
            try clear hfz52_1
            try clear hfz55_0
            try clear hfz55_1
            try clear hfz70_0
            try clear hfz70_1
            try clear hfz78_0
            try clear hfz78_1
            try clear hfz7_0
            try clear hfz7_1
            try clear hfz81_0
            try clear hfz81_1
            try clear hfz86_0
            try clear hfz86_1
            try clear hfz89_0
            try clear hfz89_1
            try clear hfz98_0
            try clear hfz98_1
            try clear p2
            obtain ⟨kq,x97_104,rfl,HA,HJ104,HO_548001,HO_553001,HO_559001,HO_581001,BK536,BK547,BK552,BK558,BK580,HB⟩:=hcut
            have hl559001_104:=(Kd.R_reads' HO_559001.out).1
            rw [hl559001_104] at HO_559001
            (try simp only [hl559001_104])
            (try simp only [hl559001_104] at BK536)
            (try simp only [hl559001_104] at BK547)
            (try simp only [hl559001_104] at BK552)
            (try simp only [hl559001_104] at BK558)
            (try simp only [hl559001_104] at BK580)
            (try simp only [hl559001_104] at HO_548001)
            (try simp only [hl559001_104] at HO_553001)
            (try simp only [hl559001_104] at HO_581001)
            cases kq with
            | zero=>exact absurd HA.out (by simp [laws_FnExactAddPair.j2])
            | succ kj104 =>
             have H:=HA.out
             clear HA
             simp only [laws_FnExactAddPair.j2] at H
             by_cases c148:x97_104=true
             ·subst c148
              have H1:(some false)=some r:=by rw [if_pos rfl] at H;exact H
              clear H
              have H:=H1
              clear H1
              obtain rfl:=Option.some.inj H
              go_wp2
              go_ret
              exact ⟨by first | rfl | (simp [errW_none,errW_some] <;> rfl) | (simp [*,errW_none,errW_some] <;> rfl),by repeat first | exact HB.out | apply zz2 | apply zz0 | apply zz1 | refine zz3 ?_ GE536.out | refine zz3 ?_ GE547.out | refine zz3 ?_ GE552.out | refine zz3 ?_ GE558.out | refine zz3 ?_ GE580.out⟩
             ·replace c148:=Bool.eq_false_iff.mpr c148
              subst c148
              have H1:((laws_heldParty.f kj104 t553 t569 1).bind fun t582=>(if t582 < 0 then (some false) else (if t582=t568 then (some true) else (some false))))=some r:=by rw [if_neg (show ¬ (false=true) by decide)] at H;exact H
              clear H
              have H:=H1
              clear H1
              replace H:=zz30.mp H
              obtain ⟨t582,A1490,H⟩:=H
              replace H:(if t582 < 0 then (some false) else (if t582=t568 then (some true) else (some false)))=some r:=H
              have A149:=Aside0.mk A1490
              clear A1490
              by_cases c150:t582 < 0
              ·rw [if_pos c150] at H
               have c150b0:decide (t582 < 0)=true:=decide_eq_true c150
               clear c150
               obtain rfl:=Option.some.inj H
               have hnb151:=NB558_536.out
               have hnc151:=NB536_558.out
               have hnb152:=NB558_547.out
               have hnc152:=NB547_558.out
               have hnb153:=NB558_552.out
               have hnc153:=NB552_558.out
               have hnb154:=NB558_580.out
               have hnc154:=NB580_558.out
               have hcz155_0:wc.cell? ⟨gb558,0,none⟩=some (.int .i64 t553):=(zz9 BK558.out 0).trans rfl
               have hcz155_1:wc.cell? ⟨gb558,1,none⟩=some (.slice Ao38 t569.length co38):=(zz9 BK558.out 1).trans rfl
               have hfz155_0:=zz10 BK558.out 0
               have hfz155_1:=zz10 BK558.out 1
               go_wp2_with (first | ((with_reducible refine gate_callee (f:=29) rfl ?_);refine goesL_ (some 100) rfl rfl Try.func29 (by kernel_rfl) rfl #[.agg #[.int .i64 t553,.slice Ao38 t569.length co38],.int .i64 1] rfl (by (try simp only [zz26,zz27,zz28]);first | done | rfl | (simp only [zz24,zz25];rfl) | (simp only [zz25];congr;(try simp only [decide_eq_true_eq] at *);omega)) ?_;(with_reducible refine (laws_heldParty.calls kj104 t553 _ _ t569 1 t582 _ ?side1 ?side2 A149.out).mono ?_);(case side1=>repeat (first | exact (Kd.R_reads' HO_559001.out).2.2 | (with_reducible refine zz18 ?_ _) | (with_reducible refine zz19 ?_ _) | (with_reducible refine zz20 ?_)));(case side2=>exact (Kd.R_reads' HO_559001.out).2.1);rintro e w156 ⟨rfl,hb⟩;refine ⟨_,rfl,?_⟩;have n0_:=Aside0.mk (Kd.R_below (by (with_reducible repeat (first | apply zz12 | apply zz13 | apply zz14));exact HO_548001.out) hb);have n1_:=Aside0.mk (Kd.R_below (by (with_reducible repeat (first | apply zz12 | apply zz13 | apply zz14));exact HO_553001.out) hb);have n2_:=Aside0.mk (Kd.R_below (by (with_reducible repeat (first | apply zz12 | apply zz13 | apply zz14));exact HO_559001.out) hb);have n3_:=Aside0.mk (Kd.R_below (by (with_reducible repeat (first | apply zz12 | apply zz13 | apply zz14));exact HO_581001.out) hb);have n4_:=Aside0.mk (zz11 (g:=gb536) (o:=.cells #[.int .i64 a0_0,.slice A0_1 l0_1.length c0_1] 24 (0,0)) (by (with_reducible repeat (first | refine zz6 ?_ _ | refine zz7 ?_ | refine zz8 ?_ _));exact BK536.out) hb);have n5_:=Aside0.mk (zz11 (g:=gb547) (o:=.cells #[.int .i64 t542,.slice Ao24 t543.length co24] 30 (0,0)) (by (with_reducible repeat (first | refine zz6 ?_ _ | refine zz7 ?_ | refine zz8 ?_ _));exact BK547.out) hb);have n6_:=Aside0.mk (zz11 (g:=gb552) (o:=.cells #[.int .i64 t548,.slice Ao31 t566.length co31] 30 (0,0)) (by (with_reducible repeat (first | refine zz6 ?_ _ | refine zz7 ?_ | refine zz8 ?_ _));exact BK552.out) hb);have n7_:=Aside0.mk (zz11 (g:=gb558) (o:=.cells #[.int .i64 t553,.slice Ao38 t569.length co38] 30 (0,0)) (by (with_reducible repeat (first | refine zz6 ?_ _ | refine zz7 ?_ | refine zz8 ?_ _));exact BK558.out) hb);have n8_:=Aside0.mk (zz11 (g:=gb580) (o:=.cells #[.int .i64 t575,.slice Ao125 t576.length co125] 30 (0,0)) (by (with_reducible repeat (first | refine zz6 ?_ _ | refine zz7 ?_ | refine zz8 ?_ _));exact BK580.out) hb);have n9_:=Aside0.mk (zz4 (by repeat first | exact HB.out | apply zz2 | apply zz0 | apply zz1 | refine zz3 ?_ GE536.out | refine zz3 ?_ GE547.out | refine zz3 ?_ GE552.out | refine zz3 ?_ GE558.out | refine zz3 ?_ GE580.out) hb);clear HO_548001;clear HO_553001;clear HO_559001;clear HO_581001;clear BK536;clear BK547;clear BK552;clear BK558;clear BK580;clear HB;have HO_548001:=n0_;have HO_553001:=n1_;have HO_559001:=n2_;have HO_581001:=n3_;have BK536:=n4_;have BK547:=n5_;have BK552:=n6_;have BK558:=n7_;have BK580:=n8_;have HB:=n9_;clear n0_ n1_ n2_ n3_ n4_ n5_ n6_ n7_ n8_ n9_;(try clear hb);(try clear hb2);(try clear hk);(try clear hi)))
               go_ret
               exact ⟨by first | rfl | (simp [errW_none,errW_some] <;> rfl) | (simp [*,errW_none,errW_some] <;> rfl),by repeat first | exact HB.out | apply zz2 | apply zz0 | apply zz1 | refine zz3 ?_ GE536.out | refine zz3 ?_ GE547.out | refine zz3 ?_ GE552.out | refine zz3 ?_ GE558.out | refine zz3 ?_ GE580.out⟩
              ·rw [if_neg c150] at H
               have c150b0:decide (t582 < 0)=false:=decide_eq_false c150
               clear c150
               by_cases c157:t582=t568
               ·rw [if_pos c157] at H
                have c157b0:(t582 == t568)=true:=beq_iff_eq.mpr c157
                have c157b1:(t582 != t568)=false:=bne_eq_false_iff_eq.mpr c157
                clear c157
                obtain rfl:=Option.some.inj H
                have hnb158:=NB558_536.out
                have hnc158:=NB536_558.out
                have hnb159:=NB558_547.out
                have hnc159:=NB547_558.out
                have hnb160:=NB558_552.out
                have hnc160:=NB552_558.out
                have hnb161:=NB558_580.out
                have hnc161:=NB580_558.out
                have hcz162_0:wc.cell? ⟨gb558,0,none⟩=some (.int .i64 t553):=(zz9 BK558.out 0).trans rfl
                have hcz162_1:wc.cell? ⟨gb558,1,none⟩=some (.slice Ao38 t569.length co38):=(zz9 BK558.out 1).trans rfl
                have hfz162_0:=zz10 BK558.out 0
                have hfz162_1:=zz10 BK558.out 1
                go_wp2_with (first | ((with_reducible refine gate_callee (f:=29) rfl ?_);refine goesL_ (some 100) rfl rfl Try.func29 (by kernel_rfl) rfl #[.agg #[.int .i64 t553,.slice Ao38 t569.length co38],.int .i64 1] rfl (by (try simp only [zz26,zz27,zz28]);first | done | rfl | (simp only [zz24,zz25];rfl) | (simp only [zz25];congr;(try simp only [decide_eq_true_eq] at *);omega)) ?_;(with_reducible refine (laws_heldParty.calls kj104 t553 _ _ t569 1 t582 _ ?side1 ?side2 A149.out).mono ?_);(case side1=>repeat (first | exact (Kd.R_reads' HO_559001.out).2.2 | (with_reducible refine zz18 ?_ _) | (with_reducible refine zz19 ?_ _) | (with_reducible refine zz20 ?_)));(case side2=>exact (Kd.R_reads' HO_559001.out).2.1);rintro e w163 ⟨rfl,hb⟩;refine ⟨_,rfl,?_⟩;have n0_:=Aside0.mk (Kd.R_below (by (with_reducible repeat (first | apply zz12 | apply zz13 | apply zz14));exact HO_548001.out) hb);have n1_:=Aside0.mk (Kd.R_below (by (with_reducible repeat (first | apply zz12 | apply zz13 | apply zz14));exact HO_553001.out) hb);have n2_:=Aside0.mk (Kd.R_below (by (with_reducible repeat (first | apply zz12 | apply zz13 | apply zz14));exact HO_559001.out) hb);have n3_:=Aside0.mk (Kd.R_below (by (with_reducible repeat (first | apply zz12 | apply zz13 | apply zz14));exact HO_581001.out) hb);have n4_:=Aside0.mk (zz11 (g:=gb536) (o:=.cells #[.int .i64 a0_0,.slice A0_1 l0_1.length c0_1] 24 (0,0)) (by (with_reducible repeat (first | refine zz6 ?_ _ | refine zz7 ?_ | refine zz8 ?_ _));exact BK536.out) hb);have n5_:=Aside0.mk (zz11 (g:=gb547) (o:=.cells #[.int .i64 t542,.slice Ao24 t543.length co24] 30 (0,0)) (by (with_reducible repeat (first | refine zz6 ?_ _ | refine zz7 ?_ | refine zz8 ?_ _));exact BK547.out) hb);have n6_:=Aside0.mk (zz11 (g:=gb552) (o:=.cells #[.int .i64 t548,.slice Ao31 t566.length co31] 30 (0,0)) (by (with_reducible repeat (first | refine zz6 ?_ _ | refine zz7 ?_ | refine zz8 ?_ _));exact BK552.out) hb);have n7_:=Aside0.mk (zz11 (g:=gb558) (o:=.cells #[.int .i64 t553,.slice Ao38 t569.length co38] 30 (0,0)) (by (with_reducible repeat (first | refine zz6 ?_ _ | refine zz7 ?_ | refine zz8 ?_ _));exact BK558.out) hb);have n8_:=Aside0.mk (zz11 (g:=gb580) (o:=.cells #[.int .i64 t575,.slice Ao125 t576.length co125] 30 (0,0)) (by (with_reducible repeat (first | refine zz6 ?_ _ | refine zz7 ?_ | refine zz8 ?_ _));exact BK580.out) hb);have n9_:=Aside0.mk (zz4 (by repeat first | exact HB.out | apply zz2 | apply zz0 | apply zz1 | refine zz3 ?_ GE536.out | refine zz3 ?_ GE547.out | refine zz3 ?_ GE552.out | refine zz3 ?_ GE558.out | refine zz3 ?_ GE580.out) hb);clear HO_548001;clear HO_553001;clear HO_559001;clear HO_581001;clear BK536;clear BK547;clear BK552;clear BK558;clear BK580;clear HB;have HO_548001:=n0_;have HO_553001:=n1_;have HO_559001:=n2_;have HO_581001:=n3_;have BK536:=n4_;have BK547:=n5_;have BK552:=n6_;have BK558:=n7_;have BK580:=n8_;have HB:=n9_;clear n0_ n1_ n2_ n3_ n4_ n5_ n6_ n7_ n8_ n9_;(try clear hb);(try clear hb2);(try clear hk);(try clear hi)))
                go_ret
                exact ⟨by first | rfl | (simp [errW_none,errW_some] <;> rfl) | (simp [*,errW_none,errW_some] <;> rfl),by repeat first | exact HB.out | apply zz2 | apply zz0 | apply zz1 | refine zz3 ?_ GE536.out | refine zz3 ?_ GE547.out | refine zz3 ?_ GE552.out | refine zz3 ?_ GE558.out | refine zz3 ?_ GE580.out⟩
               ·rw [if_neg c157] at H
                have c157b0:(t582 == t568)=false:=beq_eq_false_iff_ne.mpr c157
                have c157b1:(t582 != t568)=true:=bne_iff_ne.mpr c157
                obtain rfl:=Option.some.inj H
                have hnb164:=NB558_536.out
                have hnc164:=NB536_558.out
                have hnb165:=NB558_547.out
                have hnc165:=NB547_558.out
                have hnb166:=NB558_552.out
                have hnc166:=NB552_558.out
                have hnb167:=NB558_580.out
                have hnc167:=NB580_558.out
                have hcz168_0:wc.cell? ⟨gb558,0,none⟩=some (.int .i64 t553):=(zz9 BK558.out 0).trans rfl
                have hcz168_1:wc.cell? ⟨gb558,1,none⟩=some (.slice Ao38 t569.length co38):=(zz9 BK558.out 1).trans rfl
                have hfz168_0:=zz10 BK558.out 0
                have hfz168_1:=zz10 BK558.out 1
                go_wp2_with (first | ((with_reducible refine gate_callee (f:=29) rfl ?_);refine goesL_ (some 100) rfl rfl Try.func29 (by kernel_rfl) rfl #[.agg #[.int .i64 t553,.slice Ao38 t569.length co38],.int .i64 1] rfl (by (try simp only [zz26,zz27,zz28]);first | done | rfl | (simp only [zz24,zz25];rfl) | (simp only [zz25];congr;(try simp only [decide_eq_true_eq] at *);omega)) ?_;(with_reducible refine (laws_heldParty.calls kj104 t553 _ _ t569 1 t582 _ ?side1 ?side2 A149.out).mono ?_);(case side1=>repeat (first | exact (Kd.R_reads' HO_559001.out).2.2 | (with_reducible refine zz18 ?_ _) | (with_reducible refine zz19 ?_ _) | (with_reducible refine zz20 ?_)));(case side2=>exact (Kd.R_reads' HO_559001.out).2.1);rintro e w169 ⟨rfl,hb⟩;refine ⟨_,rfl,?_⟩;have n0_:=Aside0.mk (Kd.R_below (by (with_reducible repeat (first | apply zz12 | apply zz13 | apply zz14));exact HO_548001.out) hb);have n1_:=Aside0.mk (Kd.R_below (by (with_reducible repeat (first | apply zz12 | apply zz13 | apply zz14));exact HO_553001.out) hb);have n2_:=Aside0.mk (Kd.R_below (by (with_reducible repeat (first | apply zz12 | apply zz13 | apply zz14));exact HO_559001.out) hb);have n3_:=Aside0.mk (Kd.R_below (by (with_reducible repeat (first | apply zz12 | apply zz13 | apply zz14));exact HO_581001.out) hb);have n4_:=Aside0.mk (zz11 (g:=gb536) (o:=.cells #[.int .i64 a0_0,.slice A0_1 l0_1.length c0_1] 24 (0,0)) (by (with_reducible repeat (first | refine zz6 ?_ _ | refine zz7 ?_ | refine zz8 ?_ _));exact BK536.out) hb);have n5_:=Aside0.mk (zz11 (g:=gb547) (o:=.cells #[.int .i64 t542,.slice Ao24 t543.length co24] 30 (0,0)) (by (with_reducible repeat (first | refine zz6 ?_ _ | refine zz7 ?_ | refine zz8 ?_ _));exact BK547.out) hb);have n6_:=Aside0.mk (zz11 (g:=gb552) (o:=.cells #[.int .i64 t548,.slice Ao31 t566.length co31] 30 (0,0)) (by (with_reducible repeat (first | refine zz6 ?_ _ | refine zz7 ?_ | refine zz8 ?_ _));exact BK552.out) hb);have n7_:=Aside0.mk (zz11 (g:=gb558) (o:=.cells #[.int .i64 t553,.slice Ao38 t569.length co38] 30 (0,0)) (by (with_reducible repeat (first | refine zz6 ?_ _ | refine zz7 ?_ | refine zz8 ?_ _));exact BK558.out) hb);have n8_:=Aside0.mk (zz11 (g:=gb580) (o:=.cells #[.int .i64 t575,.slice Ao125 t576.length co125] 30 (0,0)) (by (with_reducible repeat (first | refine zz6 ?_ _ | refine zz7 ?_ | refine zz8 ?_ _));exact BK580.out) hb);have n9_:=Aside0.mk (zz4 (by repeat first | exact HB.out | apply zz2 | apply zz0 | apply zz1 | refine zz3 ?_ GE536.out | refine zz3 ?_ GE547.out | refine zz3 ?_ GE552.out | refine zz3 ?_ GE558.out | refine zz3 ?_ GE580.out) hb);clear HO_548001;clear HO_553001;clear HO_559001;clear HO_581001;clear BK536;clear BK547;clear BK552;clear BK558;clear BK580;clear HB;have HO_548001:=n0_;have HO_553001:=n1_;have HO_559001:=n2_;have HO_581001:=n3_;have BK536:=n4_;have BK547:=n5_;have BK552:=n6_;have BK558:=n7_;have BK580:=n8_;have HB:=n9_;clear n0_ n1_ n2_ n3_ n4_ n5_ n6_ n7_ n8_ n9_;(try clear hb);(try clear hb2);(try clear hk);(try clear hi)))
                go_ret
                exact ⟨by first | rfl | (simp [errW_none,errW_some] <;> rfl) | (simp [*,errW_none,errW_some] <;> rfl),by repeat first | exact HB.out | apply zz2 | apply zz0 | apply zz1 | refine zz3 ?_ GE536.out | refine zz3 ?_ GE547.out | refine zz3 ?_ GE552.out | refine zz3 ?_ GE558.out | refine zz3 ?_ GE580.out⟩
          ·rw [if_neg c102] at H
           have c102b0:(t570 == t568)=false:=beq_eq_false_iff_ne.mpr c102
           have c102b1:(t570 != t568)=true:=bne_iff_ne.mpr c102
           obtain rfl:=Option.some.inj H
           have hnb170:=NB558_536.out
           have hnc170:=NB536_558.out
           have hnb171:=NB558_547.out
           have hnc171:=NB547_558.out
           have hnb172:=NB558_552.out
           have hnc172:=NB552_558.out
           have hcz173_0:wc.cell? ⟨gb558,0,none⟩=some (.int .i64 t553):=(zz9 BK558.out 0).trans rfl
           have hcz173_1:wc.cell? ⟨gb558,1,none⟩=some (.slice Ao38 t554.length co38):=(zz9 BK558.out 1).trans rfl
           have hfz173_0:=zz10 BK558.out 0
           have hfz173_1:=zz10 BK558.out 1
           go_wp2_with (first | ((with_reducible refine gate_callee (f:=20) rfl ?_);refine goesL_ (some 72) rfl rfl Try.func20 (by kernel_rfl) rfl #[.agg #[.int .i64 t553,.slice Ao38 t554.length co38],.int .i64 1] rfl (by (try simp only [zz26,zz27,zz28]);first | done | rfl | (simp only [zz24,zz25];rfl) | (simp only [zz25];congr;(try simp only [decide_eq_true_eq] at *);omega)) ?_;(with_reducible refine (laws_markParty.calls kj61 t553 (fun k_=>some k_=(.slice Ao38 t554.length co38:Value).ownBlock) (.slice Ao38 t554.length co38) t554 1 t568 t569 w _ ?side1 ?side2 A92.out).mono ?_);(case side1=>repeat first | exact HB.out | apply zz2 | apply zz0 | apply zz1 | refine zz3 ?_ GE536.out | refine zz3 ?_ GE547.out | refine zz3 ?_ GE552.out | refine zz3 ?_ GE558.out);(case side2=>exact Kd.R_tight rfl HO_559001.out);rintro e w174 ⟨rfl,hy0,hb,hkp⟩;refine ⟨_,rfl,?_⟩;have n0_:=Aside0.mk (Kd.R_mono (ok':=fun k_=>some k_ ≠ (.slice Ao31 t566.length co31:Value).ownBlock∧some k_ ≠ (.slice Ao38 t554.length co38:Value).ownBlock) (Kd.R_keptB (HO_548001.out) hkp (fun k_ hk_ hs_=>(hk_.2) hs_)) (fun k_ hk_=>⟨hk_.1.1,hk_.1.2⟩));have n1_:=Aside0.mk (Kd.R_mono (ok':=fun k_=>some k_ ≠ (.slice Ao24 t543.length co24:Value).ownBlock∧some k_ ≠ (.slice Ao38 t554.length co38:Value).ownBlock) (Kd.R_keptB (HO_553001.out) hkp (fun k_ hk_ hs_=>(hk_.2) hs_)) (fun k_ hk_=>⟨hk_.1.1,hk_.1.2⟩));have n2_:=Aside0.mk (Kd.R_reok rfl hy0 (fun k_ e_=>HO_559001.out.1 k_ e_));have n3_:=Aside0.mk (blk_kept (by (with_reducible repeat (first | refine zz6 ?_ _ | refine zz7 ?_ | refine zz8 ?_ _));exact BK536.out) hkp (fun hs_=>(fun e_=>(Kd.R_ne HO_559001.out BK536.out (by decide)) e_) hs_));have n4_:=Aside0.mk (blk_kept (by (with_reducible repeat (first | refine zz6 ?_ _ | refine zz7 ?_ | refine zz8 ?_ _));exact BK547.out) hkp (fun hs_=>(fun e_=>(Kd.R_ne HO_559001.out BK547.out (by decide)) e_) hs_));have n5_:=Aside0.mk (blk_kept (by (with_reducible repeat (first | refine zz6 ?_ _ | refine zz7 ?_ | refine zz8 ?_ _));exact BK552.out) hkp (fun hs_=>(fun e_=>(Kd.R_ne HO_559001.out BK552.out (by decide)) e_) hs_));have n6_:=Aside0.mk (blk_kept (by (with_reducible repeat (first | refine zz6 ?_ _ | refine zz7 ?_ | refine zz8 ?_ _));exact BK558.out) hkp (fun hs_=>(fun e_=>(Kd.R_ne HO_559001.out BK558.out (by decide)) e_) hs_));have n7_:=Aside0.mk (hb);clear HO_548001;clear HO_553001;clear HO_559001;clear BK536;clear BK547;clear BK552;clear BK558;clear HB;have HO_548001:=n0_;have HO_553001:=n1_;have HO_559001:=n2_;have BK536:=n3_;have BK547:=n4_;have BK552:=n5_;have BK558:=n6_;have HB:=n7_;clear n0_ n1_ n2_ n3_ n4_ n5_ n6_ n7_;(try clear hb);(try clear hkp);(try clear hy0);have hcz175_0:w174.cell? ⟨gb558,0,none⟩=some (.int .i64 t553):=(zz9 BK558.out 0).trans rfl;have hcz175_1:w174.cell? ⟨gb558,1,none⟩=some (.slice Ao38 t554.length co38):=(zz9 BK558.out 1).trans rfl;have hfz175_0:=zz10 BK558.out 0;have hfz175_1:=zz10 BK558.out 1) | ((with_reducible refine gate_callee (f:=29) rfl ?_);refine goesL_ (some 75) rfl rfl Try.func29 (by kernel_rfl) rfl #[.agg #[.int .i64 t553,.slice Ao38 t569.length co38],.int .i64 1] rfl (by (try simp only [zz26,zz27,zz28]);first | done | (rw [show t569.length=t554.length from (Kd.R_reads' HO_559001.out).1.symm] <;> rfl) | rfl | (simp only [zz24,zz25];rfl)) ?_;(with_reducible refine (laws_heldParty.calls kj61 t553 _ _ t569 1 t570 _ ?side1 ?side2 A93.out).mono ?_);(case side1=>repeat (first | exact (Kd.R_reads' HO_559001.out).2.2 | (with_reducible refine zz18 ?_ _) | (with_reducible refine zz19 ?_ _) | (with_reducible refine zz20 ?_)));(case side2=>rw [show t569.length=t554.length from (Kd.R_reads' HO_559001.out).1.symm];exact (Kd.R_reads' HO_559001.out).2.1);rintro e w176 ⟨rfl,hb⟩;refine ⟨_,rfl,?_⟩;have n0_:=Aside0.mk (Kd.R_below (by (with_reducible repeat (first | apply zz12 | apply zz13 | apply zz14));exact HO_548001.out) hb);have n1_:=Aside0.mk (Kd.R_below (by (with_reducible repeat (first | apply zz12 | apply zz13 | apply zz14));exact HO_553001.out) hb);have n2_:=Aside0.mk (Kd.R_below (by (with_reducible repeat (first | apply zz12 | apply zz13 | apply zz14));exact HO_559001.out) hb);have n3_:=Aside0.mk (zz11 (g:=gb536) (o:=.cells #[.int .i64 a0_0,.slice A0_1 l0_1.length c0_1] 24 (0,0)) (by (with_reducible repeat (first | refine zz6 ?_ _ | refine zz7 ?_ | refine zz8 ?_ _));exact BK536.out) hb);have n4_:=Aside0.mk (zz11 (g:=gb547) (o:=.cells #[.int .i64 t542,.slice Ao24 t543.length co24] 30 (0,0)) (by (with_reducible repeat (first | refine zz6 ?_ _ | refine zz7 ?_ | refine zz8 ?_ _));exact BK547.out) hb);have n5_:=Aside0.mk (zz11 (g:=gb552) (o:=.cells #[.int .i64 t548,.slice Ao31 t566.length co31] 30 (0,0)) (by (with_reducible repeat (first | refine zz6 ?_ _ | refine zz7 ?_ | refine zz8 ?_ _));exact BK552.out) hb);have n6_:=Aside0.mk (zz11 (g:=gb558) (o:=.cells #[.int .i64 t553,.slice Ao38 t554.length co38] 30 (0,0)) (by (with_reducible repeat (first | refine zz6 ?_ _ | refine zz7 ?_ | refine zz8 ?_ _));exact BK558.out) hb);have n7_:=Aside0.mk (zz4 (by repeat first | exact HB.out | apply zz2 | apply zz0 | apply zz1 | refine zz3 ?_ GE536.out | refine zz3 ?_ GE547.out | refine zz3 ?_ GE552.out | refine zz3 ?_ GE558.out) hb);clear HO_548001;clear HO_553001;clear HO_559001;clear BK536;clear BK547;clear BK552;clear BK558;clear HB;have HO_548001:=n0_;have HO_553001:=n1_;have HO_559001:=n2_;have BK536:=n3_;have BK547:=n4_;have BK552:=n5_;have BK558:=n6_;have HB:=n7_;clear n0_ n1_ n2_ n3_ n4_ n5_ n6_ n7_;(try clear hb);(try clear hb2);(try clear hk);(try clear hi)))
           go_ret
           exact ⟨by first | rfl | (simp [errW_none,errW_some] <;> rfl) | (simp [*,errW_none,errW_some] <;> rfl),by repeat first | exact HB.out | apply zz2 | apply zz0 | apply zz1 | refine zz3 ?_ GE536.out | refine zz3 ?_ GE547.out | refine zz3 ?_ GE552.out | refine zz3 ?_ GE558.out⟩
     ·replace c60:=Bool.eq_false_iff.mpr c60
      subst c60
      have H1:(some false)=some r:=by rw [if_neg (show ¬ (false=true) by decide)] at H;exact H
      clear H
      have H:=H1
      clear H1
      obtain rfl:=Option.some.inj H
      try go_wp2
      have n0_:=Aside0.mk (zz14 HO_548001.out)
      have n1_:=Aside0.mk (zz14 HO_553001.out)
      have n2_:=Aside0.mk (zz14 HO_559001.out)
      have n3_:=Aside0.mk (zz7 BK536.out)
      have n4_:=Aside0.mk (zz7 BK547.out)
      have n5_:=Aside0.mk (zz7 BK552.out)
      have n6_:=Aside0.mk (zz7 BK558.out)
      have n7_:=Aside0.mk (zz1 HB.out)
      clear HO_548001
      clear HO_553001
      clear HO_559001
      clear BK536
      clear BK547
      clear BK552
      clear BK558
      clear HB
      have HO_548001:=n0_
      have HO_553001:=n1_
      have HO_559001:=n2_
      have BK536:=n3_
      have BK547:=n4_
      have BK552:=n5_
      have BK558:=n6_
      have HB:=n7_
      clear n0_ n1_ n2_ n3_ n4_ n5_ n6_ n7_
      refine start_ (n:=5) (S:=fun w'=>w'.cell? ⟨gb552,0,none⟩=some (.int .i64 t548)∧w'.cell? ⟨gb552,1,none⟩=some (.slice Ao31 t549.length co31)∧w'.cell? ⟨gb536,0,none⟩=some (.int .i64 a0_0)∧w'.cell? ⟨gb536,1,none⟩=some (.slice A0_1 l0_1.length c0_1)) (ds:=[]) #[F,F,F,F,F] (by kernel_rfl) rfl rfl ⟨(zz9 BK552.out 0).trans rfl,(zz9 BK552.out 1).trans rfl,(zz9 BK536.out 0).trans rfl,(zz9 BK536.out 1).trans rfl⟩ (fun hHeld=>?_)
      generalize wc.drew=w177 at HO_548001 HO_553001 HO_559001 BK536 BK547 BK552 BK558 HB hHeld ⊢
      refine take_ (i:=0) (N:=some 49) (v:=?_) (a':=?_) #[T,F,F,F,F] rfl rfl (by kernel_rfl) (fun _ _ _ h=>h) (Or.inl ⟨by rfl,?_⟩) hHeld ?_ ?_
      rotate_left
      ·rintro w' ⟨s0,s1,s2,s3⟩
       go_simp
       with_reducible rfl
      rotate_left
      ·simp only [Act.put,zz21,zz22,zz23,i64_w,i32_w]
       rfl
      refine take_ (i:=1) (N:=some 50) (v:=?_) (a':=?_) #[T,T,F,F,F] rfl rfl (by kernel_rfl) (fun _ _ _ h=>h) (Or.inl ⟨by rfl,?_⟩) hHeld ?_ ?_
      rotate_left
      ·rintro w' ⟨s0,s1,s2,s3⟩
       go_simp
       with_reducible rfl
      rotate_left
      ·simp only [Act.put,zz21,zz22,zz23,i64_w,i32_w]
       rfl
      refine one_ (i:=2) (N:=some 51) #[T,T,T,F,F] rfl rfl (by kernel_rfl) (by decide) (fun K hK=>?_)
      refine goes_ Try.func14 (by kernel_rfl) rfl #[.agg #[.int .i64 a0_0,.slice A0_1 l0_1.length c0_1]] (by rfl) rfl rfl (by (try simp only [zz26,zz27,zz28]);first | done | rfl | (simp only [zz24,zz25];rfl) | (simp only [zz25];congr;(try simp only [decide_eq_true_eq] at *);omega)) ?_
      with_reducible refine (laws_toParty.calls kj12 a0_0 _ _ l0_1 t560 t561 _ ?side1 ?side2 A58.out).mono ?_
      (case side1=>repeat (first | exact (Kd.C_below HR0_1.out HB.out) | (with_reducible refine zz18 ?_ _) | (with_reducible refine zz19 ?_ _) | (with_reducible refine zz20 ?_)))
      (case side2=>exact HC0_1.out)
      rintro e w178 ⟨v562,rfl,ho0,hb⟩
      refine ⟨_,rfl,?_⟩
      have n0_:=Aside0.mk (Kd.R_elder' (by (with_reducible repeat (first | apply zz12 | apply zz13 | apply zz14));exact HO_548001.out) (Kd.R_base ho0) hb)
      have n1_:=Aside0.mk (Kd.R_elder' (by (with_reducible repeat (first | apply zz12 | apply zz13 | apply zz14));exact HO_553001.out) (Kd.R_base ho0) hb)
      have n2_:=Aside0.mk (Kd.R_elder' (by (with_reducible repeat (first | apply zz12 | apply zz13 | apply zz14));exact HO_559001.out) (Kd.R_base ho0) hb)
      have n3_:=Aside0.mk (Kd.R_lower (Kd.R_new' (Kd.R_new' (Kd.R_new' ho0 (Kd.R_lt (by (with_reducible repeat (first | apply zz12 | apply zz13 | apply zz14));exact HO_548001.out))) (Kd.R_lt (by (with_reducible repeat (first | apply zz12 | apply zz13 | apply zz14));exact HO_553001.out))) (Kd.R_lt (by (with_reducible repeat (first | apply zz12 | apply zz13 | apply zz14));exact HO_559001.out))) (zz5 (by repeat first | exact HB.out | apply zz2 | apply zz0 | apply zz1 | refine zz3 ?_ GE536.out | refine zz3 ?_ GE547.out | refine zz3 ?_ GE552.out | refine zz3 ?_ GE558.out)))
      have n4_:=Aside0.mk (zz11 (g:=gb536) (o:=.cells #[.int .i64 a0_0,.slice A0_1 l0_1.length c0_1] 24 (0,0)) (by (with_reducible repeat (first | refine zz6 ?_ _ | refine zz7 ?_ | refine zz8 ?_ _));exact BK536.out) hb)
      have n5_:=Aside0.mk (zz11 (g:=gb547) (o:=.cells #[.int .i64 t542,.slice Ao24 t543.length co24] 30 (0,0)) (by (with_reducible repeat (first | refine zz6 ?_ _ | refine zz7 ?_ | refine zz8 ?_ _));exact BK547.out) hb)
      have n6_:=Aside0.mk (zz11 (g:=gb552) (o:=.cells #[.int .i64 t548,.slice Ao31 t549.length co31] 30 (0,0)) (by (with_reducible repeat (first | refine zz6 ?_ _ | refine zz7 ?_ | refine zz8 ?_ _));exact BK552.out) hb)
      have n7_:=Aside0.mk (zz11 (g:=gb558) (o:=.cells #[.int .i64 t553,.slice Ao38 t554.length co38] 30 (0,0)) (by (with_reducible repeat (first | refine zz6 ?_ _ | refine zz7 ?_ | refine zz8 ?_ _));exact BK558.out) hb)
      have n8_:=Aside0.mk (zz4 (by repeat first | exact HB.out | apply zz2 | apply zz0 | apply zz1 | refine zz3 ?_ GE536.out | refine zz3 ?_ GE547.out | refine zz3 ?_ GE552.out | refine zz3 ?_ GE558.out) hb)
      clear HO_548001
      clear HO_553001
      clear HO_559001
      clear BK536
      clear BK547
      clear BK552
      clear BK558
      clear HB
      have HO_548001:=n0_
      have HO_553001:=n1_
      have HO_559001:=n2_
      have HO563:=n3_
      have BK536:=n4_
      have BK547:=n5_
      have BK552:=n6_
      have BK558:=n7_
      have HB:=n8_
      clear n0_ n1_ n2_ n3_ n4_ n5_ n6_ n7_ n8_
      (try clear hb)
      (try clear hb2)
      (try clear hk)
      (try clear hi)
      (try clear ho0)
      obtain ⟨Ao179,co179,eo179⟩:=Kd.R_slice HO563.out
      (first | subst eo179 | (injection eo179 with f1_ f2_ f3_;have f4_:=f1_.symm;have f5_:=f3_.symm;clear f1_ f2_ f3_;subst f4_;subst f5_))
      refine hK.out _ _ ⟨(zz9 BK552.out 0).trans rfl,(zz9 BK552.out 1).trans rfl,(zz9 BK536.out 0).trans rfl,(zz9 BK536.out 1).trans rfl⟩ (fun hHeld=>?_)
      clear hK K
      refine norm_ (a':=?_) ?_ ?_
      rotate_left
      ·show Act.put _ (some 51) _=_
       simp only [Act.put,zz21,zz22,zz23,i64_w,i32_w]
       rfl
      refine one_ (i:=3) (N:=some 52) #[T,T,T,T,F] rfl rfl (by kernel_rfl) (by decide) (fun K hK=>?_)
      refine goes_ Try.func16 (by kernel_rfl) rfl #[.agg #[.int .i64 t548,.slice Ao31 t549.length co31],.agg #[.int .i64 t560,.slice Ao179 t561.length co179]] (by rfl) rfl rfl (by (try simp only [zz26,zz27,zz28]);first | done | rfl | (simp only [zz24,zz25];rfl) | (simp only [zz25];congr;(try simp only [decide_eq_true_eq] at *);omega)) ?_
      with_reducible refine (laws_eqParty.calls kj12 t548 _ _ t549 t560 _ _ t561 false _ ?side1 ?side2 ?side3 ?side4 A59.out).mono ?_
      (case side1=>repeat (first | exact (Kd.R_reads' HO_553001.out).2.2 | (with_reducible refine zz18 ?_ _) | (with_reducible refine zz19 ?_ _) | (with_reducible refine zz20 ?_)))
      (case side2=>exact (Kd.R_reads' HO_553001.out).2.1)
      (case side3=>repeat (first | exact (Kd.R_reads' HO563.out).2.2 | (with_reducible refine zz18 ?_ _) | (with_reducible refine zz19 ?_ _) | (with_reducible refine zz20 ?_)))
      (case side4=>exact (Kd.R_reads' HO563.out).2.1)
      rintro e w180 ⟨rfl,hb⟩
      refine ⟨_,rfl,?_⟩
      have n0_:=Aside0.mk (Kd.R_below (by (with_reducible repeat (first | apply zz12 | apply zz13 | apply zz14));exact HO_548001.out) hb)
      have n1_:=Aside0.mk (Kd.R_below (by (with_reducible repeat (first | apply zz12 | apply zz13 | apply zz14));exact HO_553001.out) hb)
      have n2_:=Aside0.mk (Kd.R_below (by (with_reducible repeat (first | apply zz12 | apply zz13 | apply zz14));exact HO_559001.out) hb)
      have n3_:=Aside0.mk (Kd.R_below (by (with_reducible repeat (first | apply zz12 | apply zz13 | apply zz14));exact HO563.out) hb)
      have n4_:=Aside0.mk (zz11 (g:=gb536) (o:=.cells #[.int .i64 a0_0,.slice A0_1 l0_1.length c0_1] 24 (0,0)) (by (with_reducible repeat (first | refine zz6 ?_ _ | refine zz7 ?_ | refine zz8 ?_ _));exact BK536.out) hb)
      have n5_:=Aside0.mk (zz11 (g:=gb547) (o:=.cells #[.int .i64 t542,.slice Ao24 t543.length co24] 30 (0,0)) (by (with_reducible repeat (first | refine zz6 ?_ _ | refine zz7 ?_ | refine zz8 ?_ _));exact BK547.out) hb)
      have n6_:=Aside0.mk (zz11 (g:=gb552) (o:=.cells #[.int .i64 t548,.slice Ao31 t549.length co31] 30 (0,0)) (by (with_reducible repeat (first | refine zz6 ?_ _ | refine zz7 ?_ | refine zz8 ?_ _));exact BK552.out) hb)
      have n7_:=Aside0.mk (zz11 (g:=gb558) (o:=.cells #[.int .i64 t553,.slice Ao38 t554.length co38] 30 (0,0)) (by (with_reducible repeat (first | refine zz6 ?_ _ | refine zz7 ?_ | refine zz8 ?_ _));exact BK558.out) hb)
      have n8_:=Aside0.mk (zz4 (by repeat first | exact HB.out | apply zz2 | apply zz0 | apply zz1 | refine zz3 ?_ GE536.out | refine zz3 ?_ GE547.out | refine zz3 ?_ GE552.out | refine zz3 ?_ GE558.out) hb)
      clear HO_548001
      clear HO_553001
      clear HO_559001
      clear HO563
      clear BK536
      clear BK547
      clear BK552
      clear BK558
      clear HB
      have HO_548001:=n0_
      have HO_553001:=n1_
      have HO_559001:=n2_
      have HO563:=n3_
      have BK536:=n4_
      have BK547:=n5_
      have BK552:=n6_
      have BK558:=n7_
      have HB:=n8_
      clear n0_ n1_ n2_ n3_ n4_ n5_ n6_ n7_ n8_
      (try clear hb)
      (try clear hb2)
      (try clear hk)
      (try clear hi)
      refine hK.out _ _ ⟨(zz9 BK552.out 0).trans rfl,(zz9 BK552.out 1).trans rfl,(zz9 BK536.out 0).trans rfl,(zz9 BK536.out 1).trans rfl⟩ (fun hHeld=>?_)
      clear hK K
      refine norm_ (a':=?_) ?_ ?_
      rotate_left
      ·show Act.put _ (some 52) _=_
       simp only [Act.put,zz21,zz22,zz23,i64_w,i32_w]
       rfl
      refine pure_ (i:=4) (N:=some 53) (v:=?_) (a':=?_) #[T,T,T,T,T] rfl rfl (by kernel_rfl) (fun _ _ _ h=>h) (Or.inl ⟨by rfl,?_⟩) ?_ ?_
      rotate_left
      ·intro w'
       go_simp
       with_reducible rfl
      rotate_left
      ·simp only [Act.put,zz21,zz22,zz23,i64_w,i32_w]
       rfl
      refine done_ (by kernel_rfl) ?_
      try go_wp2
      go_ret
      exact ⟨by first | rfl | (simp [errW_none,errW_some] <;> rfl) | (simp [*,errW_none,errW_some] <;> rfl),by repeat first | exact HB.out | apply zz2 | apply zz0 | apply zz1 | refine zz3 ?_ GE536.out | refine zz3 ?_ GE547.out | refine zz3 ?_ GE552.out | refine zz3 ?_ GE558.out⟩

end Go.Proofs.Ytialimbdkokdcaa.P
