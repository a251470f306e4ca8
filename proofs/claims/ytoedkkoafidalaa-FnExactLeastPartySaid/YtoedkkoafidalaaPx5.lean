-- PRINTED by print.py (a twelfth state) out of the translation. Not trusted: Lean checks it.
import Derived.Test.YtoedkkoafidalaaPx0
import Derived.Test.YtoedkkoafidalaaPx3
import Derived.Test.YtoedkkoafidalaaPx4
import Derived.Test.YtoedkkoafidalaaPx6
import Derived.Test.YtoedkkoafidalaaPx8
namespace Go.Proofs.Ytoedkkoafidalaa.P
open Go.RowKit Go.Proofs.YtoedkkoafidalaaW.PrintWords Go.Proofs.YtoedkkoafidalaaW.PrintLast Go.Proofs.YtoedkkoafidalaaW.PrintMore
attribute [local go_sem] max2_int min2_int max_two min_two max_three min_three max_four min_four   -- for this text's walks alone
set_option linter.unusedVariables false
set_option linter.unusedSimpArgs false

/-! ### spec_LeastParty: function 15 -/
def spec_LeastParty.f (k:Nat) (a0_0:Int) (l0_1:List (S70)):Option (Int × (List (S70)) × Bool):=(spec_paFew.f k a0_0 l0_1).bind fun t217=>(if t217=true then ((spec_paLeast.f k a0_0 l0_1).bind fun bt218=>((spec_paTable.f k bt218.1 bt218.2.1).bind fun t224=>((spec_paOf.f k t224).bind fun bt227=>(some (bt227.1,bt227.2,true))))) else (some (0,([]:List (S70)),false)))
theorem spec_LeastParty.mono:∀ a0 a1 k,LeO (spec_LeastParty.f k a0 a1) (spec_LeastParty.f (k+1) a0 a1):=by
 intro a0 a1 k
 unfold spec_LeastParty.f
 repeat' first
   | (with_reducible exact spec_paFew.mono _ _ _)
   | (with_reducible exact spec_paLeast.mono _ _ _)
   | (with_reducible exact spec_paOf.mono _ _)
   | (with_reducible exact spec_paTable.mono _ _ _)
   | (with_reducible exact LeO.refl _)
   | (with_reducible exact LeO.none _)
   | (with_reducible refine LeO.ite ?_ ?_)
   | (with_reducible refine LeO.bind ?_ (fun _=>?_))
   | exact spec_paFew.mono _ _ _
   | exact spec_paLeast.mono _ _ _
   | exact spec_paOf.mono _ _
   | exact spec_paTable.mono _ _ _
   | exact LeO.none _
   | refine LeO.ite ?_ ?_
   | refine LeO.bind ?_ (fun _=>?_)
set_option maxHeartbeats 8000000 in
set_option maxRecDepth 100000 in
theorem spec_LeastParty.calls (k:Nat) (a0_0:Int) (A0_1:Option Addr) (c0_1:Nat) (l0_1:List (S70)) (r1:Int) (r2:List (S70)) (r3:Bool) (w:World) (hr0_1:Kd.C k70 w A0_1 l0_1.length l0_1) (hc0_1:l0_1.length≤c0_1) (h:spec_LeastParty.f k a0_0 l0_1=some (r1,r2,r3)) :
  Calls Try.prog 15 #[.agg #[.int .i64 a0_0,.slice A0_1 l0_1.length c0_1]] w fun e w'=>∃ v1_:Value,e=.returned (.tuple #[.agg #[.int .i64 r1,v1_],.bool r3])∧Kd.R k70 70 w' w.heap.size (fun _=>True) v1_ r2∧Below w.heap.size w w':=by
 have hu30:=Try.underlying30
 have HR0_1:=zz31 hr0_1
 have HC0_1:=zz31 hc0_1
 clear hr0_1 hc0_1
 have HB:=zz31 (Below.refl w.heap.size w)
 have H:((spec_paFew.f k a0_0 l0_1).bind fun t217=>(if t217=true then ((spec_paLeast.f k a0_0 l0_1).bind fun bt218=>((spec_paTable.f k bt218.1 bt218.2.1).bind fun t224=>((spec_paOf.f k t224).bind fun bt227=>(some (bt227.1,bt227.2,true))))) else (some (0,([]:List (S70)),false))))=some (r1,r2,r3):=h
 clear h
 replace H:=zz30.mp H
 obtain ⟨t217,A20,H⟩:=H
 replace H:(if t217=true then ((spec_paLeast.f k a0_0 l0_1).bind fun bt218=>((spec_paTable.f k bt218.1 bt218.2.1).bind fun t224=>((spec_paOf.f k t224).bind fun bt227=>(some (bt227.1,bt227.2,true))))) else (some (0,([]:List (S70)),false)))=some (r1,r2,r3):=H
 have A2:=zz31 A20
 clear A20
 by_cases c3:t217=true
 ·subst c3
  have H1:((spec_paLeast.f k a0_0 l0_1).bind fun bt218=>((spec_paTable.f k bt218.1 bt218.2.1).bind fun t224=>((spec_paOf.f k t224).bind fun bt227=>(some (bt227.1,bt227.2,true)))))=some (r1,r2,r3):=by rw [if_pos rfl] at H;exact H
  clear H
  have H:=H1
  clear H1
  replace H:=zz30.mp H
  obtain ⟨⟨t218,t219,t222⟩,A40,H⟩:=H
  replace H:((spec_paTable.f k t218 t219).bind fun t224=>((spec_paOf.f k t224).bind fun bt227=>(some (bt227.1,bt227.2,true))))=some (r1,r2,r3):=H
  have A4:=zz31 A40
  clear A40
  replace H:=zz30.mp H
  obtain ⟨t224,A50,H⟩:=H
  replace H:((spec_paOf.f k t224).bind fun bt227=>(some (bt227.1,bt227.2,true)))=some (r1,r2,r3):=H
  have A5:=zz31 A50
  clear A50
  replace H:=zz30.mp H
  obtain ⟨⟨t227,t228⟩,A60,H⟩:=H
  replace H:(some (t227,t228,true))=some (r1,r2,r3):=H
  have A6:=zz31 A60
  clear A60
  simp only [Option.some.injEq,Prod.mk.injEq] at H
  obtain ⟨rfl,rfl,rfl⟩:=H
  go_enter Try.func15,Try.ntmps15
  go_wp2_with (first | ((with_reducible refine gate_dst (N:=1) rfl ?_);refine box_event ?hg (N:=1) ?hd (cs:=#[.int .i64 a0_0,.slice A0_1 l0_1.length c0_1]) (t:=30) ?hr ?_;(case hd=>rfl);(case hg=>rfl);(case hr=>first | (go_simp;done) | (go_simp;rfl));intro gb215 hg w7 hbox hb;have n0_:=zz31 (zz4 (by repeat first | exact HB.out | apply zz2 | apply zz0 | apply zz1) hb);have n1_:=zz31 (hbox);have n2_:=zz31 ((by rw [hg];exact (zz5 (by repeat first | exact HB.out | apply zz2 | apply zz0 | apply zz1)):w.heap.size≤gb215));have n3_:=zz31 ((by rw [hg];exact (zz5 (by repeat first | exact HB.out | apply zz2 | apply zz0 | apply zz1)):w.heap.size≤gb215));clear HB;have HB:=n0_;have BK215:=n1_;have GW215:=n2_;have GE215:=n3_;clear n0_ n1_ n2_ n3_;clear hb hbox hg) | ((with_reducible refine gate_dst (N:=2) rfl ?_);refine box_event ?hg (N:=2) ?hd (cs:=#[.int .i64 0,.slice none 0 0]) (t:=30) ?hr ?_;(case hd=>rfl);(case hg=>rfl);(case hr=>first | (go_simp;done) | (go_simp;rfl));intro gb216 hg w8 hbox hb;have n0_:=zz31 (zz11 (g:=gb215) (o:=.cells #[.int .i64 a0_0,.slice A0_1 l0_1.length c0_1] 30 (0,0)) (by (with_reducible repeat (first | refine zz6 ?_ _ | refine zz7 ?_ | refine zz8 ?_ _));exact BK215.out) hb);have n1_:=zz31 (zz4 (by repeat first | exact HB.out | apply zz2 | apply zz0 | apply zz1 | refine zz3 ?_ GE215.out) hb);have n2_:=zz31 (hbox);have n3_:=zz31 ((by rw [hg];exact (zz5 (by repeat first | exact HB.out | apply zz2 | apply zz0 | apply zz1 | refine zz3 ?_ GE215.out)):w.heap.size≤gb216));have n4_:=zz31 ((by rw [hg];exact (zz5 (by repeat first | exact HB.out | apply zz2 | apply zz0 | apply zz1 | refine zz3 ?_ GE215.out)):w.heap.size≤gb216));have n5_:=zz31 ((by rw [hg];exact Nat.ne_of_lt (blk_lt (g:=gb215) (o:=.cells #[.int .i64 a0_0,.slice A0_1 l0_1.length c0_1] 30 (0,0)) (by (with_reducible repeat (first | refine zz6 ?_ _ | refine zz7 ?_ | refine zz8 ?_ _));exact BK215.out)):gb215 ≠ gb216));have n6_:=zz31 ((by rw [hg];exact Nat.ne_of_gt (blk_lt (g:=gb215) (o:=.cells #[.int .i64 a0_0,.slice A0_1 l0_1.length c0_1] 30 (0,0)) (by (with_reducible repeat (first | refine zz6 ?_ _ | refine zz7 ?_ | refine zz8 ?_ _));exact BK215.out)):gb216 ≠ gb215));clear BK215;clear HB;have BK215:=n0_;have HB:=n1_;have BK216:=n2_;have GW216:=n3_;have GE216:=n4_;have NB215_216:=n5_;have NB216_215:=n6_;clear n0_ n1_ n2_ n3_ n4_ n5_ n6_;clear hb hbox hg;have hnb9:=NB215_216.out;have hnc9:=NB216_215.out;have hcz10_0:w8.cell? ⟨gb215,0,none⟩=some (.int .i64 a0_0):=(zz9 BK215.out 0).trans rfl;have hcz10_1:w8.cell? ⟨gb215,1,none⟩=some (.slice A0_1 l0_1.length c0_1):=(zz9 BK215.out 1).trans rfl;have hfz10_0:=zz10 BK215.out 0;have hfz10_1:=zz10 BK215.out 1) | ((with_reducible refine gate_callee (f:=30) rfl ?_);refine goesL_ (some 7) rfl rfl Try.func30 (by kernel_rfl) rfl #[.agg #[.int .i64 a0_0,.slice A0_1 l0_1.length c0_1]] rfl (by (try simp only [zz26,zz27,zz28]);first | done | rfl | (simp only [zz24,zz25];rfl)) ?_;(with_reducible refine (spec_paFew.calls k a0_0 _ _ l0_1 true _ ?side1 ?side2 A2.out).mono ?_);(case side1=>repeat (first | exact (Kd.C_below HR0_1.out HB.out) | (with_reducible refine zz18 ?_ _) | (with_reducible refine zz19 ?_ _) | (with_reducible refine zz20 ?_)));(case side2=>exact HC0_1.out);rintro e w11 ⟨rfl,hb⟩;refine ⟨_,rfl,?_⟩;have n0_:=zz31 (zz11 (g:=gb215) (o:=.cells #[.int .i64 a0_0,.slice A0_1 l0_1.length c0_1] 30 (0,0)) (by (with_reducible repeat (first | refine zz6 ?_ _ | refine zz7 ?_ | refine zz8 ?_ _));exact BK215.out) hb);have n1_:=zz31 (zz11 (g:=gb216) (o:=.cells #[.int .i64 0,.slice none 0 0] 30 (0,0)) (by (with_reducible repeat (first | refine zz6 ?_ _ | refine zz7 ?_ | refine zz8 ?_ _));exact BK216.out) hb);have n2_:=zz31 (zz4 (by repeat first | exact HB.out | apply zz2 | apply zz0 | apply zz1 | refine zz3 ?_ GE215.out | refine zz3 ?_ GE216.out) hb);clear BK215;clear BK216;clear HB;have BK215:=n0_;have BK216:=n1_;have HB:=n2_;clear n0_ n1_ n2_;(try clear hb);(try clear hb2);(try clear hk);(try clear hi);have hcz12_0:w11.cell? ⟨gb215,0,none⟩=some (.int .i64 a0_0):=(zz9 BK215.out 0).trans rfl;have hcz12_1:w11.cell? ⟨gb215,1,none⟩=some (.slice A0_1 l0_1.length c0_1):=(zz9 BK215.out 1).trans rfl;have hfz12_0:=zz10 BK215.out 0;have hfz12_1:=zz10 BK215.out 1) | ((with_reducible refine gate_callee (f:=31) rfl ?_);refine goesL_ (some 12) rfl rfl Try.func31 (by kernel_rfl) rfl #[.agg #[.int .i64 a0_0,.slice A0_1 l0_1.length c0_1]] rfl (by (try simp only [zz26,zz27,zz28]);first | done | rfl | (simp only [zz24,zz25];rfl)) ?_;(with_reducible refine (spec_paLeast.calls k a0_0 (fun k_=>k_ < w.heap.size) _ _ l0_1 t218 t219 t222 _ ?side1 A4.out).mono ?_);(case side1=>exact Kd.V_mk HC0_1.out (Kd.F_below (Kd.C_F k70_heap HR0_1.out) (by repeat first | exact HB.out | apply zz2 | apply zz0 | apply zz1 | refine zz3 ?_ GE215.out | refine zz3 ?_ GE216.out)));rintro e w13 ⟨v220,rfl,ho0,hb⟩;refine ⟨_,rfl,?_⟩;have n0_:=zz31 (Kd.V_lower (Kd.V_mono (ok':=fun k_=>k_ ≠ gb215∧k_ ≠ gb216) ho0 (fun k_ hk_=>⟨Or.elim hk_ (fun hs_=>fun e_=>Nat.not_le.2 hs_ (by rw [e_];exact GW215.out)) (fun hn_=>(Kd.freshB (g:=gb215) (o:=.cells #[.int .i64 a0_0,.slice A0_1 l0_1.length c0_1] 30 (0,0)) (by (with_reducible repeat (first | refine zz6 ?_ _ | refine zz7 ?_ | refine zz8 ?_ _));exact BK215.out) k_ hn_)),Or.elim hk_ (fun hs_=>fun e_=>Nat.not_le.2 hs_ (by rw [e_];exact GW216.out)) (fun hn_=>(Kd.freshB (g:=gb216) (o:=.cells #[.int .i64 0,.slice none 0 0] 30 (0,0)) (by (with_reducible repeat (first | refine zz6 ?_ _ | refine zz7 ?_ | refine zz8 ?_ _));exact BK216.out) k_ hn_))⟩)) (zz5 (by repeat first | exact HB.out | apply zz2 | apply zz0 | apply zz1 | refine zz3 ?_ GE215.out | refine zz3 ?_ GE216.out)));have n1_:=zz31 (zz11 (g:=gb215) (o:=.cells #[.int .i64 a0_0,.slice A0_1 l0_1.length c0_1] 30 (0,0)) (by (with_reducible repeat (first | refine zz6 ?_ _ | refine zz7 ?_ | refine zz8 ?_ _));exact BK215.out) hb);have n2_:=zz31 (zz11 (g:=gb216) (o:=.cells #[.int .i64 0,.slice none 0 0] 30 (0,0)) (by (with_reducible repeat (first | refine zz6 ?_ _ | refine zz7 ?_ | refine zz8 ?_ _));exact BK216.out) hb);have n3_:=zz31 (zz4 (by repeat first | exact HB.out | apply zz2 | apply zz0 | apply zz1 | refine zz3 ?_ GE215.out | refine zz3 ?_ GE216.out) hb);clear BK215;clear BK216;clear HB;have HO221:=n0_;have BK215:=n1_;have BK216:=n2_;have HB:=n3_;clear n0_ n1_ n2_ n3_;(try clear hb);(try clear hb2);(try clear hk);(try clear hi);(try clear ho0)) | ((with_reducible refine gate_dst (N:=4) rfl ?_);refine box_event ?hg (N:=4) ?hd (cs:=#[.int .i64 0,.slice none 0 0]) (t:=30) ?hr ?_;(case hd=>rfl);(case hg=>rfl);(case hr=>first | (go_simp;done) | (go_simp;rfl));intro gb223 hg w14 hbox hb;have n0_:=zz31 (Kd.V_below (Kd.V_elderB (by (with_reducible repeat (first | apply Kd.V_alloc | apply Kd.V_drewN | apply Kd.V_drew));exact HO221.out) gb223 (Nat.le_of_eq hg.symm)) hb);have n1_:=zz31 (zz11 (g:=gb215) (o:=.cells #[.int .i64 a0_0,.slice A0_1 l0_1.length c0_1] 30 (0,0)) (by (with_reducible repeat (first | refine zz6 ?_ _ | refine zz7 ?_ | refine zz8 ?_ _));exact BK215.out) hb);have n2_:=zz31 (zz11 (g:=gb216) (o:=.cells #[.int .i64 0,.slice none 0 0] 30 (0,0)) (by (with_reducible repeat (first | refine zz6 ?_ _ | refine zz7 ?_ | refine zz8 ?_ _));exact BK216.out) hb);have n3_:=zz31 (zz4 (by repeat first | exact HB.out | apply zz2 | apply zz0 | apply zz1 | refine zz3 ?_ GE215.out | refine zz3 ?_ GE216.out) hb);have n4_:=zz31 (hbox);have n5_:=zz31 ((by rw [hg];exact (zz5 (by repeat first | exact HB.out | apply zz2 | apply zz0 | apply zz1 | refine zz3 ?_ GE215.out | refine zz3 ?_ GE216.out)):w.heap.size≤gb223));have n6_:=zz31 ((by rw [hg];exact (zz5 (by repeat first | exact HB.out | apply zz2 | apply zz0 | apply zz1 | refine zz3 ?_ GE215.out | refine zz3 ?_ GE216.out)):w.heap.size≤gb223));have n7_:=zz31 ((by rw [hg];exact Nat.ne_of_lt (blk_lt (g:=gb215) (o:=.cells #[.int .i64 a0_0,.slice A0_1 l0_1.length c0_1] 30 (0,0)) (by (with_reducible repeat (first | refine zz6 ?_ _ | refine zz7 ?_ | refine zz8 ?_ _));exact BK215.out)):gb215 ≠ gb223));have n8_:=zz31 ((by rw [hg];exact Nat.ne_of_gt (blk_lt (g:=gb215) (o:=.cells #[.int .i64 a0_0,.slice A0_1 l0_1.length c0_1] 30 (0,0)) (by (with_reducible repeat (first | refine zz6 ?_ _ | refine zz7 ?_ | refine zz8 ?_ _));exact BK215.out)):gb223 ≠ gb215));have n9_:=zz31 ((by rw [hg];exact Nat.ne_of_lt (blk_lt (g:=gb216) (o:=.cells #[.int .i64 0,.slice none 0 0] 30 (0,0)) (by (with_reducible repeat (first | refine zz6 ?_ _ | refine zz7 ?_ | refine zz8 ?_ _));exact BK216.out)):gb216 ≠ gb223));have n10_:=zz31 ((by rw [hg];exact Nat.ne_of_gt (blk_lt (g:=gb216) (o:=.cells #[.int .i64 0,.slice none 0 0] 30 (0,0)) (by (with_reducible repeat (first | refine zz6 ?_ _ | refine zz7 ?_ | refine zz8 ?_ _));exact BK216.out)):gb223 ≠ gb216));clear HO221;clear BK215;clear BK216;clear HB;have HO221:=n0_;have BK215:=n1_;have BK216:=n2_;have HB:=n3_;have BK223:=n4_;have GW223:=n5_;have GE223:=n6_;have NB215_223:=n7_;have NB223_215:=n8_;have NB216_223:=n9_;have NB223_216:=n10_;clear n0_ n1_ n2_ n3_ n4_ n5_ n6_ n7_ n8_ n9_ n10_;clear hb hbox hg;have hnb15:=NB223_215.out;have hnc15:=NB215_223.out;have hnb16:=NB223_216.out;have hnc16:=NB216_223.out;have hcz17_0:w14.cell? ⟨gb223,0,none⟩=some (.int .i64 0):=(zz9 BK223.out 0).trans rfl;have hcz17_1:w14.cell? ⟨gb223,1,none⟩=some (.slice none 0 0):=(zz9 BK223.out 1).trans rfl;have hfz17_0:=zz10 BK223.out 0;have hfz17_1:=zz10 BK223.out 1;obtain ⟨Ao18,co18,eo18⟩:=Kd.V_slice HO221.out;subst eo18) | ((with_reducible refine gate_callee (f:=43) rfl ?_);refine goesL_ (some 16) rfl rfl Try.func43 (by kernel_rfl) rfl #[.agg #[.int .i64 t218,.slice Ao18 t219.length co18]] rfl (by (try simp only [zz26,zz27,zz28]);first | done | rfl | (simp only [zz24,zz25];rfl)) ?_;(with_reducible refine (spec_paTable.calls k t218 _ _ t219 t224 _ ?side1 ?side2 A5.out).mono ?_);(case side1=>refine (Kd.V_reads' (e:=70) (base:=w.heap.size) (ok:=fun k_=>((k_ ≠ gb215∧k_ ≠ gb216)∧k_ ≠ gb223)) (n:=t219.length) (c:=co18) ?_).2.2;exact (by (with_reducible repeat (first | apply Kd.V_alloc | apply Kd.V_drewN | apply Kd.V_drew));exact (Kd.V_mono (Kd.V_far (p:=⟨gb223,1,none⟩) (Kd.V_far (p:=⟨gb223,0,none⟩) (Kd.V_mono HO221.out (fun k_ hk=>(⟨hk,hk.2⟩:_∧k_ ≠ gb223))) (fun _ hk=>hk.2) (.int .i64 t218)) (fun _ hk=>hk.2) (.slice Ao18 t219.length co18)) (fun _ h_=>h_.1))));(case side2=>exact (Kd.V_reads' HO221.out).2.1);rintro e w19 ⟨v225,rfl,ho0,hb⟩;refine ⟨_,rfl,?_⟩;have n0_:=zz31 (Kd.V_elder' (by (with_reducible repeat (first | apply Kd.V_alloc | apply Kd.V_drewN | apply Kd.V_drew));exact (Kd.V_mono (Kd.V_far (p:=⟨gb223,1,none⟩) (Kd.V_far (p:=⟨gb223,0,none⟩) (Kd.V_mono HO221.out (fun k_ hk=>(⟨hk,hk.2⟩:_∧k_ ≠ gb223))) (fun _ hk=>hk.2) (.int .i64 t218)) (fun _ hk=>hk.2) (.slice Ao18 t219.length co18)) (fun _ h_=>h_.1))) (Kd.S_base ho0) hb);have n1_:=zz31 (Kd.S_lower ho0 (zz5 (by repeat first | exact HB.out | apply zz2 | apply zz0 | apply zz1 | refine zz3 ?_ GE215.out | refine zz3 ?_ GE216.out | refine zz3 ?_ GE223.out)));have n2_:=zz31 (zz11 (g:=gb215) (o:=.cells #[.int .i64 a0_0,.slice A0_1 l0_1.length c0_1] 30 (0,0)) (by (with_reducible repeat (first | refine zz6 ?_ _ | refine zz7 ?_ | refine zz8 ?_ _));refine blk_far ?_ NB215_223.out _;(with_reducible repeat (first | refine zz6 ?_ _ | refine zz7 ?_ | refine zz8 ?_ _));refine blk_far ?_ NB215_223.out _;(with_reducible repeat (first | refine zz6 ?_ _ | refine zz7 ?_ | refine zz8 ?_ _));exact BK215.out) hb);have n3_:=zz31 (zz11 (g:=gb216) (o:=.cells #[.int .i64 0,.slice none 0 0] 30 (0,0)) (by (with_reducible repeat (first | refine zz6 ?_ _ | refine zz7 ?_ | refine zz8 ?_ _));refine blk_far ?_ NB216_223.out _;(with_reducible repeat (first | refine zz6 ?_ _ | refine zz7 ?_ | refine zz8 ?_ _));refine blk_far ?_ NB216_223.out _;(with_reducible repeat (first | refine zz6 ?_ _ | refine zz7 ?_ | refine zz8 ?_ _));exact BK216.out) hb);have n4_:=zz31 (zz11 (g:=gb223) (o:=.cells #[.int .i64 t218,.slice Ao18 t219.length co18] 30 (0,0)) (by (with_reducible repeat (first | refine zz6 ?_ _ | refine zz7 ?_ | refine zz8 ?_ _));refine blk_put (cs:=#[.int .i64 t218,.slice none 0 0]) ?_ 1 _ rfl;(with_reducible repeat (first | refine zz6 ?_ _ | refine zz7 ?_ | refine zz8 ?_ _));refine blk_put (cs:=#[.int .i64 0,.slice none 0 0]) ?_ 0 _ rfl;(with_reducible repeat (first | refine zz6 ?_ _ | refine zz7 ?_ | refine zz8 ?_ _));exact BK223.out) hb);have n5_:=zz31 (zz4 (by repeat first | exact HB.out | apply zz2 | apply zz0 | apply zz1 | refine zz3 ?_ GE215.out | refine zz3 ?_ GE216.out | refine zz3 ?_ GE223.out) hb);clear HO221;clear BK215;clear BK216;clear BK223;clear HB;have HO221:=n0_;have HO226:=n1_;have BK215:=n2_;have BK216:=n3_;have BK223:=n4_;have HB:=n5_;clear n0_ n1_ n2_ n3_ n4_ n5_;(try clear hb);(try clear hb2);(try clear hk);(try clear hi);(try clear ho0);obtain ⟨Ao20,co20,eo20⟩:=Kd.S_slice HO226.out;subst eo20) | ((with_reducible refine gate_callee (f:=42) rfl ?_);refine goesL_ (some 17) rfl rfl Try.func42 (by kernel_rfl) rfl #[.slice Ao20 t224.length co20] rfl (by (try simp only [zz26,zz27,zz28]);first | done | rfl | (simp only [zz24,zz25];rfl)) ?_;(with_reducible refine (spec_paOf.calls k _ _ t224 t227 t228 _ ?side1 ?side2 A6.out).mono ?_);(case side1=>repeat (first | exact (Kd.S_reads' HO226.out).2.2 | (with_reducible refine zz18 ?_ _) | (with_reducible refine zz19 ?_ _) | (with_reducible refine zz20 ?_)));(case side2=>exact (Kd.S_reads' HO226.out).2.1);rintro e w21 ⟨v229,rfl,ho0,hb⟩;refine ⟨_,rfl,?_⟩;have n0_:=zz31 (Kd.V_elder' (by (with_reducible repeat (first | apply Kd.V_alloc | apply Kd.V_drewN | apply Kd.V_drew));exact HO221.out) (Kd.R_base ho0) hb);have n1_:=zz31 (Kd.S_below (by (with_reducible repeat (first | apply zz15 | apply zz16 | apply zz17));exact HO226.out) hb);have n2_:=zz31 (Kd.R_lower ho0 (zz5 (by repeat first | exact HB.out | apply zz2 | apply zz0 | apply zz1 | refine zz3 ?_ GE215.out | refine zz3 ?_ GE216.out | refine zz3 ?_ GE223.out)));have n3_:=zz31 (zz11 (g:=gb215) (o:=.cells #[.int .i64 a0_0,.slice A0_1 l0_1.length c0_1] 30 (0,0)) (by (with_reducible repeat (first | refine zz6 ?_ _ | refine zz7 ?_ | refine zz8 ?_ _));exact BK215.out) hb);have n4_:=zz31 (zz11 (g:=gb216) (o:=.cells #[.int .i64 0,.slice none 0 0] 30 (0,0)) (by (with_reducible repeat (first | refine zz6 ?_ _ | refine zz7 ?_ | refine zz8 ?_ _));exact BK216.out) hb);have n5_:=zz31 (zz11 (g:=gb223) (o:=.cells #[.int .i64 t218,.slice Ao18 t219.length co18] 30 (0,0)) (by (with_reducible repeat (first | refine zz6 ?_ _ | refine zz7 ?_ | refine zz8 ?_ _));exact BK223.out) hb);have n6_:=zz31 (zz4 (by repeat first | exact HB.out | apply zz2 | apply zz0 | apply zz1 | refine zz3 ?_ GE215.out | refine zz3 ?_ GE216.out | refine zz3 ?_ GE223.out) hb);clear HO221;clear HO226;clear BK215;clear BK216;clear BK223;clear HB;have HO221:=n0_;have HO226:=n1_;have HO230:=n2_;have BK215:=n3_;have BK216:=n4_;have BK223:=n5_;have HB:=n6_;clear n0_ n1_ n2_ n3_ n4_ n5_ n6_;(try clear hb);(try clear hb2);(try clear hk);(try clear hi);(try clear ho0);have hcz22_0:w21.cell? ⟨gb216,0,none⟩=some (.int .i64 0):=(zz9 BK216.out 0).trans rfl;have hcz22_1:w21.cell? ⟨gb216,1,none⟩=some (.slice none 0 0):=(zz9 BK216.out 1).trans rfl;have hfz22_0:=zz10 BK216.out 0;have hfz22_1:=zz10 BK216.out 1;obtain ⟨Ao23,co23,eo23⟩:=Kd.R_slice HO230.out;subst eo23))
  refine bodyPost_ret (results_ct rfl _ _ gb216 30 #[.int .i64 t227,.slice Ao23 t228.length co23] (0,0) _ rfl (by (with_reducible repeat (first | refine zz6 ?_ _ | refine zz7 ?_ | refine zz8 ?_ _));refine blk_put (cs:=#[.int .i64 t227,.slice none 0 0]) ?_ 1 _ rfl;(with_reducible repeat (first | refine zz6 ?_ _ | refine zz7 ?_ | refine zz8 ?_ _));refine blk_put (cs:=#[.int .i64 0,.slice none 0 0]) ?_ 0 _ rfl;(with_reducible repeat (first | refine zz6 ?_ _ | refine zz7 ?_ | refine zz8 ?_ _));exact BK216.out) Try.underlying30 rfl (by kernel_rfl)) rfl ?_
  exact ⟨_,by first | rfl | (simp [errW_none,errW_some] <;> rfl) | (simp [*,errW_none,errW_some] <;> rfl),by (with_reducible repeat (first | apply zz12 | apply zz13 | apply zz14));exact Kd.R_mono (Kd.R_far (p:=⟨gb216,1,none⟩) (Kd.R_far (p:=⟨gb216,0,none⟩) (Kd.R_types HO230.out BK216.out (by decide)) (fun _ hk=>hk.2) (.int .i64 t227)) (fun _ hk=>hk.2) (.slice Ao23 t228.length co23)) (fun _ hk=>trivial),by repeat first | exact HB.out | apply zz2 | apply zz0 | apply zz1 | refine zz3 ?_ GE215.out | refine zz3 ?_ GE216.out | refine zz3 ?_ GE223.out⟩
 ·replace c3:=Bool.eq_false_iff.mpr c3
  subst c3
  have H1:(some (0,([]:List (S70)),false))=some (r1,r2,r3):=by rw [if_neg (show ¬ (false=true) by decide)] at H;exact H
  clear H
  have H:=H1
  clear H1
  simp only [Option.some.injEq,Prod.mk.injEq] at H
  obtain ⟨rfl,rfl,rfl⟩:=H
  go_enter Try.func15,Try.ntmps15
  go_wp2_with (first | ((with_reducible refine gate_dst (N:=1) rfl ?_);refine box_event ?hg (N:=1) ?hd (cs:=#[.int .i64 a0_0,.slice A0_1 l0_1.length c0_1]) (t:=30) ?hr ?_;(case hd=>rfl);(case hg=>rfl);(case hr=>first | (go_simp;done) | (go_simp;rfl));intro gb215 hg w24 hbox hb;have n0_:=zz31 (zz4 (by repeat first | exact HB.out | apply zz2 | apply zz0 | apply zz1) hb);have n1_:=zz31 (hbox);have n2_:=zz31 ((by rw [hg];exact (zz5 (by repeat first | exact HB.out | apply zz2 | apply zz0 | apply zz1)):w.heap.size≤gb215));have n3_:=zz31 ((by rw [hg];exact (zz5 (by repeat first | exact HB.out | apply zz2 | apply zz0 | apply zz1)):w.heap.size≤gb215));clear HB;have HB:=n0_;have BK215:=n1_;have GW215:=n2_;have GE215:=n3_;clear n0_ n1_ n2_ n3_;clear hb hbox hg) | ((with_reducible refine gate_dst (N:=2) rfl ?_);refine box_event ?hg (N:=2) ?hd (cs:=#[.int .i64 0,.slice none 0 0]) (t:=30) ?hr ?_;(case hd=>rfl);(case hg=>rfl);(case hr=>first | (go_simp;done) | (go_simp;rfl));intro gb216 hg w25 hbox hb;have n0_:=zz31 (zz11 (g:=gb215) (o:=.cells #[.int .i64 a0_0,.slice A0_1 l0_1.length c0_1] 30 (0,0)) (by (with_reducible repeat (first | refine zz6 ?_ _ | refine zz7 ?_ | refine zz8 ?_ _));exact BK215.out) hb);have n1_:=zz31 (zz4 (by repeat first | exact HB.out | apply zz2 | apply zz0 | apply zz1 | refine zz3 ?_ GE215.out) hb);have n2_:=zz31 (hbox);have n3_:=zz31 ((by rw [hg];exact (zz5 (by repeat first | exact HB.out | apply zz2 | apply zz0 | apply zz1 | refine zz3 ?_ GE215.out)):w.heap.size≤gb216));have n4_:=zz31 ((by rw [hg];exact (zz5 (by repeat first | exact HB.out | apply zz2 | apply zz0 | apply zz1 | refine zz3 ?_ GE215.out)):w.heap.size≤gb216));have n5_:=zz31 ((by rw [hg];exact Nat.ne_of_lt (blk_lt (g:=gb215) (o:=.cells #[.int .i64 a0_0,.slice A0_1 l0_1.length c0_1] 30 (0,0)) (by (with_reducible repeat (first | refine zz6 ?_ _ | refine zz7 ?_ | refine zz8 ?_ _));exact BK215.out)):gb215 ≠ gb216));have n6_:=zz31 ((by rw [hg];exact Nat.ne_of_gt (blk_lt (g:=gb215) (o:=.cells #[.int .i64 a0_0,.slice A0_1 l0_1.length c0_1] 30 (0,0)) (by (with_reducible repeat (first | refine zz6 ?_ _ | refine zz7 ?_ | refine zz8 ?_ _));exact BK215.out)):gb216 ≠ gb215));clear BK215;clear HB;have BK215:=n0_;have HB:=n1_;have BK216:=n2_;have GW216:=n3_;have GE216:=n4_;have NB215_216:=n5_;have NB216_215:=n6_;clear n0_ n1_ n2_ n3_ n4_ n5_ n6_;clear hb hbox hg;have hnb26:=NB215_216.out;have hnc26:=NB216_215.out;have hcz27_0:w25.cell? ⟨gb215,0,none⟩=some (.int .i64 a0_0):=(zz9 BK215.out 0).trans rfl;have hcz27_1:w25.cell? ⟨gb215,1,none⟩=some (.slice A0_1 l0_1.length c0_1):=(zz9 BK215.out 1).trans rfl;have hfz27_0:=zz10 BK215.out 0;have hfz27_1:=zz10 BK215.out 1) | ((with_reducible refine gate_callee (f:=30) rfl ?_);refine goesL_ (some 7) rfl rfl Try.func30 (by kernel_rfl) rfl #[.agg #[.int .i64 a0_0,.slice A0_1 l0_1.length c0_1]] rfl (by (try simp only [zz26,zz27,zz28]);first | done | rfl | (simp only [zz24,zz25];rfl)) ?_;(with_reducible refine (spec_paFew.calls k a0_0 _ _ l0_1 false _ ?side1 ?side2 A2.out).mono ?_);(case side1=>repeat (first | exact (Kd.C_below HR0_1.out HB.out) | (with_reducible refine zz18 ?_ _) | (with_reducible refine zz19 ?_ _) | (with_reducible refine zz20 ?_)));(case side2=>exact HC0_1.out);rintro e w28 ⟨rfl,hb⟩;refine ⟨_,rfl,?_⟩;have n0_:=zz31 (zz11 (g:=gb215) (o:=.cells #[.int .i64 a0_0,.slice A0_1 l0_1.length c0_1] 30 (0,0)) (by (with_reducible repeat (first | refine zz6 ?_ _ | refine zz7 ?_ | refine zz8 ?_ _));exact BK215.out) hb);have n1_:=zz31 (zz11 (g:=gb216) (o:=.cells #[.int .i64 0,.slice none 0 0] 30 (0,0)) (by (with_reducible repeat (first | refine zz6 ?_ _ | refine zz7 ?_ | refine zz8 ?_ _));exact BK216.out) hb);have n2_:=zz31 (zz4 (by repeat first | exact HB.out | apply zz2 | apply zz0 | apply zz1 | refine zz3 ?_ GE215.out | refine zz3 ?_ GE216.out) hb);clear BK215;clear BK216;clear HB;have BK215:=n0_;have BK216:=n1_;have HB:=n2_;clear n0_ n1_ n2_;(try clear hb);(try clear hb2);(try clear hk);(try clear hi);have hcz29_0:w28.cell? ⟨gb216,0,none⟩=some (.int .i64 0):=(zz9 BK216.out 0).trans rfl;have hcz29_1:w28.cell? ⟨gb216,1,none⟩=some (.slice none 0 0):=(zz9 BK216.out 1).trans rfl;have hfz29_0:=zz10 BK216.out 0;have hfz29_1:=zz10 BK216.out 1))
  refine bodyPost_ret (results_ct rfl _ _ gb216 30 #[.int .i64 0,.slice none 0 0] (0,0) _ rfl (by (with_reducible repeat (first | refine zz6 ?_ _ | refine zz7 ?_ | refine zz8 ?_ _));refine blk_put (cs:=#[.int .i64 0,.slice none 0 0]) ?_ 1 _ rfl;(with_reducible repeat (first | refine zz6 ?_ _ | refine zz7 ?_ | refine zz8 ?_ _));refine blk_put (cs:=#[.int .i64 0,.slice none 0 0]) ?_ 0 _ rfl;(with_reducible repeat (first | refine zz6 ?_ _ | refine zz7 ?_ | refine zz8 ?_ _));exact BK216.out) Try.underlying30 rfl (by kernel_rfl)) rfl ?_
  exact ⟨_,by first | rfl | (simp [errW_none,errW_some] <;> rfl) | (simp [*,errW_none,errW_some] <;> rfl),by first | exact Kd.R_nil _ _ _ _ _ | exact Kd.N_nil _ _ _ _ _ | exact Kd.V_nil _ _ _ _ _ | exact Kd.Q_nil _ _ _ _ _ | exact Kd.S_nil _ _ _ _ _,by repeat first | exact HB.out | apply zz2 | apply zz0 | apply zz1 | refine zz3 ?_ GE215.out | refine zz3 ?_ GE216.out⟩

/-! ### impl_LeastParty: function 16 -/
def impl_LeastParty.f (k:Nat) (a0_0:Int) (l0_1:List (S70)):Option (Int × (List (S70)) × Bool):=(impl_areRenamed.f k a0_0 l0_1).bind fun t280=>(if t280=true then ((impl_least.f k a0_0 l0_1).bind fun bt281=>(some (bt281.1,bt281.2,true))) else (some (0,([]:List (S70)),false)))
theorem impl_LeastParty.mono:∀ a0 a1 k,LeO (impl_LeastParty.f k a0 a1) (impl_LeastParty.f (k+1) a0 a1):=by
 intro a0 a1 k
 unfold impl_LeastParty.f
 repeat' first
   | (with_reducible exact impl_areRenamed.mono _ _ _)
   | (with_reducible exact impl_least.mono _ _ _)
   | (with_reducible exact LeO.refl _)
   | (with_reducible exact LeO.none _)
   | (with_reducible refine LeO.ite ?_ ?_)
   | (with_reducible refine LeO.bind ?_ (fun _=>?_))
   | exact impl_areRenamed.mono _ _ _
   | exact impl_least.mono _ _ _
   | exact LeO.none _
   | refine LeO.ite ?_ ?_
   | refine LeO.bind ?_ (fun _=>?_)
set_option maxHeartbeats 8000000 in
set_option maxRecDepth 100000 in
theorem impl_LeastParty.calls (k:Nat) (a0_0:Int) (A0_1:Option Addr) (c0_1:Nat) (l0_1:List (S70)) (r1:Int) (r2:List (S70)) (r3:Bool) (w:World) (hr0_1:Kd.C k70 w A0_1 l0_1.length l0_1) (hc0_1:l0_1.length≤c0_1) (h:impl_LeastParty.f k a0_0 l0_1=some (r1,r2,r3)) :
  Calls Try.prog 16 #[.agg #[.int .i64 a0_0,.slice A0_1 l0_1.length c0_1]] w fun e w'=>∃ v1_:Value,e=.returned (.tuple #[.agg #[.int .i64 r1,v1_],.bool r3])∧Kd.R k70 70 w' w.heap.size (fun _=>True) v1_ r2∧Below w.heap.size w w':=by
 have hu30:=Try.underlying30
 have HR0_1:=zz31 hr0_1
 have HC0_1:=zz31 hc0_1
 clear hr0_1 hc0_1
 have HB:=zz31 (Below.refl w.heap.size w)
 have H:((impl_areRenamed.f k a0_0 l0_1).bind fun t280=>(if t280=true then ((impl_least.f k a0_0 l0_1).bind fun bt281=>(some (bt281.1,bt281.2,true))) else (some (0,([]:List (S70)),false))))=some (r1,r2,r3):=h
 clear h
 replace H:=zz30.mp H
 obtain ⟨t280,A20,H⟩:=H
 replace H:(if t280=true then ((impl_least.f k a0_0 l0_1).bind fun bt281=>(some (bt281.1,bt281.2,true))) else (some (0,([]:List (S70)),false)))=some (r1,r2,r3):=H
 have A2:=zz31 A20
 clear A20
 by_cases c3:t280=true
 ·subst c3
  have H1:((impl_least.f k a0_0 l0_1).bind fun bt281=>(some (bt281.1,bt281.2,true)))=some (r1,r2,r3):=by rw [if_pos rfl] at H;exact H
  clear H
  have H:=H1
  clear H1
  replace H:=zz30.mp H
  obtain ⟨⟨t281,t282⟩,A40,H⟩:=H
  replace H:(some (t281,t282,true))=some (r1,r2,r3):=H
  have A4:=zz31 A40
  clear A40
  simp only [Option.some.injEq,Prod.mk.injEq] at H
  obtain ⟨rfl,rfl,rfl⟩:=H
  go_enter Try.func16,Try.ntmps16
  go_wp2_with (first | ((with_reducible refine gate_dst (N:=1) rfl ?_);refine box_event ?hg (N:=1) ?hd (cs:=#[.int .i64 a0_0,.slice A0_1 l0_1.length c0_1]) (t:=30) ?hr ?_;(case hd=>rfl);(case hg=>rfl);(case hr=>first | (go_simp;done) | (go_simp;rfl));intro gb278 hg w5 hbox hb;have n0_:=zz31 (zz4 (by repeat first | exact HB.out | apply zz2 | apply zz0 | apply zz1) hb);have n1_:=zz31 (hbox);have n2_:=zz31 ((by rw [hg];exact (zz5 (by repeat first | exact HB.out | apply zz2 | apply zz0 | apply zz1)):w.heap.size≤gb278));have n3_:=zz31 ((by rw [hg];exact (zz5 (by repeat first | exact HB.out | apply zz2 | apply zz0 | apply zz1)):w.heap.size≤gb278));clear HB;have HB:=n0_;have BK278:=n1_;have GW278:=n2_;have GE278:=n3_;clear n0_ n1_ n2_ n3_;clear hb hbox hg) | ((with_reducible refine gate_dst (N:=2) rfl ?_);refine box_event ?hg (N:=2) ?hd (cs:=#[.int .i64 0,.slice none 0 0]) (t:=30) ?hr ?_;(case hd=>rfl);(case hg=>rfl);(case hr=>first | (go_simp;done) | (go_simp;rfl));intro gb279 hg w6 hbox hb;have n0_:=zz31 (zz11 (g:=gb278) (o:=.cells #[.int .i64 a0_0,.slice A0_1 l0_1.length c0_1] 30 (0,0)) (by (with_reducible repeat (first | refine zz6 ?_ _ | refine zz7 ?_ | refine zz8 ?_ _));exact BK278.out) hb);have n1_:=zz31 (zz4 (by repeat first | exact HB.out | apply zz2 | apply zz0 | apply zz1 | refine zz3 ?_ GE278.out) hb);have n2_:=zz31 (hbox);have n3_:=zz31 ((by rw [hg];exact (zz5 (by repeat first | exact HB.out | apply zz2 | apply zz0 | apply zz1 | refine zz3 ?_ GE278.out)):w.heap.size≤gb279));have n4_:=zz31 ((by rw [hg];exact (zz5 (by repeat first | exact HB.out | apply zz2 | apply zz0 | apply zz1 | refine zz3 ?_ GE278.out)):w.heap.size≤gb279));have n5_:=zz31 ((by rw [hg];exact Nat.ne_of_lt (blk_lt (g:=gb278) (o:=.cells #[.int .i64 a0_0,.slice A0_1 l0_1.length c0_1] 30 (0,0)) (by (with_reducible repeat (first | refine zz6 ?_ _ | refine zz7 ?_ | refine zz8 ?_ _));exact BK278.out)):gb278 ≠ gb279));have n6_:=zz31 ((by rw [hg];exact Nat.ne_of_gt (blk_lt (g:=gb278) (o:=.cells #[.int .i64 a0_0,.slice A0_1 l0_1.length c0_1] 30 (0,0)) (by (with_reducible repeat (first | refine zz6 ?_ _ | refine zz7 ?_ | refine zz8 ?_ _));exact BK278.out)):gb279 ≠ gb278));clear BK278;clear HB;have BK278:=n0_;have HB:=n1_;have BK279:=n2_;have GW279:=n3_;have GE279:=n4_;have NB278_279:=n5_;have NB279_278:=n6_;clear n0_ n1_ n2_ n3_ n4_ n5_ n6_;clear hb hbox hg;have hnb7:=NB278_279.out;have hnc7:=NB279_278.out;have hcz8_0:w6.cell? ⟨gb278,0,none⟩=some (.int .i64 a0_0):=(zz9 BK278.out 0).trans rfl;have hcz8_1:w6.cell? ⟨gb278,1,none⟩=some (.slice A0_1 l0_1.length c0_1):=(zz9 BK278.out 1).trans rfl;have hfz8_0:=zz10 BK278.out 0;have hfz8_1:=zz10 BK278.out 1) | ((with_reducible refine gate_callee (f:=34) rfl ?_);refine goesL_ (some 5) rfl rfl Try.func34 (by kernel_rfl) rfl #[.agg #[.int .i64 a0_0,.slice A0_1 l0_1.length c0_1]] rfl (by (try simp only [zz26,zz27,zz28]);first | done | rfl | (simp only [zz24,zz25];rfl)) ?_;(with_reducible refine (impl_areRenamed.calls k a0_0 _ _ l0_1 true _ ?side1 ?side2 A2.out).mono ?_);(case side1=>repeat (first | exact (Kd.C_below HR0_1.out HB.out) | (with_reducible refine zz18 ?_ _) | (with_reducible refine zz19 ?_ _) | (with_reducible refine zz20 ?_)));(case side2=>exact HC0_1.out);rintro e w9 ⟨rfl,hb⟩;refine ⟨_,rfl,?_⟩;have n0_:=zz31 (zz11 (g:=gb278) (o:=.cells #[.int .i64 a0_0,.slice A0_1 l0_1.length c0_1] 30 (0,0)) (by (with_reducible repeat (first | refine zz6 ?_ _ | refine zz7 ?_ | refine zz8 ?_ _));exact BK278.out) hb);have n1_:=zz31 (zz11 (g:=gb279) (o:=.cells #[.int .i64 0,.slice none 0 0] 30 (0,0)) (by (with_reducible repeat (first | refine zz6 ?_ _ | refine zz7 ?_ | refine zz8 ?_ _));exact BK279.out) hb);have n2_:=zz31 (zz4 (by repeat first | exact HB.out | apply zz2 | apply zz0 | apply zz1 | refine zz3 ?_ GE278.out | refine zz3 ?_ GE279.out) hb);clear BK278;clear BK279;clear HB;have BK278:=n0_;have BK279:=n1_;have HB:=n2_;clear n0_ n1_ n2_;(try clear hb);(try clear hb2);(try clear hk);(try clear hi);have hcz10_0:w9.cell? ⟨gb278,0,none⟩=some (.int .i64 a0_0):=(zz9 BK278.out 0).trans rfl;have hcz10_1:w9.cell? ⟨gb278,1,none⟩=some (.slice A0_1 l0_1.length c0_1):=(zz9 BK278.out 1).trans rfl;have hfz10_0:=zz10 BK278.out 0;have hfz10_1:=zz10 BK278.out 1) | ((with_reducible refine gate_callee (f:=36) rfl ?_);refine goesL_ (some 9) rfl rfl Try.func36 (by kernel_rfl) rfl #[.agg #[.int .i64 a0_0,.slice A0_1 l0_1.length c0_1]] rfl (by (try simp only [zz26,zz27,zz28]);first | done | rfl | (simp only [zz24,zz25];rfl)) ?_;(with_reducible refine (impl_least.calls k a0_0 _ _ l0_1 t281 t282 _ ?side1 ?side2 A4.out).mono ?_);(case side1=>repeat (first | exact (Kd.C_below HR0_1.out HB.out) | (with_reducible refine zz18 ?_ _) | (with_reducible refine zz19 ?_ _) | (with_reducible refine zz20 ?_)));(case side2=>exact HC0_1.out);rintro e w11 ⟨v283,rfl,ho0,hb⟩;refine ⟨_,rfl,?_⟩;have n0_:=zz31 (Kd.R_lower ho0 (zz5 (by repeat first | exact HB.out | apply zz2 | apply zz0 | apply zz1 | refine zz3 ?_ GE278.out | refine zz3 ?_ GE279.out)));have n1_:=zz31 (zz11 (g:=gb278) (o:=.cells #[.int .i64 a0_0,.slice A0_1 l0_1.length c0_1] 30 (0,0)) (by (with_reducible repeat (first | refine zz6 ?_ _ | refine zz7 ?_ | refine zz8 ?_ _));exact BK278.out) hb);have n2_:=zz31 (zz11 (g:=gb279) (o:=.cells #[.int .i64 0,.slice none 0 0] 30 (0,0)) (by (with_reducible repeat (first | refine zz6 ?_ _ | refine zz7 ?_ | refine zz8 ?_ _));exact BK279.out) hb);have n3_:=zz31 (zz4 (by repeat first | exact HB.out | apply zz2 | apply zz0 | apply zz1 | refine zz3 ?_ GE278.out | refine zz3 ?_ GE279.out) hb);clear BK278;clear BK279;clear HB;have HO284:=n0_;have BK278:=n1_;have BK279:=n2_;have HB:=n3_;clear n0_ n1_ n2_ n3_;(try clear hb);(try clear hb2);(try clear hk);(try clear hi);(try clear ho0);have hcz12_0:w11.cell? ⟨gb279,0,none⟩=some (.int .i64 0):=(zz9 BK279.out 0).trans rfl;have hcz12_1:w11.cell? ⟨gb279,1,none⟩=some (.slice none 0 0):=(zz9 BK279.out 1).trans rfl;have hfz12_0:=zz10 BK279.out 0;have hfz12_1:=zz10 BK279.out 1;obtain ⟨Ao13,co13,eo13⟩:=Kd.R_slice HO284.out;subst eo13))
  refine bodyPost_ret (results_ct rfl _ _ gb279 30 #[.int .i64 t281,.slice Ao13 t282.length co13] (0,0) _ rfl (by (with_reducible repeat (first | refine zz6 ?_ _ | refine zz7 ?_ | refine zz8 ?_ _));refine blk_put (cs:=#[.int .i64 t281,.slice none 0 0]) ?_ 1 _ rfl;(with_reducible repeat (first | refine zz6 ?_ _ | refine zz7 ?_ | refine zz8 ?_ _));refine blk_put (cs:=#[.int .i64 0,.slice none 0 0]) ?_ 0 _ rfl;(with_reducible repeat (first | refine zz6 ?_ _ | refine zz7 ?_ | refine zz8 ?_ _));exact BK279.out) Try.underlying30 rfl (by kernel_rfl)) rfl ?_
  exact ⟨_,by first | rfl | (simp [errW_none,errW_some] <;> rfl) | (simp [*,errW_none,errW_some] <;> rfl),by (with_reducible repeat (first | apply zz12 | apply zz13 | apply zz14));exact Kd.R_mono (Kd.R_far (p:=⟨gb279,1,none⟩) (Kd.R_far (p:=⟨gb279,0,none⟩) (Kd.R_types HO284.out BK279.out (by decide)) (fun _ hk=>hk.2) (.int .i64 t281)) (fun _ hk=>hk.2) (.slice Ao13 t282.length co13)) (fun _ hk=>trivial),by repeat first | exact HB.out | apply zz2 | apply zz0 | apply zz1 | refine zz3 ?_ GE278.out | refine zz3 ?_ GE279.out⟩
 ·replace c3:=Bool.eq_false_iff.mpr c3
  subst c3
  have H1:(some (0,([]:List (S70)),false))=some (r1,r2,r3):=by rw [if_neg (show ¬ (false=true) by decide)] at H;exact H
  clear H
  have H:=H1
  clear H1
  simp only [Option.some.injEq,Prod.mk.injEq] at H
  obtain ⟨rfl,rfl,rfl⟩:=H
  go_enter Try.func16,Try.ntmps16
  go_wp2_with (first | ((with_reducible refine gate_dst (N:=1) rfl ?_);refine box_event ?hg (N:=1) ?hd (cs:=#[.int .i64 a0_0,.slice A0_1 l0_1.length c0_1]) (t:=30) ?hr ?_;(case hd=>rfl);(case hg=>rfl);(case hr=>first | (go_simp;done) | (go_simp;rfl));intro gb278 hg w14 hbox hb;have n0_:=zz31 (zz4 (by repeat first | exact HB.out | apply zz2 | apply zz0 | apply zz1) hb);have n1_:=zz31 (hbox);have n2_:=zz31 ((by rw [hg];exact (zz5 (by repeat first | exact HB.out | apply zz2 | apply zz0 | apply zz1)):w.heap.size≤gb278));have n3_:=zz31 ((by rw [hg];exact (zz5 (by repeat first | exact HB.out | apply zz2 | apply zz0 | apply zz1)):w.heap.size≤gb278));clear HB;have HB:=n0_;have BK278:=n1_;have GW278:=n2_;have GE278:=n3_;clear n0_ n1_ n2_ n3_;clear hb hbox hg) | ((with_reducible refine gate_dst (N:=2) rfl ?_);refine box_event ?hg (N:=2) ?hd (cs:=#[.int .i64 0,.slice none 0 0]) (t:=30) ?hr ?_;(case hd=>rfl);(case hg=>rfl);(case hr=>first | (go_simp;done) | (go_simp;rfl));intro gb279 hg w15 hbox hb;have n0_:=zz31 (zz11 (g:=gb278) (o:=.cells #[.int .i64 a0_0,.slice A0_1 l0_1.length c0_1] 30 (0,0)) (by (with_reducible repeat (first | refine zz6 ?_ _ | refine zz7 ?_ | refine zz8 ?_ _));exact BK278.out) hb);have n1_:=zz31 (zz4 (by repeat first | exact HB.out | apply zz2 | apply zz0 | apply zz1 | refine zz3 ?_ GE278.out) hb);have n2_:=zz31 (hbox);have n3_:=zz31 ((by rw [hg];exact (zz5 (by repeat first | exact HB.out | apply zz2 | apply zz0 | apply zz1 | refine zz3 ?_ GE278.out)):w.heap.size≤gb279));have n4_:=zz31 ((by rw [hg];exact (zz5 (by repeat first | exact HB.out | apply zz2 | apply zz0 | apply zz1 | refine zz3 ?_ GE278.out)):w.heap.size≤gb279));have n5_:=zz31 ((by rw [hg];exact Nat.ne_of_lt (blk_lt (g:=gb278) (o:=.cells #[.int .i64 a0_0,.slice A0_1 l0_1.length c0_1] 30 (0,0)) (by (with_reducible repeat (first | refine zz6 ?_ _ | refine zz7 ?_ | refine zz8 ?_ _));exact BK278.out)):gb278 ≠ gb279));have n6_:=zz31 ((by rw [hg];exact Nat.ne_of_gt (blk_lt (g:=gb278) (o:=.cells #[.int .i64 a0_0,.slice A0_1 l0_1.length c0_1] 30 (0,0)) (by (with_reducible repeat (first | refine zz6 ?_ _ | refine zz7 ?_ | refine zz8 ?_ _));exact BK278.out)):gb279 ≠ gb278));clear BK278;clear HB;have BK278:=n0_;have HB:=n1_;have BK279:=n2_;have GW279:=n3_;have GE279:=n4_;have NB278_279:=n5_;have NB279_278:=n6_;clear n0_ n1_ n2_ n3_ n4_ n5_ n6_;clear hb hbox hg;have hnb16:=NB278_279.out;have hnc16:=NB279_278.out;have hcz17_0:w15.cell? ⟨gb278,0,none⟩=some (.int .i64 a0_0):=(zz9 BK278.out 0).trans rfl;have hcz17_1:w15.cell? ⟨gb278,1,none⟩=some (.slice A0_1 l0_1.length c0_1):=(zz9 BK278.out 1).trans rfl;have hfz17_0:=zz10 BK278.out 0;have hfz17_1:=zz10 BK278.out 1) | ((with_reducible refine gate_callee (f:=34) rfl ?_);refine goesL_ (some 5) rfl rfl Try.func34 (by kernel_rfl) rfl #[.agg #[.int .i64 a0_0,.slice A0_1 l0_1.length c0_1]] rfl (by (try simp only [zz26,zz27,zz28]);first | done | rfl | (simp only [zz24,zz25];rfl)) ?_;(with_reducible refine (impl_areRenamed.calls k a0_0 _ _ l0_1 false _ ?side1 ?side2 A2.out).mono ?_);(case side1=>repeat (first | exact (Kd.C_below HR0_1.out HB.out) | (with_reducible refine zz18 ?_ _) | (with_reducible refine zz19 ?_ _) | (with_reducible refine zz20 ?_)));(case side2=>exact HC0_1.out);rintro e w18 ⟨rfl,hb⟩;refine ⟨_,rfl,?_⟩;have n0_:=zz31 (zz11 (g:=gb278) (o:=.cells #[.int .i64 a0_0,.slice A0_1 l0_1.length c0_1] 30 (0,0)) (by (with_reducible repeat (first | refine zz6 ?_ _ | refine zz7 ?_ | refine zz8 ?_ _));exact BK278.out) hb);have n1_:=zz31 (zz11 (g:=gb279) (o:=.cells #[.int .i64 0,.slice none 0 0] 30 (0,0)) (by (with_reducible repeat (first | refine zz6 ?_ _ | refine zz7 ?_ | refine zz8 ?_ _));exact BK279.out) hb);have n2_:=zz31 (zz4 (by repeat first | exact HB.out | apply zz2 | apply zz0 | apply zz1 | refine zz3 ?_ GE278.out | refine zz3 ?_ GE279.out) hb);clear BK278;clear BK279;clear HB;have BK278:=n0_;have BK279:=n1_;have HB:=n2_;clear n0_ n1_ n2_;(try clear hb);(try clear hb2);(try clear hk);(try clear hi);have hcz19_0:w18.cell? ⟨gb279,0,none⟩=some (.int .i64 0):=(zz9 BK279.out 0).trans rfl;have hcz19_1:w18.cell? ⟨gb279,1,none⟩=some (.slice none 0 0):=(zz9 BK279.out 1).trans rfl;have hfz19_0:=zz10 BK279.out 0;have hfz19_1:=zz10 BK279.out 1))
  refine bodyPost_ret (results_ct rfl _ _ gb279 30 #[.int .i64 0,.slice none 0 0] (0,0) _ rfl (by (with_reducible repeat (first | refine zz6 ?_ _ | refine zz7 ?_ | refine zz8 ?_ _));refine blk_put (cs:=#[.int .i64 0,.slice none 0 0]) ?_ 1 _ rfl;(with_reducible repeat (first | refine zz6 ?_ _ | refine zz7 ?_ | refine zz8 ?_ _));refine blk_put (cs:=#[.int .i64 0,.slice none 0 0]) ?_ 0 _ rfl;(with_reducible repeat (first | refine zz6 ?_ _ | refine zz7 ?_ | refine zz8 ?_ _));exact BK279.out) Try.underlying30 rfl (by kernel_rfl)) rfl ?_
  exact ⟨_,by first | rfl | (simp [errW_none,errW_some] <;> rfl) | (simp [*,errW_none,errW_some] <;> rfl),by first | exact Kd.R_nil _ _ _ _ _ | exact Kd.N_nil _ _ _ _ _ | exact Kd.V_nil _ _ _ _ _ | exact Kd.Q_nil _ _ _ _ _ | exact Kd.S_nil _ _ _ _ _,by repeat first | exact HB.out | apply zz2 | apply zz0 | apply zz1 | refine zz3 ?_ GE278.out | refine zz3 ?_ GE279.out⟩

/-! ### laws_markPairS: function 44 -/
def laws_markPairS.l0:Nat→List (S70)→Int→Int→Option (Int × (List (S70)))
 | 0,_,_,_=>none
 | k+1,x0,x1,x5=>if x5 < (x0.length:Int) then (if 0≤x5 then ((some (x0.set (x5:Int).toNat (⟨x1,(rd_T70 x0 x5).f1⟩:S70):List (S70))).bind fun y285=>(laws_markPairS.l0 k (y285.set (x5:Int).toNat (⟨(rd_T70 y285 x5).f0,wrap64 (x1+1)⟩:S70)) (wrap64 ((wrap64 (x1+1))+1)) (wrap64 (x5+1)))) else (none)) else (some (x1,x0))
def laws_markPairS.f (k:Nat) (l0:List (S70)) (a1:Int):Option (Int × (List (S70))):=laws_markPairS.l0 k l0 a1 0
theorem laws_markPairS.mono_l:∀ k,(∀ y0 y1 y2,LeO (laws_markPairS.l0 k y0 y1 y2) (laws_markPairS.l0 (k+1) y0 y1 y2))
 | 0=>fun _ _ _ r h=>by simp [laws_markPairS.l0] at h
 | k+1=>by
  have ih0:=laws_markPairS.mono_l k
  ·intro y0 y1 y2
   unfold laws_markPairS.l0
   repeat' first
   | (with_reducible exact ih0 _ _ _)
   | (with_reducible exact LeO.refl _)
   | (with_reducible exact LeO.none _)
   | (with_reducible refine LeO.ite ?_ ?_)
   | (with_reducible refine LeO.bind ?_ (fun _=>?_))
   | exact ih0 _ _ _
   | exact LeO.none _
   | refine LeO.ite ?_ ?_
   | refine LeO.bind ?_ (fun _=>?_)
theorem laws_markPairS.mono:∀ a0 a1 k,LeO (laws_markPairS.f k a0 a1) (laws_markPairS.f (k+1) a0 a1):=by
 intro a0 a1 k
 have ih0:=laws_markPairS.mono_l k
 unfold laws_markPairS.f
 repeat' first
   | (with_reducible exact ih0 _ _ _)
   | (with_reducible exact LeO.refl _)
   | (with_reducible exact LeO.none _)
   | (with_reducible refine LeO.ite ?_ ?_)
   | (with_reducible refine LeO.bind ?_ (fun _=>?_))
   | exact ih0 _ _ _
   | exact LeO.none _
   | refine LeO.ite ?_ ?_
   | refine LeO.bind ?_ (fun _=>?_)
set_option maxHeartbeats 8000000 in
set_option maxRecDepth 100000 in
theorem laws_markPairS.calls (k:Nat) (P0_:Nat→Prop) (u9000_:Value) (l0:List (S70)) (a1:Int) (r1:Int) (r2:List (S70)) (w0 w:World) (hB:Below w0.heap.size w0 w) (ho0:Kd.R k70 70 w w0.heap.size P0_ u9000_ l0) (h:laws_markPairS.f k l0 a1=some (r1,r2)) :
  Calls Try.prog 44 #[u9000_,.int .i64 a1] w fun e w'=>e=.returned (.int .i64 r1)∧Kd.R k70 70 w' w0.heap.size (fun k_=>(P0_ k_ ∨ w.heap.size≤k_)) u9000_ r2∧Below w0.heap.size w0 w'∧Kept w w' (fun k_=>P0_ k_):=by
 have HO0:=zz31 (show Kd.R k70 70 w w0.heap.size (fun k_=>(P0_ k_ ∨ w.heap.size≤k_)) u9000_ l0 from Kd.R_mono ho0 (fun k_ hk=>(.inl hk)))
 have HK:=zz31 (Kept.refl w (fun k_=>P0_ k_))
 have HW0:=zz31 hB.size
 have HB:=zz31 hB
 clear hB
 have H:(laws_markPairS.l0 k l0 a1 0)=some (r1,r2):=h
 clear h
 have H':=zz31 H
 clear H
 go_enter Try.func44,Try.ntmps44
 go_wp2
 go_loopg [1,5] k (fun kq v1 v5 w'=>∃ (x0_1:List (S70)) (x1_1:Int) (x5_1:Int),v1=.int .i64 x1_1∧v5=.int .i64 x5_1∧Aside0 (laws_markPairS.l0 kq x0_1 x1_1 x5_1=some (r1,r2))∧Aside0 (kq≤k)∧Aside0 (Kd.R k70 70 w' w0.heap.size (fun k_=>(P0_ k_ ∨ w.heap.size≤k_)) u9000_ x0_1)∧Aside0 (Kept w w' (fun k_=>P0_ k_))∧Aside0 (Below w0.heap.size w0 w'))
 case atStart=>exact ⟨(l0),(a1),(0),(by first | rfl | (simp;done) | (simp [*];done)),(by first | rfl | (simp;done) | (simp [*];done)),H',⟨Nat.le_refl _⟩,⟨by (with_reducible repeat (first | apply zz12 | apply zz13 | apply zz14));exact HO0.out⟩,⟨by repeat (first | (with_reducible first | exact HK.out | apply Kept.alloc | apply Kept.drewN | apply Kept.drew) | exact HK.out)⟩,⟨by repeat first | exact HB.out | apply zz2 | apply zz0 | apply zz1⟩⟩
 case round =>
  clear H'
  try clear p2
  obtain ⟨x0_1,x1_1,x5_1,rfl,rfl,HA,HK1,HO_0,HK,HB⟩:=hrel
  cases gk with
  | zero=>exact absurd HA.out (by simp [laws_markPairS.l0])
  | succ k1 =>
   have H:=HA.out
   clear HA
   simp only [laws_markPairS.l0] at H
   by_cases c3:x5_1 < (x0_1.length:Int)
   ·rw [if_pos c3] at H
    have c3b0:decide (x5_1 < (x0_1.length:Int))=true:=decide_eq_true c3
    clear c3
    by_cases c4:0≤x5_1
    ·rw [if_pos c4] at H
     have c4b0:decide (0≤x5_1)=true:=decide_eq_true c4
     clear c4
     obtain ⟨y285,hy285⟩:∃ y_:List (S70),y_=(x0_1.set (x5_1:Int).toNat (⟨x1_1,(rd_T70 x0_1 x5_1).f1⟩:S70)):=⟨_,rfl⟩
     replace H:(laws_markPairS.l0 k1 (y285.set (x5_1:Int).toNat (⟨(rd_T70 y285 x5_1).f0,wrap64 (x1_1+1)⟩:S70)) (wrap64 ((wrap64 (x1_1+1))+1)) (wrap64 (x5_1+1)))=some (r1,r2):=by first | (rw [hy285];with_reducible exact H) | (have H2_:=(Option.bind_some _ _).symm.trans H;rw [hy285];with_reducible exact H2_) | (have H2_:=(Option.bind_some _ _).symm.trans H;with_reducible exact H2_) | with_reducible exact H | (rw [hy285];exact H) | exact H
     have Ny285:=zz31 hy285
     clear hy285
     obtain ⟨y286,hy286⟩:∃ y_:List (S70),y_=(y285.set (x5_1:Int).toNat (⟨(rd_T70 y285 x5_1).f0,wrap64 (x1_1+1)⟩:S70)):=⟨_,rfl⟩
     replace H:(laws_markPairS.l0 k1 y286 (wrap64 ((wrap64 (x1_1+1))+1)) (wrap64 (x5_1+1)))=some (r1,r2):=by first | (rw [hy286];with_reducible exact H) | (have H2_:=(Option.bind_some _ _).symm.trans H;rw [hy286];with_reducible exact H2_) | (have H2_:=(Option.bind_some _ _).symm.trans H;with_reducible exact H2_) | with_reducible exact H | (rw [hy286];exact H) | exact H
     have Ny286:=zz31 hy286
     clear hy286
     have H':=zz31 H
     clear H
     obtain ⟨Ao7,co7,eo7⟩:=Kd.R_slice HO_0.out
     subst eo7
     have p5:0≤(x5_1:Int):=zz29 (by first | (with_reducible assumption) | assumption)
     have q5:(x5_1:Int) < ((x0_1.length:Int):Int):=zz29 (by first | (with_reducible assumption) | assumption)
     obtain ⟨go5,co5,eo5,gb5,gl5,cl5,HG5⟩:=Kd.R_form HO_0.out (by omega)
     (first | cases eo5 | (injection eo5 with ea_ en_ ec_;(first | subst ea_ | (injection ea_ with ea_;subst ea_));subst ec_;clear en_))
     have GB5:=zz31 gb5
     have GG5:=zz31 HG5
     clear gb5 gl5 HG5
     have HMgo5:=zz31 (show (P0_ go5 ∨ w.heap.size≤go5) from (HO_0.out.1 _ rfl))
     obtain ⟨ce5,hcl5,hM5,hcc5,hfr5⟩:=Kd.R_elem HO_0.out z70 (x5_1:Int) p5 q5
     obtain rfl:=k70_openM hM5
     have hx5_0:wr.cell? ⟨go5,(x5_1:Int).toNat * 2,none⟩=some (.int .i64 ((rd_T70 x0_1 x5_1).f0)):=hcc5 0 _ rfl
     have hx5_1:wr.cell? ⟨go5,(x5_1:Int).toNat * 2+1,none⟩=some (.int .i64 ((rd_T70 x0_1 x5_1).f1)):=hcc5 1 _ rfl
     have hf5_0:wr.frozen? ⟨go5,(x5_1:Int).toNat * 2,none⟩=false:=hfr5 0
     have hf5_1:wr.frozen? ⟨go5,(x5_1:Int).toNat * 2+1,none⟩=false:=hfr5 1
     clear hcl5 hcc5 hfr5 hM5
     replace p5:=eq_true p5
     replace q5:=eq_true q5
     have HX8:=zz31 (show Kd.R k70 70 wr w0.heap.size (fun k_=>(P0_ k_ ∨ w.heap.size≤k_)) (.slice (some ⟨go5,0,none⟩) x0_1.length co7) x0_1 from (by (with_reducible repeat (first | apply zz12 | apply zz13 | apply zz14));exact HO_0.out))
     obtain ⟨ce8,hcl8,hM8,hcc8,hfr8⟩:=Kd.R_elem HX8.out z70 (x5_1:Int) (zz29 (by first | (with_reducible assumption) | assumption)) (by have h_:(x5_1:Int) < ((x0_1.length:Int):Int):=zz29 (by first | (with_reducible assumption) | assumption);first | exact h_ | (have e_:=(Kd.R_reads' HO_0.out).1;omega) | simpa using h_)
     obtain rfl:=k70_openM hM8
     have HP8:=Kd.R_seg HX8.out (x5_1:Int) (zz29 (by first | (with_reducible assumption) | assumption)) (by have h_:(x5_1:Int) < ((x0_1.length:Int):Int):=zz29 (by first | (with_reducible assumption) | assumption);first | exact h_ | (have e_:=(Kd.R_reads' HO_0.out).1;omega) | simpa using h_) (seg:=[.int .i64 x1_1]) (j:=0) hcl8 hcc8 (show 1≤2 from by decide) (x':=(⟨x1_1,(rd_T70 x0_1 x5_1).f1⟩:S70)) (k70_mkM _ _ _ (⟨x1_1,(rd_T70 x0_1 x5_1).f1⟩:S70) ) (fun _ hk=>hk)
     have hx8_0:=hcc8 0 _ rfl
     (try simp only [show (k70).sz=2 from rfl,Nat.mul_one,Nat.add_zero] at hx8_0)
     have hf8_0:=hfr8 0
     (try simp only [show (k70).sz=2 from rfl,Nat.mul_one,Nat.add_zero] at hf8_0)
     clear hcl8 hcc8 hfr8 hM8
     go_wp2_with (first | ((with_reducible refine gate_store (t:=3) (p:=16) rfl ?_);refine store_event (t:=3) (p:=16) (v:=?vo_w9) (w1:=(wr.setCell ⟨go5,(x5_1:Int).toNat * 2,none⟩ (.int .i64 x1_1))) ?hg ?ho ?hn ?hr ?_;(case ho=>rfl);(case hg=>rfl);(case hn=>rfl);(case hr=>first | (go_simp;done) | (go_simp;rfl));intro w9 hw;have hg:wr.grownBy w9 (some go5):=(by rw [hw];exact HP8.2);have hp_:Kd.R k70 70 w9 w0.heap.size (fun k_=>(P0_ k_ ∨ w.heap.size≤k_)) (.slice (some ⟨go5,0,none⟩) x0_1.length co7) y285:=(by rw [hw,Ny285.out];exact HP8.1);clear HP8;have n0_:=zz31 (hp_);have n1_:=zz31 ((by rw [hw];exact zz3 (HB.out) GB5.out:Below w0.heap.size w0 w9));have n2_:=zz31 (Kept.of_grown (S:=(fun k_=>P0_ k_)) hg (by repeat (first | (with_reducible first | exact HK.out | apply Kept.alloc | apply Kept.drewN | apply Kept.drew) | exact HK.out)) (fun k_ e_=>(HO_0.out.1 k_ e_)));clear HO_0;clear HB;clear HK;have HO_0:=n0_;have HB:=n1_;have HK:=n2_;clear n0_ n1_ n2_;clear hg hw hp_;have p6:0≤(x5_1:Int):=zz29 (by first | (with_reducible assumption) | assumption);have q6:(x5_1:Int) < ((x0_1.length:Int):Int):=zz29 (by first | (with_reducible assumption) | assumption);obtain ⟨ce6,hcl6,hM6,hcc6,hfr6⟩:=Kd.R_elem HO_0.out z70 (x5_1:Int) p6 q6;obtain rfl:=k70_openM hM6;have hx6_0:w9.cell? ⟨go5,(x5_1:Int).toNat * 2,none⟩=some (.int .i64 ((rd_T70 y285 x5_1).f0)):=hcc6 0 _ rfl;have hx6_1:w9.cell? ⟨go5,(x5_1:Int).toNat * 2+1,none⟩=some (.int .i64 ((rd_T70 y285 x5_1).f1)):=hcc6 1 _ rfl;have hf6_0:w9.frozen? ⟨go5,(x5_1:Int).toNat * 2,none⟩=false:=hfr6 0;have hf6_1:w9.frozen? ⟨go5,(x5_1:Int).toNat * 2+1,none⟩=false:=hfr6 1;clear hcl6 hcc6 hfr6 hM6;replace p6:=eq_true p6;replace q6:=eq_true q6;have HX10:=zz31 (show Kd.R k70 70 w9 w0.heap.size (fun k_=>(P0_ k_ ∨ w.heap.size≤k_)) (.slice (some ⟨go5,0,none⟩) x0_1.length co7) y285 from (by (with_reducible repeat (first | apply zz12 | apply zz13 | apply zz14));exact HO_0.out));obtain ⟨ce10,hcl10,hM10,hcc10,hfr10⟩:=Kd.R_elem HX10.out z70 (x5_1:Int) (zz29 (by first | (with_reducible assumption) | assumption)) (by have h_:(x5_1:Int) < ((x0_1.length:Int):Int):=zz29 (by first | (with_reducible assumption) | assumption);first | exact h_ | (have e_:=(Kd.R_reads' HO_0.out).1;omega) | simpa using h_);obtain rfl:=k70_openM hM10;have HP10:=Kd.R_seg HX10.out (x5_1:Int) (zz29 (by first | (with_reducible assumption) | assumption)) (by have h_:(x5_1:Int) < ((x0_1.length:Int):Int):=zz29 (by first | (with_reducible assumption) | assumption);first | exact h_ | (have e_:=(Kd.R_reads' HO_0.out).1;omega) | simpa using h_) (seg:=[.int .i64 (wrap64 (x1_1+1))]) (j:=1) hcl10 hcc10 (show 2≤2 from by decide) (x':=(⟨(rd_T70 y285 x5_1).f0,wrap64 (x1_1+1)⟩:S70)) (k70_mkM _ _ _ (⟨(rd_T70 y285 x5_1).f0,wrap64 (x1_1+1)⟩:S70) ) (fun _ hk=>hk);have hx10_1:=hcc10 1 _ rfl;(try simp only [show (k70).sz=2 from rfl,Nat.mul_one,Nat.add_zero] at hx10_1);have hf10_1:=hfr10 1;(try simp only [show (k70).sz=2 from rfl,Nat.mul_one,Nat.add_zero] at hf10_1);clear hcl10 hcc10 hfr10 hM10) | ((with_reducible refine gate_store (t:=3) (p:=23) rfl ?_);refine store_event (t:=3) (p:=23) (v:=?vo_w11) (w1:=(w9.setCell ⟨go5,(x5_1:Int).toNat * 2+1,none⟩ (.int .i64 (wrap64 (x1_1+1))))) ?hg ?ho ?hn ?hr ?_;(case ho=>rfl);(case hg=>rfl);(case hn=>rfl);(case hr=>first | (go_simp;done) | (go_simp;rfl));intro w11 hw;have hg:w9.grownBy w11 (some go5):=(by rw [hw];exact HP10.2);have hp_:Kd.R k70 70 w11 w0.heap.size (fun k_=>(P0_ k_ ∨ w.heap.size≤k_)) (.slice (some ⟨go5,0,none⟩) x0_1.length co7) y286:=(by rw [hw,Ny286.out];exact HP10.1);clear HP10;have n0_:=zz31 (hp_);have n1_:=zz31 ((by rw [hw];exact zz3 (HB.out) GB5.out:Below w0.heap.size w0 w11));have n2_:=zz31 (Kept.of_grown (S:=(fun k_=>P0_ k_)) hg (by repeat (first | (with_reducible first | exact HK.out | apply Kept.alloc | apply Kept.drewN | apply Kept.drew) | exact HK.out)) (fun k_ e_=>(HO_0.out.1 k_ e_)));clear HO_0;clear HB;clear HK;have HO_0:=n0_;have HB:=n1_;have HK:=n2_;clear n0_ n1_ n2_;clear hg hw hp_))
     go_roundg k1
     case measure=>have:=HK1.out;omega
     case rel=>exact ⟨(y286),(wrap64 ((wrap64 (x1_1+1))+1)),(wrap64 (x5_1+1)),(by first | rfl | (simp;done) | (simp [*];done)),(by first | rfl | (simp;done) | (simp [*];done)),H',⟨by have:=HK1.out;omega⟩,⟨by (with_reducible repeat (first | apply zz12 | apply zz13 | apply zz14));exact HO_0.out⟩,⟨by repeat (first | (with_reducible first | exact HK.out | apply Kept.alloc | apply Kept.drewN | apply Kept.drew) | exact HK.out)⟩,⟨by repeat first | exact HB.out | apply zz2 | apply zz0 | apply zz1⟩⟩
    ·rw [if_neg c4] at H
     exact absurd H (by simp)
   ·rw [if_neg c3] at H
    have c3b0:decide (x5_1 < (x0_1.length:Int))=false:=decide_eq_false c3
    clear c3
    simp only [Option.some.injEq,Prod.mk.injEq] at H
    obtain ⟨rfl,rfl⟩:=H
    obtain ⟨Ao12,co12,eo12⟩:=Kd.R_slice HO_0.out
    subst eo12
    go_wp2
    go_ret
    exact ⟨by first | rfl | (simp [errW_none,errW_some] <;> rfl) | (simp [*,errW_none,errW_some] <;> rfl),by (with_reducible repeat (first | apply zz12 | apply zz13 | apply zz14));exact HO_0.out,by repeat first | exact HB.out | apply zz2 | apply zz0 | apply zz1,by repeat (first | (with_reducible first | exact HK.out | apply Kept.alloc | apply Kept.drewN | apply Kept.drew) | exact HK.out)⟩

/-! ### laws_markParty: function 17 -/
def laws_markParty.f (k:Nat) (a0_0:Int) (l0_1:List (S70)) (a1:Int):Option (Int × (List (S70))):=(laws_markPairS.f k l0_1 a1).bind fun bt288=>(some (bt288.1,bt288.2))
theorem laws_markParty.mono:∀ a0 a1 a2 k,LeO (laws_markParty.f k a0 a1 a2) (laws_markParty.f (k+1) a0 a1 a2):=by
 intro a0 a1 a2 k
 unfold laws_markParty.f
 repeat' first
   | (with_reducible exact laws_markPairS.mono _ _ _)
   | (with_reducible exact LeO.refl _)
   | (with_reducible exact LeO.none _)
   | (with_reducible refine LeO.ite ?_ ?_)
   | (with_reducible refine LeO.bind ?_ (fun _=>?_))
   | exact laws_markPairS.mono _ _ _
   | exact LeO.none _
   | refine LeO.ite ?_ ?_
   | refine LeO.bind ?_ (fun _=>?_)
set_option maxHeartbeats 8000000 in
set_option maxRecDepth 100000 in
theorem laws_markParty.calls (k:Nat) (a0_0:Int) (P0_1_:Nat→Prop) (u9000_:Value) (l0_1:List (S70)) (a1:Int) (r1:Int) (r2:List (S70)) (w0 w:World) (hB:Below w0.heap.size w0 w) (ho0_1:Kd.R k70 70 w w0.heap.size P0_1_ u9000_ l0_1) (h:laws_markParty.f k a0_0 l0_1 a1=some (r1,r2)) :
  Calls Try.prog 17 #[.agg #[.int .i64 a0_0,u9000_],.int .i64 a1] w fun e w'=>e=.returned (.int .i64 r1)∧Kd.R k70 70 w' w0.heap.size (fun k_=>(P0_1_ k_ ∨ w.heap.size≤k_)) u9000_ r2∧Below w0.heap.size w0 w'∧Kept w w' (fun k_=>P0_1_ k_):=by
 have hu30:=Try.underlying30
 have HO0_1:=zz31 (show Kd.R k70 70 w w0.heap.size (fun k_=>(P0_1_ k_ ∨ w.heap.size≤k_)) u9000_ l0_1 from Kd.R_mono ho0_1 (fun k_ hk=>(.inl hk)))
 have HK:=zz31 (Kept.refl w (fun k_=>P0_1_ k_))
 have HW0:=zz31 hB.size
 have HB:=zz31 hB
 clear hB
 have H:((laws_markPairS.f k l0_1 a1).bind fun bt288=>(some (bt288.1,bt288.2)))=some (r1,r2):=h
 clear h
 replace H:=zz30.mp H
 obtain ⟨⟨t288,t289⟩,A30,H⟩:=H
 replace H:(some (t288,t289))=some (r1,r2):=H
 have A3:=zz31 A30
 clear A30
 simp only [Option.some.injEq,Prod.mk.injEq] at H
 obtain ⟨rfl,rfl⟩:=H
 obtain ⟨Ao4,co4,eo4⟩:=Kd.R_slice HO0_1.out
 subst eo4
 go_enter Try.func17,Try.ntmps17
 go_wp2_with (first | ((with_reducible refine gate_dst (N:=2) rfl ?_);refine box_event ?hg (N:=2) ?hd (cs:=#[.int .i64 a0_0,.slice Ao4 l0_1.length co4]) (t:=30) ?hr ?_;(case hd=>rfl);(case hg=>rfl);(case hr=>first | (go_simp;done) | (go_simp;rfl));intro gb287 hg w5 hbox hb;have n0_:=zz31 (Kd.R_below (by (with_reducible repeat (first | apply zz12 | apply zz13 | apply zz14));exact HO0_1.out) hb);have n1_:=zz31 (Kept.below (S:=(fun k_=>P0_1_ k_)) (by repeat (first | (with_reducible first | exact HK.out | apply Kept.alloc | apply Kept.drewN | apply Kept.drew) | exact HK.out)) hb);have n2_:=zz31 (zz4 (by repeat first | exact HB.out | apply zz2 | apply zz0 | apply zz1) hb);have n3_:=zz31 (hbox);have n4_:=zz31 ((by rw [hg];exact (by first | exact HK.out.1 | exact (show Kept w _ (fun k_=>P0_1_ k_) from by repeat (first | (with_reducible first | exact HK.out | apply Kept.alloc | apply Kept.drewN | apply Kept.drew) | exact HK.out)).1):w.heap.size≤gb287));have n5_:=zz31 ((by rw [hg];exact (zz5 (by repeat first | exact HB.out | apply zz2 | apply zz0 | apply zz1)):w0.heap.size≤gb287));clear HO0_1;clear HK;clear HB;have HO0_1:=n0_;have HK:=n1_;have HB:=n2_;have BK287:=n3_;have GW287:=n4_;have GE287:=n5_;clear n0_ n1_ n2_ n3_ n4_ n5_;clear hb hbox hg;have hcz6_0:w5.cell? ⟨gb287,0,none⟩=some (.int .i64 a0_0):=(zz9 BK287.out 0).trans rfl;have hcz6_1:w5.cell? ⟨gb287,1,none⟩=some (.slice Ao4 l0_1.length co4):=(zz9 BK287.out 1).trans rfl;have hfz6_0:=zz10 BK287.out 0;have hfz6_1:=zz10 BK287.out 1) | ((with_reducible refine gate_callee (f:=44) rfl ?_);refine goesL_ (some 8) rfl rfl Try.func44 (by kernel_rfl) rfl #[.slice Ao4 l0_1.length co4,.int .i64 a1] rfl (by (try simp only [zz26,zz27,zz28]);first | done | rfl | (simp only [zz24,zz25];rfl)) ?_;(with_reducible refine (laws_markPairS.calls k (fun k_=>some k_=(.slice Ao4 l0_1.length co4:Value).ownBlock) (.slice Ao4 l0_1.length co4) l0_1 a1 t288 t289 w0 _ ?side1 ?side2 A3.out).mono ?_);(case side1=>repeat first | exact HB.out | apply zz2 | apply zz0 | apply zz1 | refine zz3 ?_ GE287.out);(case side2=>exact Kd.R_tight rfl HO0_1.out);rintro e w7 ⟨rfl,hy0,hb,hkp⟩;refine ⟨_,rfl,?_⟩;have n0_:=zz31 (Kd.R_reok rfl hy0 (fun k_ e_=>HO0_1.out.1 k_ e_));(first | have n1_:=zz31 (blk_kept BK287.out hkp (fun hs_=>(fun e_=>(Kd.R_ne HO0_1.out BK287.out (by decide)) e_) hs_)) | have n1_:=zz31 (blk_kept (by (with_reducible repeat (first | refine zz6 ?_ _ | refine zz7 ?_ | refine zz8 ?_ _));exact BK287.out) hkp (fun hs_=>(fun e_=>(Kd.R_ne HO0_1.out BK287.out (by decide)) e_) hs_)));have n2_:=zz31 (Kept.then_ (S:=(fun k_=>P0_1_ k_)) (by repeat (first | (with_reducible first | exact HK.out | apply Kept.alloc | apply Kept.drewN | apply Kept.drew | refine Kept.setCell ?_ (.inr GW287.out) _) | exact HK.out)) hkp (fun k_ hs_=>(fun e_=>(HO0_1.out.1 k_ e_.symm)) hs_));have n3_:=zz31 (hb);clear HO0_1;clear BK287;clear HK;clear HB;have HO0_1:=n0_;have BK287:=n1_;have HK:=n2_;have HB:=n3_;clear n0_ n1_ n2_ n3_;(try clear hb);(try clear hkp);(try clear hy0)))
 go_ret
 exact ⟨by first | rfl | (simp [errW_none,errW_some] <;> rfl) | (simp [*,errW_none,errW_some] <;> rfl),by (with_reducible repeat (first | apply zz12 | apply zz13 | apply zz14));exact HO0_1.out,by repeat first | exact HB.out | apply zz2 | apply zz0 | apply zz1 | refine zz3 ?_ GE287.out,by repeat (first | (with_reducible first | exact HK.out | apply Kept.alloc | apply Kept.drewN | apply Kept.drew | refine Kept.setCell ?_ (.inr GW287.out) _) | exact HK.out)⟩

/-! ### laws_heldPairS: function 45 -/
def laws_heldPairS.l0:Nat→List (S70)→Int→Int→Option (Int)
 | 0,_,_,_=>none
 | k+1,x0,x1,x5=>if x5 < (x0.length:Int) then (if 0≤x5 then (if ((rd_T70 x0 x5).f0)=x1 then (if ((rd_T70 x0 x5).f1)=(wrap64 (x1+1)) then (laws_heldPairS.l0 k x0 (wrap64 ((wrap64 (x1+1))+1)) (wrap64 (x5+1))) else (some (-1))) else (some (-1))) else (none)) else (some x1)
def laws_heldPairS.f (k:Nat) (l0:List (S70)) (a1:Int):Option (Int):=laws_heldPairS.l0 k l0 a1 0
theorem laws_heldPairS.mono_l:∀ k,(∀ y0 y1 y2,LeO (laws_heldPairS.l0 k y0 y1 y2) (laws_heldPairS.l0 (k+1) y0 y1 y2))
 | 0=>fun _ _ _ r h=>by simp [laws_heldPairS.l0] at h
 | k+1=>by
  have ih0:=laws_heldPairS.mono_l k
  ·intro y0 y1 y2
   unfold laws_heldPairS.l0
   repeat' first
   | (with_reducible exact ih0 _ _ _)
   | (with_reducible exact LeO.refl _)
   | (with_reducible exact LeO.none _)
   | (with_reducible refine LeO.ite ?_ ?_)
   | (with_reducible refine LeO.bind ?_ (fun _=>?_))
   | exact ih0 _ _ _
   | exact LeO.none _
   | refine LeO.ite ?_ ?_
   | refine LeO.bind ?_ (fun _=>?_)
theorem laws_heldPairS.mono:∀ a0 a1 k,LeO (laws_heldPairS.f k a0 a1) (laws_heldPairS.f (k+1) a0 a1):=by
 intro a0 a1 k
 have ih0:=laws_heldPairS.mono_l k
 unfold laws_heldPairS.f
 repeat' first
   | (with_reducible exact ih0 _ _ _)
   | (with_reducible exact LeO.refl _)
   | (with_reducible exact LeO.none _)
   | (with_reducible refine LeO.ite ?_ ?_)
   | (with_reducible refine LeO.bind ?_ (fun _=>?_))
   | exact ih0 _ _ _
   | exact LeO.none _
   | refine LeO.ite ?_ ?_
   | refine LeO.bind ?_ (fun _=>?_)
set_option maxHeartbeats 8000000 in
set_option maxRecDepth 100000 in
theorem laws_heldPairS.calls (k:Nat) (A0:Option Addr) (c0:Nat) (l0:List (S70)) (a1:Int) (r:Int) (w:World) (hr0:Kd.C k70 w A0 l0.length l0) (hc0:l0.length≤c0) (h:laws_heldPairS.f k l0 a1=some r) :
  Calls Try.prog 45 #[.slice A0 l0.length c0,.int .i64 a1] w fun e w'=>e=.returned (.int .i64 r)∧Drawn0 w w':=by
 have HR0:=zz31 hr0
 have HC0:=zz31 hc0
 clear hr0 hc0
 have H:(laws_heldPairS.l0 k l0 a1 0)=some r:=h
 clear h
 have H':=zz31 H
 clear H
 go_enter Try.func45,Try.ntmps45
 go_wp2
 go_loopg [1,5] k (fun kq v1 v5 w'=>∃ (x1_1:Int) (x5_1:Int),v1=.int .i64 x1_1∧v5=.int .i64 x5_1∧Aside0 (laws_heldPairS.l0 kq l0 x1_1 x5_1=some r)∧Aside0 (kq≤k)∧Drawn0 w w')
 case atStart=>exact ⟨(a1),(0),(by first | rfl | (simp;done) | (simp [*];done)),(by first | rfl | (simp;done) | (simp [*];done)),H',⟨Nat.le_refl _⟩,by repeat (first | exact Drawn0.refl _ | apply Drawn0.step)⟩
 case round =>
  clear H'
  try clear p2
  obtain ⟨x1_1,x5_1,rfl,rfl,HA,HK1,⟨m1,rfl⟩⟩:=hrel
  cases gk with
  | zero=>exact absurd HA.out (by simp [laws_heldPairS.l0])
  | succ k1 =>
   have H:=HA.out
   clear HA
   simp only [laws_heldPairS.l0] at H
   by_cases c3:x5_1 < (l0.length:Int)
   ·rw [if_pos c3] at H
    have c3b0:decide (x5_1 < (l0.length:Int))=true:=decide_eq_true c3
    clear c3
    by_cases c4:0≤x5_1
    ·rw [if_pos c4] at H
     have c4b0:decide (0≤x5_1)=true:=decide_eq_true c4
     clear c4
     by_cases c5:((rd_T70 l0 x5_1).f0)=x1_1
     ·rw [if_pos c5] at H
      have c5b0:(((rd_T70 l0 x5_1).f0) == x1_1)=true:=beq_iff_eq.mpr c5
      have c5b1:(((rd_T70 l0 x5_1).f0) != x1_1)=false:=bne_eq_false_iff_eq.mpr c5
      clear c5
      by_cases c6:((rd_T70 l0 x5_1).f1)=(wrap64 (x1_1+1))
      ·rw [if_pos c6] at H
       have c6b0:(((rd_T70 l0 x5_1).f1) == (wrap64 (x1_1+1)))=true:=beq_iff_eq.mpr c6
       have c6b1:(((rd_T70 l0 x5_1).f1) != (wrap64 (x1_1+1)))=false:=bne_eq_false_iff_eq.mpr c6
       clear c6
       have H':=zz31 H
       clear H
       have p290:0≤(x5_1:Int):=zz29 (by first | (with_reducible assumption) | assumption)
       have q290:x5_1 < (l0.length:Int):=zz29 (by first | (with_reducible assumption) | assumption)
       obtain ⟨ad290,e290,hx290_0,hx290_1⟩:=at_T70 HR0.out x5_1 p290 q290
       cases e290
       replace p290:=eq_true p290
       replace q290:=eq_true q290
       have p291:0≤(x5_1:Int):=zz29 (by first | (with_reducible assumption) | assumption)
       have q291:x5_1 < (l0.length:Int):=zz29 (by first | (with_reducible assumption) | assumption)
       obtain ⟨ad291,e291,hx291_0,hx291_1⟩:=at_T70 HR0.out x5_1 p291 q291
       obtain rfl:ad290=ad291:=(by injection e291)
       replace p291:=eq_true p291
       replace q291:=eq_true q291
       go_wp2
       go_roundg k1
       case measure=>have:=HK1.out;omega
       case rel=>exact ⟨(wrap64 ((wrap64 (x1_1+1))+1)),(wrap64 (x5_1+1)),(by first | rfl | (simp;done) | (simp [*];done)),(by first | rfl | (simp;done) | (simp [*];done)),H',⟨by have:=HK1.out;omega⟩,by repeat (first | exact Drawn0.refl _ | apply Drawn0.step)⟩
      ·rw [if_neg c6] at H
       have c6b0:(((rd_T70 l0 x5_1).f1) == (wrap64 (x1_1+1)))=false:=beq_eq_false_iff_ne.mpr c6
       have c6b1:(((rd_T70 l0 x5_1).f1) != (wrap64 (x1_1+1)))=true:=bne_iff_ne.mpr c6
       obtain rfl:=Option.some.inj H
       have p290:0≤(x5_1:Int):=zz29 (by first | (with_reducible assumption) | assumption)
       have q290:x5_1 < (l0.length:Int):=zz29 (by first | (with_reducible assumption) | assumption)
       obtain ⟨ad290,e290,hx290_0,hx290_1⟩:=at_T70 HR0.out x5_1 p290 q290
       cases e290
       replace p290:=eq_true p290
       replace q290:=eq_true q290
       have p291:0≤(x5_1:Int):=zz29 (by first | (with_reducible assumption) | assumption)
       have q291:x5_1 < (l0.length:Int):=zz29 (by first | (with_reducible assumption) | assumption)
       obtain ⟨ad291,e291,hx291_0,hx291_1⟩:=at_T70 HR0.out x5_1 p291 q291
       obtain rfl:ad290=ad291:=(by injection e291)
       replace p291:=eq_true p291
       replace q291:=eq_true q291
       go_wp2
       go_ret
       exact ⟨by first | rfl | (simp;done) | (simp [*];done),by repeat (first | exact Drawn0.refl _ | apply Drawn0.step)⟩
     ·rw [if_neg c5] at H
      have c5b0:(((rd_T70 l0 x5_1).f0) == x1_1)=false:=beq_eq_false_iff_ne.mpr c5
      have c5b1:(((rd_T70 l0 x5_1).f0) != x1_1)=true:=bne_iff_ne.mpr c5
      obtain rfl:=Option.some.inj H
      have p290:0≤(x5_1:Int):=zz29 (by first | (with_reducible assumption) | assumption)
      have q290:x5_1 < (l0.length:Int):=zz29 (by first | (with_reducible assumption) | assumption)
      obtain ⟨ad290,e290,hx290_0,hx290_1⟩:=at_T70 HR0.out x5_1 p290 q290
      cases e290
      replace p290:=eq_true p290
      replace q290:=eq_true q290
      go_wp2
      go_ret
      exact ⟨by first | rfl | (simp;done) | (simp [*];done),by repeat (first | exact Drawn0.refl _ | apply Drawn0.step)⟩
    ·rw [if_neg c4] at H
     exact absurd H (by simp)
   ·rw [if_neg c3] at H
    have c3b0:decide (x5_1 < (l0.length:Int))=false:=decide_eq_false c3
    clear c3
    obtain rfl:=Option.some.inj H
    go_wp2
    go_ret
    exact ⟨by first | rfl | (simp;done) | (simp [*];done),by repeat (first | exact Drawn0.refl _ | apply Drawn0.step)⟩

/-! ### laws_heldParty: function 18 -/
def laws_heldParty.f (k:Nat) (a0_0:Int) (l0_1:List (S70)) (a1:Int):Option (Int):=(laws_heldPairS.f k l0_1 a1).bind fun t293=>(if t293 < 0 then (some (-1)) else (some t293))
theorem laws_heldParty.mono:∀ a0 a1 a2 k,LeO (laws_heldParty.f k a0 a1 a2) (laws_heldParty.f (k+1) a0 a1 a2):=by
 intro a0 a1 a2 k
 unfold laws_heldParty.f
 repeat' first
   | (with_reducible exact laws_heldPairS.mono _ _ _)
   | (with_reducible exact LeO.refl _)
   | (with_reducible exact LeO.none _)
   | (with_reducible refine LeO.ite ?_ ?_)
   | (with_reducible refine LeO.bind ?_ (fun _=>?_))
   | exact laws_heldPairS.mono _ _ _
   | exact LeO.none _
   | refine LeO.ite ?_ ?_
   | refine LeO.bind ?_ (fun _=>?_)
set_option maxHeartbeats 8000000 in
set_option maxRecDepth 100000 in
theorem laws_heldParty.calls (k:Nat) (a0_0:Int) (A0_1:Option Addr) (c0_1:Nat) (l0_1:List (S70)) (a1:Int) (r:Int) (w:World) (hr0_1:Kd.C k70 w A0_1 l0_1.length l0_1) (hc0_1:l0_1.length≤c0_1) (h:laws_heldParty.f k a0_0 l0_1 a1=some r) :
  Calls Try.prog 18 #[.agg #[.int .i64 a0_0,.slice A0_1 l0_1.length c0_1],.int .i64 a1] w fun e w'=>e=.returned (.int .i64 r)∧Below w.heap.size w w':=by
 have hu30:=Try.underlying30
 have HR0_1:=zz31 hr0_1
 have HC0_1:=zz31 hc0_1
 clear hr0_1 hc0_1
 have HB:=zz31 (Below.refl w.heap.size w)
 have H:((laws_heldPairS.f k l0_1 a1).bind fun t293=>(if t293 < 0 then (some (-1)) else (some t293)))=some r:=h
 clear h
 replace H:=zz30.mp H
 obtain ⟨t293,A30,H⟩:=H
 replace H:(if t293 < 0 then (some (-1)) else (some t293))=some r:=H
 have A3:=zz31 A30
 clear A30
 by_cases c4:t293 < 0
 ·rw [if_pos c4] at H
  have c4b0:decide (t293 < 0)=true:=decide_eq_true c4
  clear c4
  obtain rfl:=Option.some.inj H
  go_enter Try.func18,Try.ntmps18
  go_wp2_with (first | ((with_reducible refine gate_dst (N:=2) rfl ?_);refine box_event ?hg (N:=2) ?hd (cs:=#[.int .i64 a0_0,.slice A0_1 l0_1.length c0_1]) (t:=30) ?hr ?_;(case hd=>rfl);(case hg=>rfl);(case hr=>first | (go_simp;done) | (go_simp;rfl));intro gb292 hg w5 hbox hb;have n0_:=zz31 (zz4 (by repeat first | exact HB.out | apply zz2 | apply zz0 | apply zz1) hb);have n1_:=zz31 (hbox);have n2_:=zz31 ((by rw [hg];exact (zz5 (by repeat first | exact HB.out | apply zz2 | apply zz0 | apply zz1)):w.heap.size≤gb292));have n3_:=zz31 ((by rw [hg];exact (zz5 (by repeat first | exact HB.out | apply zz2 | apply zz0 | apply zz1)):w.heap.size≤gb292));clear HB;have HB:=n0_;have BK292:=n1_;have GW292:=n2_;have GE292:=n3_;clear n0_ n1_ n2_ n3_;clear hb hbox hg;have hcz6_0:w5.cell? ⟨gb292,0,none⟩=some (.int .i64 a0_0):=(zz9 BK292.out 0).trans rfl;have hcz6_1:w5.cell? ⟨gb292,1,none⟩=some (.slice A0_1 l0_1.length c0_1):=(zz9 BK292.out 1).trans rfl;have hfz6_0:=zz10 BK292.out 0;have hfz6_1:=zz10 BK292.out 1) | ((with_reducible refine gate_callee (f:=45) rfl ?_);refine goesL_ (some 8) rfl rfl Try.func45 (by kernel_rfl) rfl #[.slice A0_1 l0_1.length c0_1,.int .i64 a1] rfl (by (try simp only [zz26,zz27,zz28]);first | done | rfl | (simp only [zz24,zz25];rfl)) ?_;(with_reducible refine (laws_heldPairS.calls k _ _ l0_1 a1 t293 _ ?side1 ?side2 A3.out).mono ?_);(case side1=>repeat (first | exact (Kd.C_below HR0_1.out HB.out) | (with_reducible refine zz18 ?_ _) | (with_reducible refine zz19 ?_ _) | (with_reducible refine zz20 ?_)));(case side2=>exact HC0_1.out);rintro e w' ⟨rfl,⟨nd,rfl⟩⟩;refine ⟨_,rfl,?_⟩))
  go_ret
  exact ⟨by first | rfl | (simp [errW_none,errW_some] <;> rfl) | (simp [*,errW_none,errW_some] <;> rfl),by repeat first | exact HB.out | apply zz2 | apply zz0 | apply zz1 | refine zz3 ?_ GE292.out⟩
 ·rw [if_neg c4] at H
  have c4b0:decide (t293 < 0)=false:=decide_eq_false c4
  clear c4
  obtain rfl:=Option.some.inj H
  go_enter Try.func18,Try.ntmps18
  go_wp2_with (first | ((with_reducible refine gate_dst (N:=2) rfl ?_);refine box_event ?hg (N:=2) ?hd (cs:=#[.int .i64 a0_0,.slice A0_1 l0_1.length c0_1]) (t:=30) ?hr ?_;(case hd=>rfl);(case hg=>rfl);(case hr=>first | (go_simp;done) | (go_simp;rfl));intro gb292 hg w7 hbox hb;have n0_:=zz31 (zz4 (by repeat first | exact HB.out | apply zz2 | apply zz0 | apply zz1) hb);have n1_:=zz31 (hbox);have n2_:=zz31 ((by rw [hg];exact (zz5 (by repeat first | exact HB.out | apply zz2 | apply zz0 | apply zz1)):w.heap.size≤gb292));have n3_:=zz31 ((by rw [hg];exact (zz5 (by repeat first | exact HB.out | apply zz2 | apply zz0 | apply zz1)):w.heap.size≤gb292));clear HB;have HB:=n0_;have BK292:=n1_;have GW292:=n2_;have GE292:=n3_;clear n0_ n1_ n2_ n3_;clear hb hbox hg;have hcz8_0:w7.cell? ⟨gb292,0,none⟩=some (.int .i64 a0_0):=(zz9 BK292.out 0).trans rfl;have hcz8_1:w7.cell? ⟨gb292,1,none⟩=some (.slice A0_1 l0_1.length c0_1):=(zz9 BK292.out 1).trans rfl;have hfz8_0:=zz10 BK292.out 0;have hfz8_1:=zz10 BK292.out 1) | ((with_reducible refine gate_callee (f:=45) rfl ?_);refine goesL_ (some 8) rfl rfl Try.func45 (by kernel_rfl) rfl #[.slice A0_1 l0_1.length c0_1,.int .i64 a1] rfl (by (try simp only [zz26,zz27,zz28]);first | done | rfl | (simp only [zz24,zz25];rfl)) ?_;(with_reducible refine (laws_heldPairS.calls k _ _ l0_1 a1 t293 _ ?side1 ?side2 A3.out).mono ?_);(case side1=>repeat (first | exact (Kd.C_below HR0_1.out HB.out) | (with_reducible refine zz18 ?_ _) | (with_reducible refine zz19 ?_ _) | (with_reducible refine zz20 ?_)));(case side2=>exact HC0_1.out);rintro e w' ⟨rfl,⟨nd,rfl⟩⟩;refine ⟨_,rfl,?_⟩))
  go_ret
  exact ⟨by first | rfl | (simp [errW_none,errW_some] <;> rfl) | (simp [*,errW_none,errW_some] <;> rfl),by repeat first | exact HB.out | apply zz2 | apply zz0 | apply zz1 | refine zz3 ?_ GE292.out⟩

end Go.Proofs.Ytoedkkoafidalaa.P
