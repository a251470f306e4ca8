-- PRINTED by print.py (a twelfth state) out of the translation. Not trusted: Lean checks it.
import Derived.Test.YtiopgbpjkjnphaaPx0
import Derived.Test.YtiopgbpjkjnphaaPx1
import Derived.Test.YtiopgbpjkjnphaaPx5
import Derived.Test.YtiopgbpjkjnphaaPx6
import Derived.Test.YtiopgbpjkjnphaaPx8
import Derived.Test.YtiopgbpjkjnphaaPx9
import Derived.Test.YtiopgbpjkjnphaaPx11
import Derived.Test.YtiopgbpjkjnphaaPx12
import Derived.Test.YtiopgbpjkjnphaaPx18
namespace Go.Proofs.Ytiopgbpjkjnphaa.P
open Go.RowKit Go.Proofs.YtiopgbpjkjnphaaW.PrintWords Go.Proofs.YtiopgbpjkjnphaaW.PrintLast Go.Proofs.YtiopgbpjkjnphaaW.PrintMore
open Bool renaming true → T, false → F
attribute [local go_sem] max2_int min2_int max_two min_two max_three min_three max_four min_four   -- for this text's walks alone
set_option linter.unusedVariables false
set_option linter.unusedSimpArgs false

/-! ### spec_OtherParty: function 44 -/
def spec_OtherParty.f (k:Nat) (a0_0:Int) (l0_1:List (S61)):Option (Int × (List (S61)) × Bool):=(spec_paGood.f k a0_0 l0_1).bind fun t635=>(if t635=true then ((spec_paOther.f k a0_0 l0_1).bind fun bt636=>(some (bt636.1,bt636.2,true))) else (some (0,([]:List (S61)),false)))
theorem spec_OtherParty.mono:∀ a0 a1 k,LeO (spec_OtherParty.f k a0 a1) (spec_OtherParty.f (k+1) a0 a1):=by
 intro a0 a1 k
 unfold spec_OtherParty.f
 repeat' first
   | (with_reducible exact spec_paGood.mono _ _ _)
   | (with_reducible exact spec_paOther.mono _ _ _)
   | (with_reducible exact LeO.refl _)
   | (with_reducible exact LeO.none _)
   | (with_reducible refine LeO.ite ?_ ?_)
   | (with_reducible refine LeO.bind ?_ (fun _=>?_))
   | exact spec_paGood.mono _ _ _
   | exact spec_paOther.mono _ _ _
   | exact LeO.none _
   | refine LeO.ite ?_ ?_
   | refine LeO.bind ?_ (fun _=>?_)
set_option maxHeartbeats 8000000 in
set_option maxRecDepth 100000 in
theorem spec_OtherParty.calls (k:Nat) (a0_0:Int) (A0_1:Option Addr) (c0_1:Nat) (l0_1:List (S61)) (r1:Int) (r2:List (S61)) (r3:Bool) (w:World) (hr0_1:Kd.C k61 w A0_1 l0_1.length l0_1) (hc0_1:l0_1.length≤c0_1) (h:spec_OtherParty.f k a0_0 l0_1=some (r1,r2,r3)) :
  Calls Try.prog 44 #[.agg #[.int .i64 a0_0,.slice A0_1 l0_1.length c0_1]] w fun e w'=>∃ v1_:Value,e=.returned (.tuple #[.agg #[.int .i64 r1,v1_],.bool r3])∧Kd.R k61 61 w' w.heap.size (fun _=>True) v1_ r2∧Below w.heap.size w w':=by
 have hu29:=Try.underlying29
 have HR0_1:=Aside0.mk hr0_1
 have HC0_1:=Aside0.mk hc0_1
 clear hr0_1 hc0_1
 have HB:=Aside0.mk (Below.refl w.heap.size w)
 have H:((spec_paGood.f k a0_0 l0_1).bind fun t635=>(if t635=true then ((spec_paOther.f k a0_0 l0_1).bind fun bt636=>(some (bt636.1,bt636.2,true))) else (some (0,([]:List (S61)),false))))=some (r1,r2,r3):=h
 clear h
 replace H:=zz30.mp H
 obtain ⟨t635,A20,H⟩:=H
 replace H:(if t635=true then ((spec_paOther.f k a0_0 l0_1).bind fun bt636=>(some (bt636.1,bt636.2,true))) else (some (0,([]:List (S61)),false)))=some (r1,r2,r3):=H
 have A2:=Aside0.mk A20
 clear A20
 by_cases c3:t635=true
 ·subst c3
  have H1:((spec_paOther.f k a0_0 l0_1).bind fun bt636=>(some (bt636.1,bt636.2,true)))=some (r1,r2,r3):=by rw [if_pos rfl] at H;exact H
  clear H
  have H:=H1
  clear H1
  replace H:=zz30.mp H
  obtain ⟨⟨t636,t637⟩,A40,H⟩:=H
  replace H:(some (t636,t637,true))=some (r1,r2,r3):=H
  have A4:=Aside0.mk A40
  clear A40
  simp only [Option.some.injEq,Prod.mk.injEq] at H
  obtain ⟨rfl,rfl,rfl⟩:=H
  go_enter Try.func44,Try.ntmps44
  go_wp2_with (first | ((with_reducible refine gate_dst (N:=1) rfl ?_);refine box_event ?hg (N:=1) ?hd (cs:=#[.int .i64 a0_0,.slice A0_1 l0_1.length c0_1]) (t:=29) ?hr ?_;(case hd=>rfl);(case hg=>rfl);(case hr=>first | (go_simp;done) | (go_simp;rfl));intro gb633 hg w5 hbox hb;have n0_:=Aside0.mk (zz4 (by repeat first | exact HB.out | apply zz2 | apply zz0 | apply zz1) hb);have n1_:=Aside0.mk (hbox);have n2_:=Aside0.mk ((by rw [hg];exact (zz5 (by repeat first | exact HB.out | apply zz2 | apply zz0 | apply zz1)):w.heap.size≤gb633));have n3_:=Aside0.mk ((by rw [hg];exact (zz5 (by repeat first | exact HB.out | apply zz2 | apply zz0 | apply zz1)):w.heap.size≤gb633));clear HB;have HB:=n0_;have BK633:=n1_;have GW633:=n2_;have GE633:=n3_;clear n0_ n1_ n2_ n3_;clear hb hbox hg) | ((with_reducible refine gate_dst (N:=2) rfl ?_);refine box_event ?hg (N:=2) ?hd (cs:=#[.int .i64 0,.slice none 0 0]) (t:=29) ?hr ?_;(case hd=>rfl);(case hg=>rfl);(case hr=>first | (go_simp;done) | (go_simp;rfl));intro gb634 hg w6 hbox hb;have n0_:=Aside0.mk (zz11 (g:=gb633) (o:=.cells #[.int .i64 a0_0,.slice A0_1 l0_1.length c0_1] 29 (0,0)) (by (with_reducible repeat (first | refine zz6 ?_ _ | refine zz7 ?_ | refine zz8 ?_ _));exact BK633.out) hb);have n1_:=Aside0.mk (zz4 (by repeat first | exact HB.out | apply zz2 | apply zz0 | apply zz1 | refine zz3 ?_ GE633.out) hb);have n2_:=Aside0.mk (hbox);have n3_:=Aside0.mk ((by rw [hg];exact (zz5 (by repeat first | exact HB.out | apply zz2 | apply zz0 | apply zz1 | refine zz3 ?_ GE633.out)):w.heap.size≤gb634));have n4_:=Aside0.mk ((by rw [hg];exact (zz5 (by repeat first | exact HB.out | apply zz2 | apply zz0 | apply zz1 | refine zz3 ?_ GE633.out)):w.heap.size≤gb634));have n5_:=Aside0.mk ((by rw [hg];exact Nat.ne_of_lt (blk_lt (g:=gb633) (o:=.cells #[.int .i64 a0_0,.slice A0_1 l0_1.length c0_1] 29 (0,0)) (by (with_reducible repeat (first | refine zz6 ?_ _ | refine zz7 ?_ | refine zz8 ?_ _));exact BK633.out)):gb633 ≠ gb634));have n6_:=Aside0.mk ((by rw [hg];exact Nat.ne_of_gt (blk_lt (g:=gb633) (o:=.cells #[.int .i64 a0_0,.slice A0_1 l0_1.length c0_1] 29 (0,0)) (by (with_reducible repeat (first | refine zz6 ?_ _ | refine zz7 ?_ | refine zz8 ?_ _));exact BK633.out)):gb634 ≠ gb633));clear BK633;clear HB;have BK633:=n0_;have HB:=n1_;have BK634:=n2_;have GW634:=n3_;have GE634:=n4_;have NB633_634:=n5_;have NB634_633:=n6_;clear n0_ n1_ n2_ n3_ n4_ n5_ n6_;clear hb hbox hg;have hnb7:=NB633_634.out;have hnc7:=NB634_633.out;have hcz8_0:w6.cell? ⟨gb633,0,none⟩=some (.int .i64 a0_0):=(zz9 BK633.out 0).trans rfl;have hcz8_1:w6.cell? ⟨gb633,1,none⟩=some (.slice A0_1 l0_1.length c0_1):=(zz9 BK633.out 1).trans rfl;have hfz8_0:=zz10 BK633.out 0;have hfz8_1:=zz10 BK633.out 1) | ((with_reducible refine gate_callee (f:=49) rfl ?_);refine goesL_ (some 5) rfl rfl Try.func49 (by kernel_rfl) rfl #[.agg #[.int .i64 a0_0,.slice A0_1 l0_1.length c0_1]] rfl (by (try simp only [zz26,zz27,zz28]);first | done | rfl | (simp only [zz24,zz25];rfl) | (simp only [zz25];congr;(try simp only [decide_eq_true_eq] at *);omega)) ?_;(with_reducible refine (spec_paGood.calls k a0_0 _ _ l0_1 true _ ?side1 ?side2 A2.out).mono ?_);(case side1=>repeat (first | exact (Kd.C_below HR0_1.out HB.out) | (with_reducible refine zz18 ?_ _) | (with_reducible refine zz19 ?_ _) | (with_reducible refine zz20 ?_)));(case side2=>exact HC0_1.out);rintro e w9 ⟨rfl,hb⟩;refine ⟨_,rfl,?_⟩;have n0_:=Aside0.mk (zz11 (g:=gb633) (o:=.cells #[.int .i64 a0_0,.slice A0_1 l0_1.length c0_1] 29 (0,0)) (by (with_reducible repeat (first | refine zz6 ?_ _ | refine zz7 ?_ | refine zz8 ?_ _));exact BK633.out) hb);have n1_:=Aside0.mk (zz11 (g:=gb634) (o:=.cells #[.int .i64 0,.slice none 0 0] 29 (0,0)) (by (with_reducible repeat (first | refine zz6 ?_ _ | refine zz7 ?_ | refine zz8 ?_ _));exact BK634.out) hb);have n2_:=Aside0.mk (zz4 (by repeat first | exact HB.out | apply zz2 | apply zz0 | apply zz1 | refine zz3 ?_ GE633.out | refine zz3 ?_ GE634.out) hb);clear BK633;clear BK634;clear HB;have BK633:=n0_;have BK634:=n1_;have HB:=n2_;clear n0_ n1_ n2_;(try clear hb);(try clear hb2);(try clear hk);(try clear hi);have hcz10_0:w9.cell? ⟨gb633,0,none⟩=some (.int .i64 a0_0):=(zz9 BK633.out 0).trans rfl;have hcz10_1:w9.cell? ⟨gb633,1,none⟩=some (.slice A0_1 l0_1.length c0_1):=(zz9 BK633.out 1).trans rfl;have hfz10_0:=zz10 BK633.out 0;have hfz10_1:=zz10 BK633.out 1) | ((with_reducible refine gate_callee (f:=55) rfl ?_);refine goesL_ (some 9) rfl rfl Try.func55 (by kernel_rfl) rfl #[.agg #[.int .i64 a0_0,.slice A0_1 l0_1.length c0_1]] rfl (by (try simp only [zz26,zz27,zz28]);first | done | rfl | (simp only [zz24,zz25];rfl) | (simp only [zz25];congr;(try simp only [decide_eq_true_eq] at *);omega)) ?_;(with_reducible refine (spec_paOther.calls k a0_0 _ _ l0_1 t636 t637 _ ?side1 ?side2 A4.out).mono ?_);(case side1=>repeat (first | exact (Kd.C_below HR0_1.out HB.out) | (with_reducible refine zz18 ?_ _) | (with_reducible refine zz19 ?_ _) | (with_reducible refine zz20 ?_)));(case side2=>exact HC0_1.out);rintro e w11 ⟨v638,rfl,ho0,hb⟩;refine ⟨_,rfl,?_⟩;have n0_:=Aside0.mk (Kd.R_lower ho0 (zz5 (by repeat first | exact HB.out | apply zz2 | apply zz0 | apply zz1 | refine zz3 ?_ GE633.out | refine zz3 ?_ GE634.out)));have n1_:=Aside0.mk (zz11 (g:=gb633) (o:=.cells #[.int .i64 a0_0,.slice A0_1 l0_1.length c0_1] 29 (0,0)) (by (with_reducible repeat (first | refine zz6 ?_ _ | refine zz7 ?_ | refine zz8 ?_ _));exact BK633.out) hb);have n2_:=Aside0.mk (zz11 (g:=gb634) (o:=.cells #[.int .i64 0,.slice none 0 0] 29 (0,0)) (by (with_reducible repeat (first | refine zz6 ?_ _ | refine zz7 ?_ | refine zz8 ?_ _));exact BK634.out) hb);have n3_:=Aside0.mk (zz4 (by repeat first | exact HB.out | apply zz2 | apply zz0 | apply zz1 | refine zz3 ?_ GE633.out | refine zz3 ?_ GE634.out) hb);clear BK633;clear BK634;clear HB;have HO639:=n0_;have BK633:=n1_;have BK634:=n2_;have HB:=n3_;clear n0_ n1_ n2_ n3_;(try clear hb);(try clear hb2);(try clear hk);(try clear hi);(try clear ho0);have hcz12_0:w11.cell? ⟨gb634,0,none⟩=some (.int .i64 0):=(zz9 BK634.out 0).trans rfl;have hcz12_1:w11.cell? ⟨gb634,1,none⟩=some (.slice none 0 0):=(zz9 BK634.out 1).trans rfl;have hfz12_0:=zz10 BK634.out 0;have hfz12_1:=zz10 BK634.out 1;obtain ⟨Ao13,co13,eo13⟩:=Kd.R_slice HO639.out;subst eo13))
  refine bodyPost_ret (results_ct rfl _ _ gb634 29 #[.int .i64 t636,.slice Ao13 t637.length co13] (0,0) _ rfl (by (with_reducible repeat (first | refine zz6 ?_ _ | refine zz7 ?_ | refine zz8 ?_ _));refine blk_put (cs:=#[.int .i64 t636,.slice none 0 0]) ?_ 1 _ rfl;(with_reducible repeat (first | refine zz6 ?_ _ | refine zz7 ?_ | refine zz8 ?_ _));refine blk_put (cs:=#[.int .i64 0,.slice none 0 0]) ?_ 0 _ rfl;(with_reducible repeat (first | refine zz6 ?_ _ | refine zz7 ?_ | refine zz8 ?_ _));exact BK634.out) Try.underlying29 rfl (by kernel_rfl)) rfl ?_
  exact ⟨_,by first | rfl | (simp [errW_none,errW_some] <;> rfl) | (simp [*,errW_none,errW_some] <;> rfl),by (with_reducible repeat (first | apply zz12 | apply zz13 | apply zz14));exact Kd.R_mono (Kd.R_far (p:=⟨gb634,1,none⟩) (Kd.R_far (p:=⟨gb634,0,none⟩) (Kd.R_types HO639.out BK634.out (by decide)) (fun _ hk=>hk.2) (.int .i64 t636)) (fun _ hk=>hk.2) (.slice Ao13 t637.length co13)) (fun _ hk=>trivial),by repeat first | exact HB.out | apply zz2 | apply zz0 | apply zz1 | refine zz3 ?_ GE633.out | refine zz3 ?_ GE634.out⟩
 ·replace c3:=Bool.eq_false_iff.mpr c3
  subst c3
  have H1:(some (0,([]:List (S61)),false))=some (r1,r2,r3):=by rw [if_neg (show ¬ (false=true) by decide)] at H;exact H
  clear H
  have H:=H1
  clear H1
  simp only [Option.some.injEq,Prod.mk.injEq] at H
  obtain ⟨rfl,rfl,rfl⟩:=H
  go_enter Try.func44,Try.ntmps44
  go_wp2_with (first | ((with_reducible refine gate_dst (N:=1) rfl ?_);refine box_event ?hg (N:=1) ?hd (cs:=#[.int .i64 a0_0,.slice A0_1 l0_1.length c0_1]) (t:=29) ?hr ?_;(case hd=>rfl);(case hg=>rfl);(case hr=>first | (go_simp;done) | (go_simp;rfl));intro gb633 hg w14 hbox hb;have n0_:=Aside0.mk (zz4 (by repeat first | exact HB.out | apply zz2 | apply zz0 | apply zz1) hb);have n1_:=Aside0.mk (hbox);have n2_:=Aside0.mk ((by rw [hg];exact (zz5 (by repeat first | exact HB.out | apply zz2 | apply zz0 | apply zz1)):w.heap.size≤gb633));have n3_:=Aside0.mk ((by rw [hg];exact (zz5 (by repeat first | exact HB.out | apply zz2 | apply zz0 | apply zz1)):w.heap.size≤gb633));clear HB;have HB:=n0_;have BK633:=n1_;have GW633:=n2_;have GE633:=n3_;clear n0_ n1_ n2_ n3_;clear hb hbox hg) | ((with_reducible refine gate_dst (N:=2) rfl ?_);refine box_event ?hg (N:=2) ?hd (cs:=#[.int .i64 0,.slice none 0 0]) (t:=29) ?hr ?_;(case hd=>rfl);(case hg=>rfl);(case hr=>first | (go_simp;done) | (go_simp;rfl));intro gb634 hg w15 hbox hb;have n0_:=Aside0.mk (zz11 (g:=gb633) (o:=.cells #[.int .i64 a0_0,.slice A0_1 l0_1.length c0_1] 29 (0,0)) (by (with_reducible repeat (first | refine zz6 ?_ _ | refine zz7 ?_ | refine zz8 ?_ _));exact BK633.out) hb);have n1_:=Aside0.mk (zz4 (by repeat first | exact HB.out | apply zz2 | apply zz0 | apply zz1 | refine zz3 ?_ GE633.out) hb);have n2_:=Aside0.mk (hbox);have n3_:=Aside0.mk ((by rw [hg];exact (zz5 (by repeat first | exact HB.out | apply zz2 | apply zz0 | apply zz1 | refine zz3 ?_ GE633.out)):w.heap.size≤gb634));have n4_:=Aside0.mk ((by rw [hg];exact (zz5 (by repeat first | exact HB.out | apply zz2 | apply zz0 | apply zz1 | refine zz3 ?_ GE633.out)):w.heap.size≤gb634));have n5_:=Aside0.mk ((by rw [hg];exact Nat.ne_of_lt (blk_lt (g:=gb633) (o:=.cells #[.int .i64 a0_0,.slice A0_1 l0_1.length c0_1] 29 (0,0)) (by (with_reducible repeat (first | refine zz6 ?_ _ | refine zz7 ?_ | refine zz8 ?_ _));exact BK633.out)):gb633 ≠ gb634));have n6_:=Aside0.mk ((by rw [hg];exact Nat.ne_of_gt (blk_lt (g:=gb633) (o:=.cells #[.int .i64 a0_0,.slice A0_1 l0_1.length c0_1] 29 (0,0)) (by (with_reducible repeat (first | refine zz6 ?_ _ | refine zz7 ?_ | refine zz8 ?_ _));exact BK633.out)):gb634 ≠ gb633));clear BK633;clear HB;have BK633:=n0_;have HB:=n1_;have BK634:=n2_;have GW634:=n3_;have GE634:=n4_;have NB633_634:=n5_;have NB634_633:=n6_;clear n0_ n1_ n2_ n3_ n4_ n5_ n6_;clear hb hbox hg;have hnb16:=NB633_634.out;have hnc16:=NB634_633.out;have hcz17_0:w15.cell? ⟨gb633,0,none⟩=some (.int .i64 a0_0):=(zz9 BK633.out 0).trans rfl;have hcz17_1:w15.cell? ⟨gb633,1,none⟩=some (.slice A0_1 l0_1.length c0_1):=(zz9 BK633.out 1).trans rfl;have hfz17_0:=zz10 BK633.out 0;have hfz17_1:=zz10 BK633.out 1) | ((with_reducible refine gate_callee (f:=49) rfl ?_);refine goesL_ (some 5) rfl rfl Try.func49 (by kernel_rfl) rfl #[.agg #[.int .i64 a0_0,.slice A0_1 l0_1.length c0_1]] rfl (by (try simp only [zz26,zz27,zz28]);first | done | rfl | (simp only [zz24,zz25];rfl) | (simp only [zz25];congr;(try simp only [decide_eq_true_eq] at *);omega)) ?_;(with_reducible refine (spec_paGood.calls k a0_0 _ _ l0_1 false _ ?side1 ?side2 A2.out).mono ?_);(case side1=>repeat (first | exact (Kd.C_below HR0_1.out HB.out) | (with_reducible refine zz18 ?_ _) | (with_reducible refine zz19 ?_ _) | (with_reducible refine zz20 ?_)));(case side2=>exact HC0_1.out);rintro e w18 ⟨rfl,hb⟩;refine ⟨_,rfl,?_⟩;have n0_:=Aside0.mk (zz11 (g:=gb633) (o:=.cells #[.int .i64 a0_0,.slice A0_1 l0_1.length c0_1] 29 (0,0)) (by (with_reducible repeat (first | refine zz6 ?_ _ | refine zz7 ?_ | refine zz8 ?_ _));exact BK633.out) hb);have n1_:=Aside0.mk (zz11 (g:=gb634) (o:=.cells #[.int .i64 0,.slice none 0 0] 29 (0,0)) (by (with_reducible repeat (first | refine zz6 ?_ _ | refine zz7 ?_ | refine zz8 ?_ _));exact BK634.out) hb);have n2_:=Aside0.mk (zz4 (by repeat first | exact HB.out | apply zz2 | apply zz0 | apply zz1 | refine zz3 ?_ GE633.out | refine zz3 ?_ GE634.out) hb);clear BK633;clear BK634;clear HB;have BK633:=n0_;have BK634:=n1_;have HB:=n2_;clear n0_ n1_ n2_;(try clear hb);(try clear hb2);(try clear hk);(try clear hi);have hcz19_0:w18.cell? ⟨gb634,0,none⟩=some (.int .i64 0):=(zz9 BK634.out 0).trans rfl;have hcz19_1:w18.cell? ⟨gb634,1,none⟩=some (.slice none 0 0):=(zz9 BK634.out 1).trans rfl;have hfz19_0:=zz10 BK634.out 0;have hfz19_1:=zz10 BK634.out 1))
  refine bodyPost_ret (results_ct rfl _ _ gb634 29 #[.int .i64 0,.slice none 0 0] (0,0) _ rfl (by (with_reducible repeat (first | refine zz6 ?_ _ | refine zz7 ?_ | refine zz8 ?_ _));refine blk_put (cs:=#[.int .i64 0,.slice none 0 0]) ?_ 1 _ rfl;(with_reducible repeat (first | refine zz6 ?_ _ | refine zz7 ?_ | refine zz8 ?_ _));refine blk_put (cs:=#[.int .i64 0,.slice none 0 0]) ?_ 0 _ rfl;(with_reducible repeat (first | refine zz6 ?_ _ | refine zz7 ?_ | refine zz8 ?_ _));exact BK634.out) Try.underlying29 rfl (by kernel_rfl)) rfl ?_
  exact ⟨_,by first | rfl | (simp [errW_none,errW_some] <;> rfl) | (simp [*,errW_none,errW_some] <;> rfl),by first | exact Kd.R_nil _ _ _ _ _ | exact Kd.N_nil _ _ _ _ _ | exact Kd.V_nil _ _ _ _ _ | exact Kd.Q_nil _ _ _ _ _ | exact Kd.S_nil _ _ _ _ _,by repeat first | exact HB.out | apply zz2 | apply zz0 | apply zz1 | refine zz3 ?_ GE633.out | refine zz3 ?_ GE634.out⟩

/-! ### impl_OtherParty: function 45 -/
def impl_OtherParty.f (k:Nat) (a0_0:Int) (l0_1:List (S61)):Option (Int × (List (S61)) × Bool):=(impl_IsParty.f k a0_0 l0_1).bind fun t642=>(if t642=true then ((impl_Party_table.f k a0_0 l0_1).bind fun t643=>((impl_table_others.f k t643).bind fun t646=>((impl_table_party.f k t646).bind fun bt649=>(some (bt649.1,bt649.2,true))))) else (some (0,([]:List (S61)),false)))
theorem impl_OtherParty.mono:∀ a0 a1 k,LeO (impl_OtherParty.f k a0 a1) (impl_OtherParty.f (k+1) a0 a1):=by
 intro a0 a1 k
 unfold impl_OtherParty.f
 repeat' first
   | (with_reducible exact impl_IsParty.mono _ _ _)
   | (with_reducible exact impl_Party_table.mono _ _ _)
   | (with_reducible exact impl_table_others.mono _ _)
   | (with_reducible exact impl_table_party.mono _ _)
   | (with_reducible exact LeO.refl _)
   | (with_reducible exact LeO.none _)
   | (with_reducible refine LeO.ite ?_ ?_)
   | (with_reducible refine LeO.bind ?_ (fun _=>?_))
   | exact impl_IsParty.mono _ _ _
   | exact impl_Party_table.mono _ _ _
   | exact impl_table_others.mono _ _
   | exact impl_table_party.mono _ _
   | exact LeO.none _
   | refine LeO.ite ?_ ?_
   | refine LeO.bind ?_ (fun _=>?_)
set_option maxHeartbeats 8000000 in
set_option maxRecDepth 100000 in
theorem impl_OtherParty.calls (k:Nat) (a0_0:Int) (A0_1:Option Addr) (c0_1:Nat) (l0_1:List (S61)) (r1:Int) (r2:List (S61)) (r3:Bool) (w:World) (hr0_1:Kd.C k61 w A0_1 l0_1.length l0_1) (hc0_1:l0_1.length≤c0_1) (h:impl_OtherParty.f k a0_0 l0_1=some (r1,r2,r3)) :
  Calls Try.prog 45 #[.agg #[.int .i64 a0_0,.slice A0_1 l0_1.length c0_1]] w fun e w'=>∃ v1_:Value,e=.returned (.tuple #[.agg #[.int .i64 r1,v1_],.bool r3])∧Kd.R k61 61 w' w.heap.size (fun _=>True) v1_ r2∧Below w.heap.size w w':=by
 have hu29:=Try.underlying29
 have HR0_1:=Aside0.mk hr0_1
 have HC0_1:=Aside0.mk hc0_1
 clear hr0_1 hc0_1
 have HB:=Aside0.mk (Below.refl w.heap.size w)
 have H:((impl_IsParty.f k a0_0 l0_1).bind fun t642=>(if t642=true then ((impl_Party_table.f k a0_0 l0_1).bind fun t643=>((impl_table_others.f k t643).bind fun t646=>((impl_table_party.f k t646).bind fun bt649=>(some (bt649.1,bt649.2,true))))) else (some (0,([]:List (S61)),false))))=some (r1,r2,r3):=h
 clear h
 replace H:=zz30.mp H
 obtain ⟨t642,A20,H⟩:=H
 replace H:(if t642=true then ((impl_Party_table.f k a0_0 l0_1).bind fun t643=>((impl_table_others.f k t643).bind fun t646=>((impl_table_party.f k t646).bind fun bt649=>(some (bt649.1,bt649.2,true))))) else (some (0,([]:List (S61)),false)))=some (r1,r2,r3):=H
 have A2:=Aside0.mk A20
 clear A20
 by_cases c3:t642=true
 ·subst c3
  have H1:((impl_Party_table.f k a0_0 l0_1).bind fun t643=>((impl_table_others.f k t643).bind fun t646=>((impl_table_party.f k t646).bind fun bt649=>(some (bt649.1,bt649.2,true)))))=some (r1,r2,r3):=by rw [if_pos rfl] at H;exact H
  clear H
  have H:=H1
  clear H1
  replace H:=zz30.mp H
  obtain ⟨t643,A40,H⟩:=H
  replace H:((impl_table_others.f k t643).bind fun t646=>((impl_table_party.f k t646).bind fun bt649=>(some (bt649.1,bt649.2,true))))=some (r1,r2,r3):=H
  have A4:=Aside0.mk A40
  clear A40
  replace H:=zz30.mp H
  obtain ⟨t646,A50,H⟩:=H
  replace H:((impl_table_party.f k t646).bind fun bt649=>(some (bt649.1,bt649.2,true)))=some (r1,r2,r3):=H
  have A5:=Aside0.mk A50
  clear A50
  replace H:=zz30.mp H
  obtain ⟨⟨t649,t650⟩,A60,H⟩:=H
  replace H:(some (t649,t650,true))=some (r1,r2,r3):=H
  have A6:=Aside0.mk A60
  clear A60
  simp only [Option.some.injEq,Prod.mk.injEq] at H
  obtain ⟨rfl,rfl,rfl⟩:=H
  go_enter Try.func45,Try.ntmps45
  go_wp2_with (first | ((with_reducible refine gate_dst (N:=1) rfl ?_);refine box_event ?hg (N:=1) ?hd (cs:=#[.int .i64 a0_0,.slice A0_1 l0_1.length c0_1]) (t:=29) ?hr ?_;(case hd=>rfl);(case hg=>rfl);(case hr=>first | (go_simp;done) | (go_simp;rfl));intro gb640 hg w7 hbox hb;have n0_:=Aside0.mk (zz4 (by repeat first | exact HB.out | apply zz2 | apply zz0 | apply zz1) hb);have n1_:=Aside0.mk (hbox);have n2_:=Aside0.mk ((by rw [hg];exact (zz5 (by repeat first | exact HB.out | apply zz2 | apply zz0 | apply zz1)):w.heap.size≤gb640));have n3_:=Aside0.mk ((by rw [hg];exact (zz5 (by repeat first | exact HB.out | apply zz2 | apply zz0 | apply zz1)):w.heap.size≤gb640));clear HB;have HB:=n0_;have BK640:=n1_;have GW640:=n2_;have GE640:=n3_;clear n0_ n1_ n2_ n3_;clear hb hbox hg) | ((with_reducible refine gate_dst (N:=2) rfl ?_);refine box_event ?hg (N:=2) ?hd (cs:=#[.int .i64 0,.slice none 0 0]) (t:=29) ?hr ?_;(case hd=>rfl);(case hg=>rfl);(case hr=>first | (go_simp;done) | (go_simp;rfl));intro gb641 hg w8 hbox hb;have n0_:=Aside0.mk (zz11 (g:=gb640) (o:=.cells #[.int .i64 a0_0,.slice A0_1 l0_1.length c0_1] 29 (0,0)) (by (with_reducible repeat (first | refine zz6 ?_ _ | refine zz7 ?_ | refine zz8 ?_ _));exact BK640.out) hb);have n1_:=Aside0.mk (zz4 (by repeat first | exact HB.out | apply zz2 | apply zz0 | apply zz1 | refine zz3 ?_ GE640.out) hb);have n2_:=Aside0.mk (hbox);have n3_:=Aside0.mk ((by rw [hg];exact (zz5 (by repeat first | exact HB.out | apply zz2 | apply zz0 | apply zz1 | refine zz3 ?_ GE640.out)):w.heap.size≤gb641));have n4_:=Aside0.mk ((by rw [hg];exact (zz5 (by repeat first | exact HB.out | apply zz2 | apply zz0 | apply zz1 | refine zz3 ?_ GE640.out)):w.heap.size≤gb641));have n5_:=Aside0.mk ((by rw [hg];exact Nat.ne_of_lt (blk_lt (g:=gb640) (o:=.cells #[.int .i64 a0_0,.slice A0_1 l0_1.length c0_1] 29 (0,0)) (by (with_reducible repeat (first | refine zz6 ?_ _ | refine zz7 ?_ | refine zz8 ?_ _));exact BK640.out)):gb640 ≠ gb641));have n6_:=Aside0.mk ((by rw [hg];exact Nat.ne_of_gt (blk_lt (g:=gb640) (o:=.cells #[.int .i64 a0_0,.slice A0_1 l0_1.length c0_1] 29 (0,0)) (by (with_reducible repeat (first | refine zz6 ?_ _ | refine zz7 ?_ | refine zz8 ?_ _));exact BK640.out)):gb641 ≠ gb640));clear BK640;clear HB;have BK640:=n0_;have HB:=n1_;have BK641:=n2_;have GW641:=n3_;have GE641:=n4_;have NB640_641:=n5_;have NB641_640:=n6_;clear n0_ n1_ n2_ n3_ n4_ n5_ n6_;clear hb hbox hg;have hnb9:=NB640_641.out;have hnc9:=NB641_640.out;have hcz10_0:w8.cell? ⟨gb640,0,none⟩=some (.int .i64 a0_0):=(zz9 BK640.out 0).trans rfl;have hcz10_1:w8.cell? ⟨gb640,1,none⟩=some (.slice A0_1 l0_1.length c0_1):=(zz9 BK640.out 1).trans rfl;have hfz10_0:=zz10 BK640.out 0;have hfz10_1:=zz10 BK640.out 1) | ((with_reducible refine gate_callee (f:=18) rfl ?_);refine goesL_ (some 5) rfl rfl Try.func18 (by kernel_rfl) rfl #[.agg #[.int .i64 a0_0,.slice A0_1 l0_1.length c0_1]] rfl (by (try simp only [zz26,zz27,zz28]);first | done | rfl | (simp only [zz24,zz25];rfl) | (simp only [zz25];congr;(try simp only [decide_eq_true_eq] at *);omega)) ?_;(with_reducible refine (impl_IsParty.calls k a0_0 _ _ l0_1 true _ ?side1 ?side2 A2.out).mono ?_);(case side1=>repeat (first | exact (Kd.C_below HR0_1.out HB.out) | (with_reducible refine zz18 ?_ _) | (with_reducible refine zz19 ?_ _) | (with_reducible refine zz20 ?_)));(case side2=>exact HC0_1.out);rintro e w11 ⟨rfl,hb⟩;refine ⟨_,rfl,?_⟩;have n0_:=Aside0.mk (zz11 (g:=gb640) (o:=.cells #[.int .i64 a0_0,.slice A0_1 l0_1.length c0_1] 29 (0,0)) (by (with_reducible repeat (first | refine zz6 ?_ _ | refine zz7 ?_ | refine zz8 ?_ _));exact BK640.out) hb);have n1_:=Aside0.mk (zz11 (g:=gb641) (o:=.cells #[.int .i64 0,.slice none 0 0] 29 (0,0)) (by (with_reducible repeat (first | refine zz6 ?_ _ | refine zz7 ?_ | refine zz8 ?_ _));exact BK641.out) hb);have n2_:=Aside0.mk (zz4 (by repeat first | exact HB.out | apply zz2 | apply zz0 | apply zz1 | refine zz3 ?_ GE640.out | refine zz3 ?_ GE641.out) hb);clear BK640;clear BK641;clear HB;have BK640:=n0_;have BK641:=n1_;have HB:=n2_;clear n0_ n1_ n2_;(try clear hb);(try clear hb2);(try clear hk);(try clear hi);have hcz12_0:w11.cell? ⟨gb640,0,none⟩=some (.int .i64 a0_0):=(zz9 BK640.out 0).trans rfl;have hcz12_1:w11.cell? ⟨gb640,1,none⟩=some (.slice A0_1 l0_1.length c0_1):=(zz9 BK640.out 1).trans rfl;have hfz12_0:=zz10 BK640.out 0;have hfz12_1:=zz10 BK640.out 1) | ((with_reducible refine gate_callee (f:=66) rfl ?_);refine goesL_ (some 9) rfl rfl Try.func66 (by kernel_rfl) rfl #[.agg #[.int .i64 a0_0,.slice A0_1 l0_1.length c0_1]] rfl (by (try simp only [zz26,zz27,zz28]);first | done | rfl | (simp only [zz24,zz25];rfl) | (simp only [zz25];congr;(try simp only [decide_eq_true_eq] at *);omega)) ?_;(with_reducible refine (impl_Party_table.calls k a0_0 _ _ l0_1 t643 _ ?side1 ?side2 A4.out).mono ?_);(case side1=>repeat (first | exact (Kd.C_below HR0_1.out HB.out) | (with_reducible refine zz18 ?_ _) | (with_reducible refine zz19 ?_ _) | (with_reducible refine zz20 ?_)));(case side2=>exact HC0_1.out);rintro e w13 ⟨v644,rfl,ho0,hb⟩;refine ⟨_,rfl,?_⟩;have n0_:=Aside0.mk (Kd.R_lower ho0 (zz5 (by repeat first | exact HB.out | apply zz2 | apply zz0 | apply zz1 | refine zz3 ?_ GE640.out | refine zz3 ?_ GE641.out)));have n1_:=Aside0.mk (zz11 (g:=gb640) (o:=.cells #[.int .i64 a0_0,.slice A0_1 l0_1.length c0_1] 29 (0,0)) (by (with_reducible repeat (first | refine zz6 ?_ _ | refine zz7 ?_ | refine zz8 ?_ _));exact BK640.out) hb);have n2_:=Aside0.mk (zz11 (g:=gb641) (o:=.cells #[.int .i64 0,.slice none 0 0] 29 (0,0)) (by (with_reducible repeat (first | refine zz6 ?_ _ | refine zz7 ?_ | refine zz8 ?_ _));exact BK641.out) hb);have n3_:=Aside0.mk (zz4 (by repeat first | exact HB.out | apply zz2 | apply zz0 | apply zz1 | refine zz3 ?_ GE640.out | refine zz3 ?_ GE641.out) hb);clear BK640;clear BK641;clear HB;have HO645:=n0_;have BK640:=n1_;have BK641:=n2_;have HB:=n3_;clear n0_ n1_ n2_ n3_;(try clear hb);(try clear hb2);(try clear hk);(try clear hi);(try clear ho0);obtain ⟨Ao14,co14,eo14⟩:=Kd.R_slice HO645.out;subst eo14) | ((with_reducible refine gate_callee (f:=56) rfl ?_);refine goesL_ (some 10) rfl rfl Try.func56 (by kernel_rfl) rfl #[.slice Ao14 t643.length co14] rfl (by (try simp only [zz26,zz27,zz28]);first | done | rfl | (simp only [zz24,zz25];rfl) | (simp only [zz25];congr;(try simp only [decide_eq_true_eq] at *);omega)) ?_;(with_reducible refine (impl_table_others.calls k _ _ t643 t646 _ ?side1 ?side2 A5.out).mono ?_);(case side1=>repeat (first | exact (Kd.R_reads' HO645.out).2.2 | (with_reducible refine zz18 ?_ _) | (with_reducible refine zz19 ?_ _) | (with_reducible refine zz20 ?_)));(case side2=>exact (Kd.R_reads' HO645.out).2.1);rintro e w15 ⟨v647,rfl,ho0,hb⟩;refine ⟨_,rfl,?_⟩;have n0_:=Aside0.mk (Kd.R_elder' (by (with_reducible repeat (first | apply zz12 | apply zz13 | apply zz14));exact HO645.out) (Kd.R_base ho0) hb);have n1_:=Aside0.mk (Kd.R_lower (Kd.R_new' ho0 (Kd.R_lt (by (with_reducible repeat (first | apply zz12 | apply zz13 | apply zz14));exact HO645.out))) (zz5 (by repeat first | exact HB.out | apply zz2 | apply zz0 | apply zz1 | refine zz3 ?_ GE640.out | refine zz3 ?_ GE641.out)));have n2_:=Aside0.mk (zz11 (g:=gb640) (o:=.cells #[.int .i64 a0_0,.slice A0_1 l0_1.length c0_1] 29 (0,0)) (by (with_reducible repeat (first | refine zz6 ?_ _ | refine zz7 ?_ | refine zz8 ?_ _));exact BK640.out) hb);have n3_:=Aside0.mk (zz11 (g:=gb641) (o:=.cells #[.int .i64 0,.slice none 0 0] 29 (0,0)) (by (with_reducible repeat (first | refine zz6 ?_ _ | refine zz7 ?_ | refine zz8 ?_ _));exact BK641.out) hb);have n4_:=Aside0.mk (zz4 (by repeat first | exact HB.out | apply zz2 | apply zz0 | apply zz1 | refine zz3 ?_ GE640.out | refine zz3 ?_ GE641.out) hb);clear HO645;clear BK640;clear BK641;clear HB;have HO645:=n0_;have HO648:=n1_;have BK640:=n2_;have BK641:=n3_;have HB:=n4_;clear n0_ n1_ n2_ n3_ n4_;(try clear hb);(try clear hb2);(try clear hk);(try clear hi);(try clear ho0);obtain ⟨Ao16,co16,eo16⟩:=Kd.R_slice HO648.out;subst eo16) | ((with_reducible refine gate_callee (f:=57) rfl ?_);refine goesL_ (some 11) rfl rfl Try.func57 (by kernel_rfl) rfl #[.slice Ao16 t646.length co16] rfl (by (try simp only [zz26,zz27,zz28]);first | done | rfl | (simp only [zz24,zz25];rfl) | (simp only [zz25];congr;(try simp only [decide_eq_true_eq] at *);omega)) ?_;(with_reducible refine (impl_table_party.calls k _ _ t646 t649 t650 _ ?side1 ?side2 A6.out).mono ?_);(case side1=>repeat (first | exact (Kd.R_reads' HO648.out).2.2 | (with_reducible refine zz18 ?_ _) | (with_reducible refine zz19 ?_ _) | (with_reducible refine zz20 ?_)));(case side2=>exact (Kd.R_reads' HO648.out).2.1);rintro e w17 ⟨v651,rfl,ho0,hb⟩;refine ⟨_,rfl,?_⟩;have n0_:=Aside0.mk (Kd.R_below (by (with_reducible repeat (first | apply zz12 | apply zz13 | apply zz14));exact HO645.out) hb);have n1_:=Aside0.mk (Kd.R_below (by (with_reducible repeat (first | apply zz12 | apply zz13 | apply zz14));exact HO648.out) hb);have n2_:=Aside0.mk (Kd.R_lower ho0 (zz5 (by repeat first | exact HB.out | apply zz2 | apply zz0 | apply zz1 | refine zz3 ?_ GE640.out | refine zz3 ?_ GE641.out)));have n3_:=Aside0.mk (zz11 (g:=gb640) (o:=.cells #[.int .i64 a0_0,.slice A0_1 l0_1.length c0_1] 29 (0,0)) (by (with_reducible repeat (first | refine zz6 ?_ _ | refine zz7 ?_ | refine zz8 ?_ _));exact BK640.out) hb);have n4_:=Aside0.mk (zz11 (g:=gb641) (o:=.cells #[.int .i64 0,.slice none 0 0] 29 (0,0)) (by (with_reducible repeat (first | refine zz6 ?_ _ | refine zz7 ?_ | refine zz8 ?_ _));exact BK641.out) hb);have n5_:=Aside0.mk (zz4 (by repeat first | exact HB.out | apply zz2 | apply zz0 | apply zz1 | refine zz3 ?_ GE640.out | refine zz3 ?_ GE641.out) hb);clear HO645;clear HO648;clear BK640;clear BK641;clear HB;have HO645:=n0_;have HO648:=n1_;have HO652:=n2_;have BK640:=n3_;have BK641:=n4_;have HB:=n5_;clear n0_ n1_ n2_ n3_ n4_ n5_;(try clear hb);(try clear hb2);(try clear hk);(try clear hi);(try clear ho0);have hcz18_0:w17.cell? ⟨gb641,0,none⟩=some (.int .i64 0):=(zz9 BK641.out 0).trans rfl;have hcz18_1:w17.cell? ⟨gb641,1,none⟩=some (.slice none 0 0):=(zz9 BK641.out 1).trans rfl;have hfz18_0:=zz10 BK641.out 0;have hfz18_1:=zz10 BK641.out 1;obtain ⟨Ao19,co19,eo19⟩:=Kd.R_slice HO652.out;subst eo19))
  refine bodyPost_ret (results_ct rfl _ _ gb641 29 #[.int .i64 t649,.slice Ao19 t650.length co19] (0,0) _ rfl (by (with_reducible repeat (first | refine zz6 ?_ _ | refine zz7 ?_ | refine zz8 ?_ _));refine blk_put (cs:=#[.int .i64 t649,.slice none 0 0]) ?_ 1 _ rfl;(with_reducible repeat (first | refine zz6 ?_ _ | refine zz7 ?_ | refine zz8 ?_ _));refine blk_put (cs:=#[.int .i64 0,.slice none 0 0]) ?_ 0 _ rfl;(with_reducible repeat (first | refine zz6 ?_ _ | refine zz7 ?_ | refine zz8 ?_ _));exact BK641.out) Try.underlying29 rfl (by kernel_rfl)) rfl ?_
  exact ⟨_,by first | rfl | (simp [errW_none,errW_some] <;> rfl) | (simp [*,errW_none,errW_some] <;> rfl),by (with_reducible repeat (first | apply zz12 | apply zz13 | apply zz14));exact Kd.R_mono (Kd.R_far (p:=⟨gb641,1,none⟩) (Kd.R_far (p:=⟨gb641,0,none⟩) (Kd.R_types HO652.out BK641.out (by decide)) (fun _ hk=>hk.2) (.int .i64 t649)) (fun _ hk=>hk.2) (.slice Ao19 t650.length co19)) (fun _ hk=>trivial),by repeat first | exact HB.out | apply zz2 | apply zz0 | apply zz1 | refine zz3 ?_ GE640.out | refine zz3 ?_ GE641.out⟩
 ·replace c3:=Bool.eq_false_iff.mpr c3
  subst c3
  have H1:(some (0,([]:List (S61)),false))=some (r1,r2,r3):=by rw [if_neg (show ¬ (false=true) by decide)] at H;exact H
  clear H
  have H:=H1
  clear H1
  simp only [Option.some.injEq,Prod.mk.injEq] at H
  obtain ⟨rfl,rfl,rfl⟩:=H
  go_enter Try.func45,Try.ntmps45
  go_wp2_with (first | ((with_reducible refine gate_dst (N:=1) rfl ?_);refine box_event ?hg (N:=1) ?hd (cs:=#[.int .i64 a0_0,.slice A0_1 l0_1.length c0_1]) (t:=29) ?hr ?_;(case hd=>rfl);(case hg=>rfl);(case hr=>first | (go_simp;done) | (go_simp;rfl));intro gb640 hg w20 hbox hb;have n0_:=Aside0.mk (zz4 (by repeat first | exact HB.out | apply zz2 | apply zz0 | apply zz1) hb);have n1_:=Aside0.mk (hbox);have n2_:=Aside0.mk ((by rw [hg];exact (zz5 (by repeat first | exact HB.out | apply zz2 | apply zz0 | apply zz1)):w.heap.size≤gb640));have n3_:=Aside0.mk ((by rw [hg];exact (zz5 (by repeat first | exact HB.out | apply zz2 | apply zz0 | apply zz1)):w.heap.size≤gb640));clear HB;have HB:=n0_;have BK640:=n1_;have GW640:=n2_;have GE640:=n3_;clear n0_ n1_ n2_ n3_;clear hb hbox hg) | ((with_reducible refine gate_dst (N:=2) rfl ?_);refine box_event ?hg (N:=2) ?hd (cs:=#[.int .i64 0,.slice none 0 0]) (t:=29) ?hr ?_;(case hd=>rfl);(case hg=>rfl);(case hr=>first | (go_simp;done) | (go_simp;rfl));intro gb641 hg w21 hbox hb;have n0_:=Aside0.mk (zz11 (g:=gb640) (o:=.cells #[.int .i64 a0_0,.slice A0_1 l0_1.length c0_1] 29 (0,0)) (by (with_reducible repeat (first | refine zz6 ?_ _ | refine zz7 ?_ | refine zz8 ?_ _));exact BK640.out) hb);have n1_:=Aside0.mk (zz4 (by repeat first | exact HB.out | apply zz2 | apply zz0 | apply zz1 | refine zz3 ?_ GE640.out) hb);have n2_:=Aside0.mk (hbox);have n3_:=Aside0.mk ((by rw [hg];exact (zz5 (by repeat first | exact HB.out | apply zz2 | apply zz0 | apply zz1 | refine zz3 ?_ GE640.out)):w.heap.size≤gb641));have n4_:=Aside0.mk ((by rw [hg];exact (zz5 (by repeat first | exact HB.out | apply zz2 | apply zz0 | apply zz1 | refine zz3 ?_ GE640.out)):w.heap.size≤gb641));have n5_:=Aside0.mk ((by rw [hg];exact Nat.ne_of_lt (blk_lt (g:=gb640) (o:=.cells #[.int .i64 a0_0,.slice A0_1 l0_1.length c0_1] 29 (0,0)) (by (with_reducible repeat (first | refine zz6 ?_ _ | refine zz7 ?_ | refine zz8 ?_ _));exact BK640.out)):gb640 ≠ gb641));have n6_:=Aside0.mk ((by rw [hg];exact Nat.ne_of_gt (blk_lt (g:=gb640) (o:=.cells #[.int .i64 a0_0,.slice A0_1 l0_1.length c0_1] 29 (0,0)) (by (with_reducible repeat (first | refine zz6 ?_ _ | refine zz7 ?_ | refine zz8 ?_ _));exact BK640.out)):gb641 ≠ gb640));clear BK640;clear HB;have BK640:=n0_;have HB:=n1_;have BK641:=n2_;have GW641:=n3_;have GE641:=n4_;have NB640_641:=n5_;have NB641_640:=n6_;clear n0_ n1_ n2_ n3_ n4_ n5_ n6_;clear hb hbox hg;have hnb22:=NB640_641.out;have hnc22:=NB641_640.out;have hcz23_0:w21.cell? ⟨gb640,0,none⟩=some (.int .i64 a0_0):=(zz9 BK640.out 0).trans rfl;have hcz23_1:w21.cell? ⟨gb640,1,none⟩=some (.slice A0_1 l0_1.length c0_1):=(zz9 BK640.out 1).trans rfl;have hfz23_0:=zz10 BK640.out 0;have hfz23_1:=zz10 BK640.out 1) | ((with_reducible refine gate_callee (f:=18) rfl ?_);refine goesL_ (some 5) rfl rfl Try.func18 (by kernel_rfl) rfl #[.agg #[.int .i64 a0_0,.slice A0_1 l0_1.length c0_1]] rfl (by (try simp only [zz26,zz27,zz28]);first | done | rfl | (simp only [zz24,zz25];rfl) | (simp only [zz25];congr;(try simp only [decide_eq_true_eq] at *);omega)) ?_;(with_reducible refine (impl_IsParty.calls k a0_0 _ _ l0_1 false _ ?side1 ?side2 A2.out).mono ?_);(case side1=>repeat (first | exact (Kd.C_below HR0_1.out HB.out) | (with_reducible refine zz18 ?_ _) | (with_reducible refine zz19 ?_ _) | (with_reducible refine zz20 ?_)));(case side2=>exact HC0_1.out);rintro e w24 ⟨rfl,hb⟩;refine ⟨_,rfl,?_⟩;have n0_:=Aside0.mk (zz11 (g:=gb640) (o:=.cells #[.int .i64 a0_0,.slice A0_1 l0_1.length c0_1] 29 (0,0)) (by (with_reducible repeat (first | refine zz6 ?_ _ | refine zz7 ?_ | refine zz8 ?_ _));exact BK640.out) hb);have n1_:=Aside0.mk (zz11 (g:=gb641) (o:=.cells #[.int .i64 0,.slice none 0 0] 29 (0,0)) (by (with_reducible repeat (first | refine zz6 ?_ _ | refine zz7 ?_ | refine zz8 ?_ _));exact BK641.out) hb);have n2_:=Aside0.mk (zz4 (by repeat first | exact HB.out | apply zz2 | apply zz0 | apply zz1 | refine zz3 ?_ GE640.out | refine zz3 ?_ GE641.out) hb);clear BK640;clear BK641;clear HB;have BK640:=n0_;have BK641:=n1_;have HB:=n2_;clear n0_ n1_ n2_;(try clear hb);(try clear hb2);(try clear hk);(try clear hi);have hcz25_0:w24.cell? ⟨gb641,0,none⟩=some (.int .i64 0):=(zz9 BK641.out 0).trans rfl;have hcz25_1:w24.cell? ⟨gb641,1,none⟩=some (.slice none 0 0):=(zz9 BK641.out 1).trans rfl;have hfz25_0:=zz10 BK641.out 0;have hfz25_1:=zz10 BK641.out 1))
  refine bodyPost_ret (results_ct rfl _ _ gb641 29 #[.int .i64 0,.slice none 0 0] (0,0) _ rfl (by (with_reducible repeat (first | refine zz6 ?_ _ | refine zz7 ?_ | refine zz8 ?_ _));refine blk_put (cs:=#[.int .i64 0,.slice none 0 0]) ?_ 1 _ rfl;(with_reducible repeat (first | refine zz6 ?_ _ | refine zz7 ?_ | refine zz8 ?_ _));refine blk_put (cs:=#[.int .i64 0,.slice none 0 0]) ?_ 0 _ rfl;(with_reducible repeat (first | refine zz6 ?_ _ | refine zz7 ?_ | refine zz8 ?_ _));exact BK641.out) Try.underlying29 rfl (by kernel_rfl)) rfl ?_
  exact ⟨_,by first | rfl | (simp [errW_none,errW_some] <;> rfl) | (simp [*,errW_none,errW_some] <;> rfl),by first | exact Kd.R_nil _ _ _ _ _ | exact Kd.N_nil _ _ _ _ _ | exact Kd.V_nil _ _ _ _ _ | exact Kd.Q_nil _ _ _ _ _ | exact Kd.S_nil _ _ _ _ _,by repeat first | exact HB.out | apply zz2 | apply zz0 | apply zz1 | refine zz3 ?_ GE640.out | refine zz3 ?_ GE641.out⟩

/-! ### laws_FnExactOtherParty: function 13 -/
mutual
def laws_FnExactOtherParty.j0:Nat→Bool→Bool→Bool→Int→List (S88)→Int→List (S61)→Int→List (S61)→Int→List (S61)→Option (Bool)
 | 0,_,_,_,_,_,_,_,_,_,_,_=>none
 | k+1,x5,x8,x40,x654000,x654001,x665000,x665001,x670000,x670001,x676000,x676001=>if x40=true then (some false) else ((laws_toParty.f k x654000 x654001).bind fun bt677=>((laws_eqParty.f k x670000 x670001 bt677.1 bt677.2).bind fun t681=>(if t681=true then ((laws_markParty.f k x670000 x670001 1).bind fun bt682=>(if bt682.1 < 0 then (laws_FnExactOtherParty.j1 k x5 true x654000 x654001 x665000 x665001 x676000 x676001) else ((laws_eqParty.f k x676000 x676001 x665000 x665001).bind fun t684=>(if t684=true then (laws_FnExactOtherParty.j1 k x5 (x8 != x5) x654000 x654001 x665000 x665001 x676000 x676001) else (laws_FnExactOtherParty.j1 k x5 true x654000 x654001 x665000 x665001 x676000 x676001))))) else (some false))))
def laws_FnExactOtherParty.j1:Nat→Bool→Bool→Int→List (S88)→Int→List (S61)→Int→List (S61)→Option (Bool)
 | 0,_,_,_,_,_,_,_,_=>none
 | k+1,x5,x61,x654000,x654001,x665000,x665001,x676000,x676001=>if x61=true then (some false) else ((laws_markParty.f k x676000 x676001 1).bind fun bt685=>((laws_heldParty.f k x676000 bt685.2 1).bind fun t687=>(if t687 < 0 then (some false) else (if t687=bt685.1 then ((laws_toParty.f k x654000 x654001).bind fun bt688=>((impl_OtherParty.f k bt688.1 bt688.2).bind fun bt692=>((laws_eqParty.f k bt692.1 bt692.2.1 x665000 x665001).bind fun t698=>(if t698=true then (laws_FnExactOtherParty.j2 k bt685.1 (bt692.2.2 != x5) x676000 bt685.2) else (laws_FnExactOtherParty.j2 k bt685.1 true x676000 bt685.2))))) else (some false)))))
def laws_FnExactOtherParty.j2:Nat→Int→Bool→Int→List (S61)→Option (Bool)
 | 0,_,_,_,_=>none
 | k+1,x10,x87,x676000,x676001=>if x87=true then (some false) else ((laws_heldParty.f k x676000 x676001 1).bind fun t699=>(if t699 < 0 then (some false) else (if t699=x10 then (some true) else (some false))))
end
def laws_FnExactOtherParty.f (k:Nat) (a0_0:Int) (l0_1:List (S88)):Option (Bool):=(laws_szParty.f a0_0 l0_1 1048576).bind fun t654=>(if t654 < 0 then (some true) else ((laws_toParty.f k a0_0 l0_1).bind fun bt655=>((spec_OtherParty.f k bt655.1 bt655.2).bind fun bt659=>((laws_toParty.f k a0_0 l0_1).bind fun bt665=>((impl_OtherParty.f k bt665.1 bt665.2).bind fun bt670=>((laws_eqParty.f k bt670.1 bt670.2.1 bt659.1 bt659.2.1).bind fun t676=>(if t676=true then (laws_FnExactOtherParty.j0 k bt659.2.2 bt670.2.2 (bt670.2.2 != bt659.2.2) a0_0 l0_1 bt659.1 bt659.2.1 bt665.1 bt665.2 bt670.1 bt670.2.1) else (laws_FnExactOtherParty.j0 k bt659.2.2 bt670.2.2 true a0_0 l0_1 bt659.1 bt659.2.1 bt665.1 bt665.2 bt670.1 bt670.2.1))))))))
theorem laws_FnExactOtherParty.mono_l:∀ k,(∀ y0 y1 y2 y3 y4 y5 y6 y7 y8 y9 y10,LeO (laws_FnExactOtherParty.j0 k y0 y1 y2 y3 y4 y5 y6 y7 y8 y9 y10) (laws_FnExactOtherParty.j0 (k+1) y0 y1 y2 y3 y4 y5 y6 y7 y8 y9 y10))∧(∀ y0 y1 y2 y3 y4 y5 y6 y7,LeO (laws_FnExactOtherParty.j1 k y0 y1 y2 y3 y4 y5 y6 y7) (laws_FnExactOtherParty.j1 (k+1) y0 y1 y2 y3 y4 y5 y6 y7))∧(∀ y0 y1 y2 y3,LeO (laws_FnExactOtherParty.j2 k y0 y1 y2 y3) (laws_FnExactOtherParty.j2 (k+1) y0 y1 y2 y3))
 | 0=>⟨fun _ _ _ _ _ _ _ _ _ _ _ r h=>by simp [laws_FnExactOtherParty.j0] at h,fun _ _ _ _ _ _ _ _ r h=>by simp [laws_FnExactOtherParty.j1] at h,fun _ _ _ _ r h=>by simp [laws_FnExactOtherParty.j2] at h⟩
 | k+1=>by
  obtain ⟨ih0,ih1,ih2⟩:=laws_FnExactOtherParty.mono_l k
  refine ⟨?_,?_,?_⟩
  ·intro y0 y1 y2 y3 y4 y5 y6 y7 y8 y9 y10
   unfold laws_FnExactOtherParty.j0
   repeat' first
   | (with_reducible exact ih0 _ _ _ _ _ _ _ _ _ _ _)
   | (with_reducible exact ih1 _ _ _ _ _ _ _ _)
   | (with_reducible exact ih2 _ _ _ _)
   | (with_reducible exact impl_OtherParty.mono _ _ _)
   | (with_reducible exact laws_eqParty.mono _ _ _ _ _)
   | (with_reducible exact laws_heldParty.mono _ _ _ _)
   | (with_reducible exact laws_markParty.mono _ _ _ _)
   | (with_reducible exact laws_toParty.mono _ _ _)
   | (with_reducible exact spec_OtherParty.mono _ _ _)
   | (with_reducible exact LeO.refl _)
   | (with_reducible exact LeO.none _)
   | (with_reducible refine LeO.ite ?_ ?_)
   | (with_reducible refine LeO.bind ?_ (fun _=>?_))
   | exact ih0 _ _ _ _ _ _ _ _ _ _ _
   | exact ih1 _ _ _ _ _ _ _ _
   | exact ih2 _ _ _ _
   | exact impl_OtherParty.mono _ _ _
   | exact laws_eqParty.mono _ _ _ _ _
   | exact laws_heldParty.mono _ _ _ _
   | exact laws_markParty.mono _ _ _ _
   | exact laws_toParty.mono _ _ _
   | exact spec_OtherParty.mono _ _ _
   | exact LeO.none _
   | refine LeO.ite ?_ ?_
   | refine LeO.bind ?_ (fun _=>?_)
  ·intro y0 y1 y2 y3 y4 y5 y6 y7
   unfold laws_FnExactOtherParty.j1
   repeat' first
   | (with_reducible exact ih0 _ _ _ _ _ _ _ _ _ _ _)
   | (with_reducible exact ih1 _ _ _ _ _ _ _ _)
   | (with_reducible exact ih2 _ _ _ _)
   | (with_reducible exact impl_OtherParty.mono _ _ _)
   | (with_reducible exact laws_eqParty.mono _ _ _ _ _)
   | (with_reducible exact laws_heldParty.mono _ _ _ _)
   | (with_reducible exact laws_markParty.mono _ _ _ _)
   | (with_reducible exact laws_toParty.mono _ _ _)
   | (with_reducible exact spec_OtherParty.mono _ _ _)
   | (with_reducible exact LeO.refl _)
   | (with_reducible exact LeO.none _)
   | (with_reducible refine LeO.ite ?_ ?_)
   | (with_reducible refine LeO.bind ?_ (fun _=>?_))
   | exact ih0 _ _ _ _ _ _ _ _ _ _ _
   | exact ih1 _ _ _ _ _ _ _ _
   | exact ih2 _ _ _ _
   | exact impl_OtherParty.mono _ _ _
   | exact laws_eqParty.mono _ _ _ _ _
   | exact laws_heldParty.mono _ _ _ _
   | exact laws_markParty.mono _ _ _ _
   | exact laws_toParty.mono _ _ _
   | exact spec_OtherParty.mono _ _ _
   | exact LeO.none _
   | refine LeO.ite ?_ ?_
   | refine LeO.bind ?_ (fun _=>?_)
  ·intro y0 y1 y2 y3
   unfold laws_FnExactOtherParty.j2
   repeat' first
   | (with_reducible exact ih0 _ _ _ _ _ _ _ _ _ _ _)
   | (with_reducible exact ih1 _ _ _ _ _ _ _ _)
   | (with_reducible exact ih2 _ _ _ _)
   | (with_reducible exact impl_OtherParty.mono _ _ _)
   | (with_reducible exact laws_eqParty.mono _ _ _ _ _)
   | (with_reducible exact laws_heldParty.mono _ _ _ _)
   | (with_reducible exact laws_markParty.mono _ _ _ _)
   | (with_reducible exact laws_toParty.mono _ _ _)
   | (with_reducible exact spec_OtherParty.mono _ _ _)
   | (with_reducible exact LeO.refl _)
   | (with_reducible exact LeO.none _)
   | (with_reducible refine LeO.ite ?_ ?_)
   | (with_reducible refine LeO.bind ?_ (fun _=>?_))
   | exact ih0 _ _ _ _ _ _ _ _ _ _ _
   | exact ih1 _ _ _ _ _ _ _ _
   | exact ih2 _ _ _ _
   | exact impl_OtherParty.mono _ _ _
   | exact laws_eqParty.mono _ _ _ _ _
   | exact laws_heldParty.mono _ _ _ _
   | exact laws_markParty.mono _ _ _ _
   | exact laws_toParty.mono _ _ _
   | exact spec_OtherParty.mono _ _ _
   | exact LeO.none _
   | refine LeO.ite ?_ ?_
   | refine LeO.bind ?_ (fun _=>?_)
theorem laws_FnExactOtherParty.mono:∀ a0 a1 k,LeO (laws_FnExactOtherParty.f k a0 a1) (laws_FnExactOtherParty.f (k+1) a0 a1):=by
 intro a0 a1 k
 obtain ⟨ih0,ih1,ih2⟩:=laws_FnExactOtherParty.mono_l k
 unfold laws_FnExactOtherParty.f
 repeat' first
   | (with_reducible exact ih0 _ _ _ _ _ _ _ _ _ _ _)
   | (with_reducible exact ih1 _ _ _ _ _ _ _ _)
   | (with_reducible exact ih2 _ _ _ _)
   | (with_reducible exact impl_OtherParty.mono _ _ _)
   | (with_reducible exact laws_eqParty.mono _ _ _ _ _)
   | (with_reducible exact laws_heldParty.mono _ _ _ _)
   | (with_reducible exact laws_markParty.mono _ _ _ _)
   | (with_reducible exact laws_toParty.mono _ _ _)
   | (with_reducible exact spec_OtherParty.mono _ _ _)
   | (with_reducible exact LeO.refl _)
   | (with_reducible exact LeO.none _)
   | (with_reducible refine LeO.ite ?_ ?_)
   | (with_reducible refine LeO.bind ?_ (fun _=>?_))
   | exact ih0 _ _ _ _ _ _ _ _ _ _ _
   | exact ih1 _ _ _ _ _ _ _ _
   | exact ih2 _ _ _ _
   | exact impl_OtherParty.mono _ _ _
   | exact laws_eqParty.mono _ _ _ _ _
   | exact laws_heldParty.mono _ _ _ _
   | exact laws_markParty.mono _ _ _ _
   | exact laws_toParty.mono _ _ _
   | exact spec_OtherParty.mono _ _ _
   | exact LeO.none _
   | refine LeO.ite ?_ ?_
   | refine LeO.bind ?_ (fun _=>?_)
set_option maxHeartbeats 8000000 in
set_option maxRecDepth 100000 in
theorem laws_FnExactOtherParty.calls (k:Nat) (a0_0:Int) (A0_1:Option Addr) (c0_1:Nat) (l0_1:List (S88)) (r:Bool) (w:World) (hr0_1:Kd.C k88 w A0_1 l0_1.length l0_1) (hc0_1:l0_1.length≤c0_1) (h:laws_FnExactOtherParty.f k a0_0 l0_1=some r) :
  Calls Try.prog 13 #[.agg #[.int .i64 a0_0,.slice A0_1 l0_1.length c0_1]] w fun e w'=>e=.returned (.bool r)∧Below w.heap.size w w':=by
 have hu24:=Try.underlying24
 have hu29:=Try.underlying29
 have HR0_1:=Aside0.mk hr0_1
 have HC0_1:=Aside0.mk hc0_1
 clear hr0_1 hc0_1
 have HB:=Aside0.mk (Below.refl w.heap.size w)
 have H:((laws_szParty.f a0_0 l0_1 1048576).bind fun t654=>(if t654 < 0 then (some true) else ((laws_toParty.f k a0_0 l0_1).bind fun bt655=>((spec_OtherParty.f k bt655.1 bt655.2).bind fun bt659=>((laws_toParty.f k a0_0 l0_1).bind fun bt665=>((impl_OtherParty.f k bt665.1 bt665.2).bind fun bt670=>((laws_eqParty.f k bt670.1 bt670.2.1 bt659.1 bt659.2.1).bind fun t676=>(if t676=true then (laws_FnExactOtherParty.j0 k bt659.2.2 bt670.2.2 (bt670.2.2 != bt659.2.2) a0_0 l0_1 bt659.1 bt659.2.1 bt665.1 bt665.2 bt670.1 bt670.2.1) else (laws_FnExactOtherParty.j0 k bt659.2.2 bt670.2.2 true a0_0 l0_1 bt659.1 bt659.2.1 bt665.1 bt665.2 bt670.1 bt670.2.1)))))))))=some r:=h
 clear h
 replace H:=zz30.mp H
 obtain ⟨t654,A20,H⟩:=H
 replace H:(if t654 < 0 then (some true) else ((laws_toParty.f k a0_0 l0_1).bind fun bt655=>((spec_OtherParty.f k bt655.1 bt655.2).bind fun bt659=>((laws_toParty.f k a0_0 l0_1).bind fun bt665=>((impl_OtherParty.f k bt665.1 bt665.2).bind fun bt670=>((laws_eqParty.f k bt670.1 bt670.2.1 bt659.1 bt659.2.1).bind fun t676=>(if t676=true then (laws_FnExactOtherParty.j0 k bt659.2.2 bt670.2.2 (bt670.2.2 != bt659.2.2) a0_0 l0_1 bt659.1 bt659.2.1 bt665.1 bt665.2 bt670.1 bt670.2.1) else (laws_FnExactOtherParty.j0 k bt659.2.2 bt670.2.2 true a0_0 l0_1 bt659.1 bt659.2.1 bt665.1 bt665.2 bt670.1 bt670.2.1))))))))=some r:=H
 have A2:=Aside0.mk A20
 clear A20
 by_cases c3:t654 < 0
 ·rw [if_pos c3] at H
  have c3b0:decide (t654 < 0)=true:=decide_eq_true c3
  clear c3
  obtain rfl:=Option.some.inj H
  go_enter Try.func13,Try.ntmps13
  go_wp2_with (first | ((with_reducible refine gate_dst (N:=1) rfl ?_);refine box_event ?hg (N:=1) ?hd (cs:=#[.int .i64 a0_0,.slice A0_1 l0_1.length c0_1]) (t:=24) ?hr ?_;(case hd=>rfl);(case hg=>rfl);(case hr=>first | (go_simp;done) | (go_simp;rfl));intro gb653 hg w4 hbox hb;have n0_:=Aside0.mk (zz4 (by repeat first | exact HB.out | apply zz2 | apply zz0 | apply zz1) hb);have n1_:=Aside0.mk (hbox);have n2_:=Aside0.mk ((by rw [hg];exact (zz5 (by repeat first | exact HB.out | apply zz2 | apply zz0 | apply zz1)):w.heap.size≤gb653));have n3_:=Aside0.mk ((by rw [hg];exact (zz5 (by repeat first | exact HB.out | apply zz2 | apply zz0 | apply zz1)):w.heap.size≤gb653));clear HB;have HB:=n0_;have BK653:=n1_;have GW653:=n2_;have GE653:=n3_;clear n0_ n1_ n2_ n3_;clear hb hbox hg;have hcz5_0:w4.cell? ⟨gb653,0,none⟩=some (.int .i64 a0_0):=(zz9 BK653.out 0).trans rfl;have hcz5_1:w4.cell? ⟨gb653,1,none⟩=some (.slice A0_1 l0_1.length c0_1):=(zz9 BK653.out 1).trans rfl;have hfz5_0:=zz10 BK653.out 0;have hfz5_1:=zz10 BK653.out 1) | ((with_reducible refine gate_callee (f:=15) rfl ?_);refine goesL_ (some 16) rfl rfl Try.func15 (by kernel_rfl) rfl #[.agg #[.int .i64 a0_0,.slice A0_1 l0_1.length c0_1],.int .i64 1048576] rfl (by (try simp only [zz26,zz27,zz28]);first | done | rfl | (simp only [zz24,zz25];rfl) | (simp only [zz25];congr;(try simp only [decide_eq_true_eq] at *);omega)) ?_;(with_reducible refine (laws_szParty.calls a0_0 _ _ l0_1 1048576 t654 _ ?side1 ?side2 A2.out).mono ?_);(case side1=>repeat (first | exact (Kd.C_below HR0_1.out HB.out) | (with_reducible refine zz18 ?_ _) | (with_reducible refine zz19 ?_ _) | (with_reducible refine zz20 ?_)));(case side2=>exact HC0_1.out);rintro e w6 ⟨rfl,hb⟩;refine ⟨_,rfl,?_⟩;have n0_:=Aside0.mk (zz11 (g:=gb653) (o:=.cells #[.int .i64 a0_0,.slice A0_1 l0_1.length c0_1] 24 (0,0)) (by (with_reducible repeat (first | refine zz6 ?_ _ | refine zz7 ?_ | refine zz8 ?_ _));exact BK653.out) hb);have n1_:=Aside0.mk (zz4 (by repeat first | exact HB.out | apply zz2 | apply zz0 | apply zz1 | refine zz3 ?_ GE653.out) hb);clear BK653;clear HB;have BK653:=n0_;have HB:=n1_;clear n0_ n1_;(try clear hb);(try clear hb2);(try clear hk);(try clear hi)))
  go_ret
  exact ⟨by first | rfl | (simp [errW_none,errW_some] <;> rfl) | (simp [*,errW_none,errW_some] <;> rfl),by repeat first | exact HB.out | apply zz2 | apply zz0 | apply zz1 | refine zz3 ?_ GE653.out⟩
 ·rw [if_neg c3] at H
  have c3b0:decide (t654 < 0)=false:=decide_eq_false c3
  clear c3
  replace H:=zz30.mp H
  obtain ⟨⟨t655,t656⟩,A70,H⟩:=H
  replace H:((spec_OtherParty.f k t655 t656).bind fun bt659=>((laws_toParty.f k a0_0 l0_1).bind fun bt665=>((impl_OtherParty.f k bt665.1 bt665.2).bind fun bt670=>((laws_eqParty.f k bt670.1 bt670.2.1 bt659.1 bt659.2.1).bind fun t676=>(if t676=true then (laws_FnExactOtherParty.j0 k bt659.2.2 bt670.2.2 (bt670.2.2 != bt659.2.2) a0_0 l0_1 bt659.1 bt659.2.1 bt665.1 bt665.2 bt670.1 bt670.2.1) else (laws_FnExactOtherParty.j0 k bt659.2.2 bt670.2.2 true a0_0 l0_1 bt659.1 bt659.2.1 bt665.1 bt665.2 bt670.1 bt670.2.1))))))=some r:=H
  have A7:=Aside0.mk A70
  clear A70
  replace H:=zz30.mp H
  obtain ⟨⟨t659,t660,t663⟩,A80,H⟩:=H
  replace H:((laws_toParty.f k a0_0 l0_1).bind fun bt665=>((impl_OtherParty.f k bt665.1 bt665.2).bind fun bt670=>((laws_eqParty.f k bt670.1 bt670.2.1 t659 t660).bind fun t676=>(if t676=true then (laws_FnExactOtherParty.j0 k t663 bt670.2.2 (bt670.2.2 != t663) a0_0 l0_1 t659 t660 bt665.1 bt665.2 bt670.1 bt670.2.1) else (laws_FnExactOtherParty.j0 k t663 bt670.2.2 true a0_0 l0_1 t659 t660 bt665.1 bt665.2 bt670.1 bt670.2.1)))))=some r:=H
  have A8:=Aside0.mk A80
  clear A80
  replace H:=zz30.mp H
  obtain ⟨⟨t665,t666⟩,A90,H⟩:=H
  replace H:((impl_OtherParty.f k t665 t666).bind fun bt670=>((laws_eqParty.f k bt670.1 bt670.2.1 t659 t660).bind fun t676=>(if t676=true then (laws_FnExactOtherParty.j0 k t663 bt670.2.2 (bt670.2.2 != t663) a0_0 l0_1 t659 t660 t665 t666 bt670.1 bt670.2.1) else (laws_FnExactOtherParty.j0 k t663 bt670.2.2 true a0_0 l0_1 t659 t660 t665 t666 bt670.1 bt670.2.1))))=some r:=H
  have A9:=Aside0.mk A90
  clear A90
  replace H:=zz30.mp H
  obtain ⟨⟨t670,t671,t674⟩,A100,H⟩:=H
  replace H:((laws_eqParty.f k t670 t671 t659 t660).bind fun t676=>(if t676=true then (laws_FnExactOtherParty.j0 k t663 t674 (t674 != t663) a0_0 l0_1 t659 t660 t665 t666 t670 t671) else (laws_FnExactOtherParty.j0 k t663 t674 true a0_0 l0_1 t659 t660 t665 t666 t670 t671)))=some r:=H
  have A10:=Aside0.mk A100
  clear A100
  have HC11:=Aside0.mk H
  clear H
  go_enter Try.func13,Try.ntmps13
  go_upto_region 8 with (first | ((with_reducible refine gate_dst (N:=1) rfl ?_);refine box_event ?hg (N:=1) ?hd (cs:=#[.int .i64 a0_0,.slice A0_1 l0_1.length c0_1]) (t:=24) ?hr ?_;(case hd=>rfl);(case hg=>rfl);(case hr=>first | (go_simp;done) | (go_simp;rfl));intro gb653 hg w12 hbox hb;have n0_:=Aside0.mk (zz4 (by repeat first | exact HB.out | apply zz2 | apply zz0 | apply zz1) hb);have n1_:=Aside0.mk (hbox);have n2_:=Aside0.mk ((by rw [hg];exact (zz5 (by repeat first | exact HB.out | apply zz2 | apply zz0 | apply zz1)):w.heap.size≤gb653));have n3_:=Aside0.mk ((by rw [hg];exact (zz5 (by repeat first | exact HB.out | apply zz2 | apply zz0 | apply zz1)):w.heap.size≤gb653));clear HB;have HB:=n0_;have BK653:=n1_;have GW653:=n2_;have GE653:=n3_;clear n0_ n1_ n2_ n3_;clear hb hbox hg;have hcz13_0:w12.cell? ⟨gb653,0,none⟩=some (.int .i64 a0_0):=(zz9 BK653.out 0).trans rfl;have hcz13_1:w12.cell? ⟨gb653,1,none⟩=some (.slice A0_1 l0_1.length c0_1):=(zz9 BK653.out 1).trans rfl;have hfz13_0:=zz10 BK653.out 0;have hfz13_1:=zz10 BK653.out 1) | ((with_reducible refine gate_callee (f:=15) rfl ?_);refine goesL_ (some 16) rfl rfl Try.func15 (by kernel_rfl) rfl #[.agg #[.int .i64 a0_0,.slice A0_1 l0_1.length c0_1],.int .i64 1048576] rfl (by (try simp only [zz26,zz27,zz28]);first | done | rfl | (simp only [zz24,zz25];rfl) | (simp only [zz25];congr;(try simp only [decide_eq_true_eq] at *);omega)) ?_;(with_reducible refine (laws_szParty.calls a0_0 _ _ l0_1 1048576 t654 _ ?side1 ?side2 A2.out).mono ?_);(case side1=>repeat (first | exact (Kd.C_below HR0_1.out HB.out) | (with_reducible refine zz18 ?_ _) | (with_reducible refine zz19 ?_ _) | (with_reducible refine zz20 ?_)));(case side2=>exact HC0_1.out);rintro e w14 ⟨rfl,hb⟩;refine ⟨_,rfl,?_⟩;have n0_:=Aside0.mk (zz11 (g:=gb653) (o:=.cells #[.int .i64 a0_0,.slice A0_1 l0_1.length c0_1] 24 (0,0)) (by (with_reducible repeat (first | refine zz6 ?_ _ | refine zz7 ?_ | refine zz8 ?_ _));exact BK653.out) hb);have n1_:=Aside0.mk (zz4 (by repeat first | exact HB.out | apply zz2 | apply zz0 | apply zz1 | refine zz3 ?_ GE653.out) hb);clear BK653;clear HB;have BK653:=n0_;have HB:=n1_;clear n0_ n1_;(try clear hb);(try clear hb2);(try clear hk);(try clear hi);have hcz15_0:w14.cell? ⟨gb653,0,none⟩=some (.int .i64 a0_0):=(zz9 BK653.out 0).trans rfl;have hcz15_1:w14.cell? ⟨gb653,1,none⟩=some (.slice A0_1 l0_1.length c0_1):=(zz9 BK653.out 1).trans rfl;have hfz15_0:=zz10 BK653.out 0;have hfz15_1:=zz10 BK653.out 1) | ((with_reducible refine gate_callee (f:=17) rfl ?_);refine goesL_ (some 21) rfl rfl Try.func17 (by kernel_rfl) rfl #[.agg #[.int .i64 a0_0,.slice A0_1 l0_1.length c0_1]] rfl (by (try simp only [zz26,zz27,zz28]);first | done | rfl | (simp only [zz24,zz25];rfl) | (simp only [zz25];congr;(try simp only [decide_eq_true_eq] at *);omega)) ?_;(with_reducible refine (laws_toParty.calls k a0_0 _ _ l0_1 t655 t656 _ ?side1 ?side2 A7.out).mono ?_);(case side1=>repeat (first | exact (Kd.C_below HR0_1.out HB.out) | (with_reducible refine zz18 ?_ _) | (with_reducible refine zz19 ?_ _) | (with_reducible refine zz20 ?_)));(case side2=>exact HC0_1.out);rintro e w16 ⟨v657,rfl,ho0,hb⟩;refine ⟨_,rfl,?_⟩;have n0_:=Aside0.mk (Kd.R_lower ho0 (zz5 (by repeat first | exact HB.out | apply zz2 | apply zz0 | apply zz1 | refine zz3 ?_ GE653.out)));have n1_:=Aside0.mk (zz11 (g:=gb653) (o:=.cells #[.int .i64 a0_0,.slice A0_1 l0_1.length c0_1] 24 (0,0)) (by (with_reducible repeat (first | refine zz6 ?_ _ | refine zz7 ?_ | refine zz8 ?_ _));exact BK653.out) hb);have n2_:=Aside0.mk (zz4 (by repeat first | exact HB.out | apply zz2 | apply zz0 | apply zz1 | refine zz3 ?_ GE653.out) hb);clear BK653;clear HB;have HO658:=n0_;have BK653:=n1_;have HB:=n2_;clear n0_ n1_ n2_;(try clear hb);(try clear hb2);(try clear hk);(try clear hi);(try clear ho0);obtain ⟨Ao17,co17,eo17⟩:=Kd.R_slice HO658.out;subst eo17) | ((with_reducible refine gate_callee (f:=44) rfl ?_);refine goesL_ (some 22) rfl rfl Try.func44 (by kernel_rfl) rfl #[.agg #[.int .i64 t655,.slice Ao17 t656.length co17]] rfl (by (try simp only [zz26,zz27,zz28]);first | done | rfl | (simp only [zz24,zz25];rfl) | (simp only [zz25];congr;(try simp only [decide_eq_true_eq] at *);omega)) ?_;(with_reducible refine (spec_OtherParty.calls k t655 _ _ t656 t659 t660 t663 _ ?side1 ?side2 A8.out).mono ?_);(case side1=>repeat (first | exact (Kd.R_reads' HO658.out).2.2 | (with_reducible refine zz18 ?_ _) | (with_reducible refine zz19 ?_ _) | (with_reducible refine zz20 ?_)));(case side2=>exact (Kd.R_reads' HO658.out).2.1);rintro e w18 ⟨v661,rfl,ho0,hb⟩;refine ⟨_,rfl,?_⟩;have n0_:=Aside0.mk (Kd.R_elder' (by (with_reducible repeat (first | apply zz12 | apply zz13 | apply zz14));exact HO658.out) (Kd.R_base ho0) hb);have n1_:=Aside0.mk (Kd.R_lower (Kd.R_new' ho0 (Kd.R_lt (by (with_reducible repeat (first | apply zz12 | apply zz13 | apply zz14));exact HO658.out))) (zz5 (by repeat first | exact HB.out | apply zz2 | apply zz0 | apply zz1 | refine zz3 ?_ GE653.out)));have n2_:=Aside0.mk (zz11 (g:=gb653) (o:=.cells #[.int .i64 a0_0,.slice A0_1 l0_1.length c0_1] 24 (0,0)) (by (with_reducible repeat (first | refine zz6 ?_ _ | refine zz7 ?_ | refine zz8 ?_ _));exact BK653.out) hb);have n3_:=Aside0.mk (zz4 (by repeat first | exact HB.out | apply zz2 | apply zz0 | apply zz1 | refine zz3 ?_ GE653.out) hb);clear HO658;clear BK653;clear HB;have HO658:=n0_;have HO662:=n1_;have BK653:=n2_;have HB:=n3_;clear n0_ n1_ n2_ n3_;(try clear hb);(try clear hb2);(try clear hk);(try clear hi);(try clear ho0)) | ((with_reducible refine gate_dst (N:=4) rfl ?_);refine box_event ?hg (N:=4) ?hd (cs:=#[.int .i64 0,.slice none 0 0]) (t:=29) ?hr ?_;(case hd=>rfl);(case hg=>rfl);(case hr=>first | (go_simp;done) | (go_simp;rfl));intro gb664 hg w19 hbox hb;have n0_:=Aside0.mk (Kd.R_below (by (with_reducible repeat (first | apply zz12 | apply zz13 | apply zz14));exact HO658.out) hb);have n1_:=Aside0.mk (Kd.R_below (by (with_reducible repeat (first | apply zz12 | apply zz13 | apply zz14));exact HO662.out) hb);have n2_:=Aside0.mk (zz11 (g:=gb653) (o:=.cells #[.int .i64 a0_0,.slice A0_1 l0_1.length c0_1] 24 (0,0)) (by (with_reducible repeat (first | refine zz6 ?_ _ | refine zz7 ?_ | refine zz8 ?_ _));exact BK653.out) hb);have n3_:=Aside0.mk (zz4 (by repeat first | exact HB.out | apply zz2 | apply zz0 | apply zz1 | refine zz3 ?_ GE653.out) hb);have n4_:=Aside0.mk (hbox);have n5_:=Aside0.mk ((by rw [hg];exact (zz5 (by repeat first | exact HB.out | apply zz2 | apply zz0 | apply zz1 | refine zz3 ?_ GE653.out)):w.heap.size≤gb664));have n6_:=Aside0.mk ((by rw [hg];exact (zz5 (by repeat first | exact HB.out | apply zz2 | apply zz0 | apply zz1 | refine zz3 ?_ GE653.out)):w.heap.size≤gb664));have n7_:=Aside0.mk ((by rw [hg];exact Nat.ne_of_lt (blk_lt (g:=gb653) (o:=.cells #[.int .i64 a0_0,.slice A0_1 l0_1.length c0_1] 24 (0,0)) (by (with_reducible repeat (first | refine zz6 ?_ _ | refine zz7 ?_ | refine zz8 ?_ _));exact BK653.out)):gb653 ≠ gb664));have n8_:=Aside0.mk ((by rw [hg];exact Nat.ne_of_gt (blk_lt (g:=gb653) (o:=.cells #[.int .i64 a0_0,.slice A0_1 l0_1.length c0_1] 24 (0,0)) (by (with_reducible repeat (first | refine zz6 ?_ _ | refine zz7 ?_ | refine zz8 ?_ _));exact BK653.out)):gb664 ≠ gb653));clear HO658;clear HO662;clear BK653;clear HB;have HO658:=n0_;have HO662:=n1_;have BK653:=n2_;have HB:=n3_;have BK664:=n4_;have GW664:=n5_;have GE664:=n6_;have NB653_664:=n7_;have NB664_653:=n8_;clear n0_ n1_ n2_ n3_ n4_ n5_ n6_ n7_ n8_;clear hb hbox hg;have hnb20:=NB664_653.out;have hnc20:=NB653_664.out;have hcz21_0:w19.cell? ⟨gb664,0,none⟩=some (.int .i64 0):=(zz9 BK664.out 0).trans rfl;have hcz21_1:w19.cell? ⟨gb664,1,none⟩=some (.slice none 0 0):=(zz9 BK664.out 1).trans rfl;have hfz21_0:=zz10 BK664.out 0;have hfz21_1:=zz10 BK664.out 1;obtain ⟨Ao22,co22,eo22⟩:=Kd.R_slice HO662.out;subst eo22;have hcz23_0:w19.cell? ⟨gb653,0,none⟩=some (.int .i64 a0_0):=(zz9 BK653.out 0).trans rfl;have hcz23_1:w19.cell? ⟨gb653,1,none⟩=some (.slice A0_1 l0_1.length c0_1):=(zz9 BK653.out 1).trans rfl;have hfz23_0:=zz10 BK653.out 0;have hfz23_1:=zz10 BK653.out 1) | ((with_reducible refine gate_callee (f:=17) rfl ?_);refine goesL_ (some 26) rfl rfl Try.func17 (by kernel_rfl) rfl #[.agg #[.int .i64 a0_0,.slice A0_1 l0_1.length c0_1]] rfl (by (try simp only [zz26,zz27,zz28]);first | done | rfl | (simp only [zz24,zz25];rfl) | (simp only [zz25];congr;(try simp only [decide_eq_true_eq] at *);omega)) ?_;(with_reducible refine (laws_toParty.calls k a0_0 _ _ l0_1 t665 t666 _ ?side1 ?side2 A9.out).mono ?_);(case side1=>exact Kd.C_below HR0_1.out (by repeat first | exact HB.out | apply zz2 | apply zz0 | apply zz1 | refine zz3 ?_ GE653.out | refine zz3 ?_ GE664.out));(case side2=>exact HC0_1.out);rintro e w24 ⟨v667,rfl,ho0,hb⟩;refine ⟨_,rfl,?_⟩;have n0_:=Aside0.mk (Kd.R_elder' (by (with_reducible repeat (first | apply zz12 | apply zz13 | apply zz14));exact (Kd.R_mono (Kd.R_far (p:=⟨gb664,1,none⟩) (Kd.R_far (p:=⟨gb664,0,none⟩) (Kd.R_types HO658.out BK664.out (by decide)) (fun _ hk=>hk.2) (.int .i64 t659)) (fun _ hk=>hk.2) (.slice Ao22 t660.length co22)) (fun _ h_=>h_.1))) (Kd.R_base ho0) hb);have n1_:=Aside0.mk (Kd.R_elder' (by (with_reducible repeat (first | apply zz12 | apply zz13 | apply zz14));exact (Kd.R_mono (Kd.R_far (p:=⟨gb664,1,none⟩) (Kd.R_far (p:=⟨gb664,0,none⟩) (Kd.R_types HO662.out BK664.out (by decide)) (fun _ hk=>hk.2) (.int .i64 t659)) (fun _ hk=>hk.2) (.slice Ao22 t660.length co22)) (fun _ h_=>h_.1))) (Kd.R_base ho0) hb);have n2_:=Aside0.mk (Kd.R_lower (Kd.R_new' (Kd.R_new' ho0 (Kd.R_lt (by (with_reducible repeat (first | apply zz12 | apply zz13 | apply zz14));exact (Kd.R_mono (Kd.R_far (p:=⟨gb664,1,none⟩) (Kd.R_far (p:=⟨gb664,0,none⟩) (Kd.R_types HO658.out BK664.out (by decide)) (fun _ hk=>hk.2) (.int .i64 t659)) (fun _ hk=>hk.2) (.slice Ao22 t660.length co22)) (fun _ h_=>h_.1))))) (Kd.R_lt (by (with_reducible repeat (first | apply zz12 | apply zz13 | apply zz14));exact (Kd.R_mono (Kd.R_far (p:=⟨gb664,1,none⟩) (Kd.R_far (p:=⟨gb664,0,none⟩) (Kd.R_types HO662.out BK664.out (by decide)) (fun _ hk=>hk.2) (.int .i64 t659)) (fun _ hk=>hk.2) (.slice Ao22 t660.length co22)) (fun _ h_=>h_.1))))) (zz5 (by repeat first | exact HB.out | apply zz2 | apply zz0 | apply zz1 | refine zz3 ?_ GE653.out | refine zz3 ?_ GE664.out)));have n3_:=Aside0.mk (zz11 (g:=gb653) (o:=.cells #[.int .i64 a0_0,.slice A0_1 l0_1.length c0_1] 24 (0,0)) (by (with_reducible repeat (first | refine zz6 ?_ _ | refine zz7 ?_ | refine zz8 ?_ _));refine blk_far ?_ NB653_664.out _;(with_reducible repeat (first | refine zz6 ?_ _ | refine zz7 ?_ | refine zz8 ?_ _));refine blk_far ?_ NB653_664.out _;(with_reducible repeat (first | refine zz6 ?_ _ | refine zz7 ?_ | refine zz8 ?_ _));exact BK653.out) hb);have n4_:=Aside0.mk (zz11 (g:=gb664) (o:=.cells #[.int .i64 t659,.slice Ao22 t660.length co22] 29 (0,0)) (by (with_reducible repeat (first | refine zz6 ?_ _ | refine zz7 ?_ | refine zz8 ?_ _));refine blk_put (cs:=#[.int .i64 t659,.slice none 0 0]) ?_ 1 _ rfl;(with_reducible repeat (first | refine zz6 ?_ _ | refine zz7 ?_ | refine zz8 ?_ _));refine blk_put (cs:=#[.int .i64 0,.slice none 0 0]) ?_ 0 _ rfl;(with_reducible repeat (first | refine zz6 ?_ _ | refine zz7 ?_ | refine zz8 ?_ _));exact BK664.out) hb);have n5_:=Aside0.mk (zz4 (by repeat first | exact HB.out | apply zz2 | apply zz0 | apply zz1 | refine zz3 ?_ GE653.out | refine zz3 ?_ GE664.out) hb);clear HO658;clear HO662;clear BK653;clear BK664;clear HB;have HO658:=n0_;have HO662:=n1_;have HO668:=n2_;have BK653:=n3_;have BK664:=n4_;have HB:=n5_;clear n0_ n1_ n2_ n3_ n4_ n5_;(try clear hb);(try clear hb2);(try clear hk);(try clear hi);(try clear ho0)) | ((with_reducible refine gate_dst (N:=6) rfl ?_);refine box_event ?hg (N:=6) ?hd (cs:=#[.int .i64 0,.slice none 0 0]) (t:=29) ?hr ?_;(case hd=>rfl);(case hg=>rfl);(case hr=>first | (go_simp;done) | (go_simp;rfl));intro gb669 hg w25 hbox hb;have n0_:=Aside0.mk (Kd.R_below (by (with_reducible repeat (first | apply zz12 | apply zz13 | apply zz14));exact HO658.out) hb);have n1_:=Aside0.mk (Kd.R_below (by (with_reducible repeat (first | apply zz12 | apply zz13 | apply zz14));exact HO662.out) hb);have n2_:=Aside0.mk (Kd.R_below (by (with_reducible repeat (first | apply zz12 | apply zz13 | apply zz14));exact HO668.out) hb);have n3_:=Aside0.mk (zz11 (g:=gb653) (o:=.cells #[.int .i64 a0_0,.slice A0_1 l0_1.length c0_1] 24 (0,0)) (by (with_reducible repeat (first | refine zz6 ?_ _ | refine zz7 ?_ | refine zz8 ?_ _));exact BK653.out) hb);have n4_:=Aside0.mk (zz11 (g:=gb664) (o:=.cells #[.int .i64 t659,.slice Ao22 t660.length co22] 29 (0,0)) (by (with_reducible repeat (first | refine zz6 ?_ _ | refine zz7 ?_ | refine zz8 ?_ _));exact BK664.out) hb);have n5_:=Aside0.mk (zz4 (by repeat first | exact HB.out | apply zz2 | apply zz0 | apply zz1 | refine zz3 ?_ GE653.out | refine zz3 ?_ GE664.out) hb);have n6_:=Aside0.mk (hbox);have n7_:=Aside0.mk ((by rw [hg];exact (zz5 (by repeat first | exact HB.out | apply zz2 | apply zz0 | apply zz1 | refine zz3 ?_ GE653.out | refine zz3 ?_ GE664.out)):w.heap.size≤gb669));have n8_:=Aside0.mk ((by rw [hg];exact (zz5 (by repeat first | exact HB.out | apply zz2 | apply zz0 | apply zz1 | refine zz3 ?_ GE653.out | refine zz3 ?_ GE664.out)):w.heap.size≤gb669));have n9_:=Aside0.mk ((by rw [hg];exact Nat.ne_of_lt (blk_lt (g:=gb653) (o:=.cells #[.int .i64 a0_0,.slice A0_1 l0_1.length c0_1] 24 (0,0)) (by (with_reducible repeat (first | refine zz6 ?_ _ | refine zz7 ?_ | refine zz8 ?_ _));exact BK653.out)):gb653 ≠ gb669));have n10_:=Aside0.mk ((by rw [hg];exact Nat.ne_of_gt (blk_lt (g:=gb653) (o:=.cells #[.int .i64 a0_0,.slice A0_1 l0_1.length c0_1] 24 (0,0)) (by (with_reducible repeat (first | refine zz6 ?_ _ | refine zz7 ?_ | refine zz8 ?_ _));exact BK653.out)):gb669 ≠ gb653));have n11_:=Aside0.mk ((by rw [hg];exact Nat.ne_of_lt (blk_lt (g:=gb664) (o:=.cells #[.int .i64 t659,.slice Ao22 t660.length co22] 29 (0,0)) (by (with_reducible repeat (first | refine zz6 ?_ _ | refine zz7 ?_ | refine zz8 ?_ _));exact BK664.out)):gb664 ≠ gb669));have n12_:=Aside0.mk ((by rw [hg];exact Nat.ne_of_gt (blk_lt (g:=gb664) (o:=.cells #[.int .i64 t659,.slice Ao22 t660.length co22] 29 (0,0)) (by (with_reducible repeat (first | refine zz6 ?_ _ | refine zz7 ?_ | refine zz8 ?_ _));exact BK664.out)):gb669 ≠ gb664));clear HO658;clear HO662;clear HO668;clear BK653;clear BK664;clear HB;have HO658:=n0_;have HO662:=n1_;have HO668:=n2_;have BK653:=n3_;have BK664:=n4_;have HB:=n5_;have BK669:=n6_;have GW669:=n7_;have GE669:=n8_;have NB653_669:=n9_;have NB669_653:=n10_;have NB664_669:=n11_;have NB669_664:=n12_;clear n0_ n1_ n2_ n3_ n4_ n5_ n6_ n7_ n8_ n9_ n10_ n11_ n12_;clear hb hbox hg;have hnb26:=NB669_653.out;have hnc26:=NB653_669.out;have hnb27:=NB669_664.out;have hnc27:=NB664_669.out;have hcz28_0:w25.cell? ⟨gb669,0,none⟩=some (.int .i64 0):=(zz9 BK669.out 0).trans rfl;have hcz28_1:w25.cell? ⟨gb669,1,none⟩=some (.slice none 0 0):=(zz9 BK669.out 1).trans rfl;have hfz28_0:=zz10 BK669.out 0;have hfz28_1:=zz10 BK669.out 1;obtain ⟨Ao29,co29,eo29⟩:=Kd.R_slice HO668.out;subst eo29) | ((with_reducible refine gate_callee (f:=45) rfl ?_);refine goesL_ (some 29) rfl rfl Try.func45 (by kernel_rfl) rfl #[.agg #[.int .i64 t665,.slice Ao29 t666.length co29]] rfl (by (try simp only [zz26,zz27,zz28]);first | done | rfl | (simp only [zz24,zz25];rfl) | (simp only [zz25];congr;(try simp only [decide_eq_true_eq] at *);omega)) ?_;(with_reducible refine (impl_OtherParty.calls k t665 _ _ t666 t670 t671 t674 _ ?side1 ?side2 A10.out).mono ?_);(case side1=>refine (Kd.R_reads' (e:=61) (base:=w.heap.size) (ok:=fun k_=>((True∧some k_ ≠ (.slice Ao17 t656.length co17:Value).ownBlock)∧some k_ ≠ (.slice Ao22 t660.length co22:Value).ownBlock)) (n:=t666.length) (c:=co29) ?_).2.2;exact (by (with_reducible repeat (first | apply zz12 | apply zz13 | apply zz14));exact (Kd.R_mono (Kd.R_far (p:=⟨gb669,1,none⟩) (Kd.R_far (p:=⟨gb669,0,none⟩) (Kd.R_types HO668.out BK669.out (by decide)) (fun _ hk=>hk.2) (.int .i64 t665)) (fun _ hk=>hk.2) (.slice Ao29 t666.length co29)) (fun _ h_=>h_.1))));(case side2=>exact (Kd.R_reads' HO668.out).2.1);rintro e w30 ⟨v672,rfl,ho0,hb⟩;refine ⟨_,rfl,?_⟩;have n0_:=Aside0.mk (Kd.R_elder' (by (with_reducible repeat (first | apply zz12 | apply zz13 | apply zz14));exact (Kd.R_mono (Kd.R_far (p:=⟨gb669,1,none⟩) (Kd.R_far (p:=⟨gb669,0,none⟩) (Kd.R_types HO658.out BK669.out (by decide)) (fun _ hk=>hk.2) (.int .i64 t665)) (fun _ hk=>hk.2) (.slice Ao29 t666.length co29)) (fun _ h_=>h_.1))) (Kd.R_base ho0) hb);have n1_:=Aside0.mk (Kd.R_elder' (by (with_reducible repeat (first | apply zz12 | apply zz13 | apply zz14));exact (Kd.R_mono (Kd.R_far (p:=⟨gb669,1,none⟩) (Kd.R_far (p:=⟨gb669,0,none⟩) (Kd.R_types HO662.out BK669.out (by decide)) (fun _ hk=>hk.2) (.int .i64 t665)) (fun _ hk=>hk.2) (.slice Ao29 t666.length co29)) (fun _ h_=>h_.1))) (Kd.R_base ho0) hb);have n2_:=Aside0.mk (Kd.R_elder' (by (with_reducible repeat (first | apply zz12 | apply zz13 | apply zz14));exact (Kd.R_mono (Kd.R_far (p:=⟨gb669,1,none⟩) (Kd.R_far (p:=⟨gb669,0,none⟩) (Kd.R_types HO668.out BK669.out (by decide)) (fun _ hk=>hk.2) (.int .i64 t665)) (fun _ hk=>hk.2) (.slice Ao29 t666.length co29)) (fun _ h_=>h_.1))) (Kd.R_base ho0) hb);have n3_:=Aside0.mk (Kd.R_lower (Kd.R_new' (Kd.R_new' (Kd.R_new' ho0 (Kd.R_lt (by (with_reducible repeat (first | apply zz12 | apply zz13 | apply zz14));exact (Kd.R_mono (Kd.R_far (p:=⟨gb669,1,none⟩) (Kd.R_far (p:=⟨gb669,0,none⟩) (Kd.R_types HO658.out BK669.out (by decide)) (fun _ hk=>hk.2) (.int .i64 t665)) (fun _ hk=>hk.2) (.slice Ao29 t666.length co29)) (fun _ h_=>h_.1))))) (Kd.R_lt (by (with_reducible repeat (first | apply zz12 | apply zz13 | apply zz14));exact (Kd.R_mono (Kd.R_far (p:=⟨gb669,1,none⟩) (Kd.R_far (p:=⟨gb669,0,none⟩) (Kd.R_types HO662.out BK669.out (by decide)) (fun _ hk=>hk.2) (.int .i64 t665)) (fun _ hk=>hk.2) (.slice Ao29 t666.length co29)) (fun _ h_=>h_.1))))) (Kd.R_lt (by (with_reducible repeat (first | apply zz12 | apply zz13 | apply zz14));exact (Kd.R_mono (Kd.R_far (p:=⟨gb669,1,none⟩) (Kd.R_far (p:=⟨gb669,0,none⟩) (Kd.R_types HO668.out BK669.out (by decide)) (fun _ hk=>hk.2) (.int .i64 t665)) (fun _ hk=>hk.2) (.slice Ao29 t666.length co29)) (fun _ h_=>h_.1))))) (zz5 (by repeat first | exact HB.out | apply zz2 | apply zz0 | apply zz1 | refine zz3 ?_ GE653.out | refine zz3 ?_ GE664.out | refine zz3 ?_ GE669.out)));have n4_:=Aside0.mk (zz11 (g:=gb653) (o:=.cells #[.int .i64 a0_0,.slice A0_1 l0_1.length c0_1] 24 (0,0)) (by (with_reducible repeat (first | refine zz6 ?_ _ | refine zz7 ?_ | refine zz8 ?_ _));refine blk_far ?_ NB653_669.out _;(with_reducible repeat (first | refine zz6 ?_ _ | refine zz7 ?_ | refine zz8 ?_ _));refine blk_far ?_ NB653_669.out _;(with_reducible repeat (first | refine zz6 ?_ _ | refine zz7 ?_ | refine zz8 ?_ _));exact BK653.out) hb);have n5_:=Aside0.mk (zz11 (g:=gb664) (o:=.cells #[.int .i64 t659,.slice Ao22 t660.length co22] 29 (0,0)) (by (with_reducible repeat (first | refine zz6 ?_ _ | refine zz7 ?_ | refine zz8 ?_ _));refine blk_far ?_ NB664_669.out _;(with_reducible repeat (first | refine zz6 ?_ _ | refine zz7 ?_ | refine zz8 ?_ _));refine blk_far ?_ NB664_669.out _;(with_reducible repeat (first | refine zz6 ?_ _ | refine zz7 ?_ | refine zz8 ?_ _));exact BK664.out) hb);have n6_:=Aside0.mk (zz11 (g:=gb669) (o:=.cells #[.int .i64 t665,.slice Ao29 t666.length co29] 29 (0,0)) (by (with_reducible repeat (first | refine zz6 ?_ _ | refine zz7 ?_ | refine zz8 ?_ _));refine blk_put (cs:=#[.int .i64 t665,.slice none 0 0]) ?_ 1 _ rfl;(with_reducible repeat (first | refine zz6 ?_ _ | refine zz7 ?_ | refine zz8 ?_ _));refine blk_put (cs:=#[.int .i64 0,.slice none 0 0]) ?_ 0 _ rfl;(with_reducible repeat (first | refine zz6 ?_ _ | refine zz7 ?_ | refine zz8 ?_ _));exact BK669.out) hb);have n7_:=Aside0.mk (zz4 (by repeat first | exact HB.out | apply zz2 | apply zz0 | apply zz1 | refine zz3 ?_ GE653.out | refine zz3 ?_ GE664.out | refine zz3 ?_ GE669.out) hb);clear HO658;clear HO662;clear HO668;clear BK653;clear BK664;clear BK669;clear HB;have HO658:=n0_;have HO662:=n1_;have HO668:=n2_;have HO673:=n3_;have BK653:=n4_;have BK664:=n5_;have BK669:=n6_;have HB:=n7_;clear n0_ n1_ n2_ n3_ n4_ n5_ n6_ n7_;(try clear hb);(try clear hb2);(try clear hk);(try clear hi);(try clear ho0)) | ((with_reducible refine gate_dst (N:=7) rfl ?_);refine box_event ?hg (N:=7) ?hd (cs:=#[.int .i64 0,.slice none 0 0]) (t:=29) ?hr ?_;(case hd=>rfl);(case hg=>rfl);(case hr=>first | (go_simp;done) | (go_simp;rfl));intro gb675 hg w31 hbox hb;have n0_:=Aside0.mk (Kd.R_below (by (with_reducible repeat (first | apply zz12 | apply zz13 | apply zz14));exact HO658.out) hb);have n1_:=Aside0.mk (Kd.R_below (by (with_reducible repeat (first | apply zz12 | apply zz13 | apply zz14));exact HO662.out) hb);have n2_:=Aside0.mk (Kd.R_below (by (with_reducible repeat (first | apply zz12 | apply zz13 | apply zz14));exact HO668.out) hb);have n3_:=Aside0.mk (Kd.R_below (by (with_reducible repeat (first | apply zz12 | apply zz13 | apply zz14));exact HO673.out) hb);have n4_:=Aside0.mk (zz11 (g:=gb653) (o:=.cells #[.int .i64 a0_0,.slice A0_1 l0_1.length c0_1] 24 (0,0)) (by (with_reducible repeat (first | refine zz6 ?_ _ | refine zz7 ?_ | refine zz8 ?_ _));exact BK653.out) hb);have n5_:=Aside0.mk (zz11 (g:=gb664) (o:=.cells #[.int .i64 t659,.slice Ao22 t660.length co22] 29 (0,0)) (by (with_reducible repeat (first | refine zz6 ?_ _ | refine zz7 ?_ | refine zz8 ?_ _));exact BK664.out) hb);have n6_:=Aside0.mk (zz11 (g:=gb669) (o:=.cells #[.int .i64 t665,.slice Ao29 t666.length co29] 29 (0,0)) (by (with_reducible repeat (first | refine zz6 ?_ _ | refine zz7 ?_ | refine zz8 ?_ _));exact BK669.out) hb);have n7_:=Aside0.mk (zz4 (by repeat first | exact HB.out | apply zz2 | apply zz0 | apply zz1 | refine zz3 ?_ GE653.out | refine zz3 ?_ GE664.out | refine zz3 ?_ GE669.out) hb);have n8_:=Aside0.mk (hbox);have n9_:=Aside0.mk ((by rw [hg];exact (zz5 (by repeat first | exact HB.out | apply zz2 | apply zz0 | apply zz1 | refine zz3 ?_ GE653.out | refine zz3 ?_ GE664.out | refine zz3 ?_ GE669.out)):w.heap.size≤gb675));have n10_:=Aside0.mk ((by rw [hg];exact (zz5 (by repeat first | exact HB.out | apply zz2 | apply zz0 | apply zz1 | refine zz3 ?_ GE653.out | refine zz3 ?_ GE664.out | refine zz3 ?_ GE669.out)):w.heap.size≤gb675));have n11_:=Aside0.mk ((by rw [hg];exact Nat.ne_of_lt (blk_lt (g:=gb653) (o:=.cells #[.int .i64 a0_0,.slice A0_1 l0_1.length c0_1] 24 (0,0)) (by (with_reducible repeat (first | refine zz6 ?_ _ | refine zz7 ?_ | refine zz8 ?_ _));exact BK653.out)):gb653 ≠ gb675));have n12_:=Aside0.mk ((by rw [hg];exact Nat.ne_of_gt (blk_lt (g:=gb653) (o:=.cells #[.int .i64 a0_0,.slice A0_1 l0_1.length c0_1] 24 (0,0)) (by (with_reducible repeat (first | refine zz6 ?_ _ | refine zz7 ?_ | refine zz8 ?_ _));exact BK653.out)):gb675 ≠ gb653));have n13_:=Aside0.mk ((by rw [hg];exact Nat.ne_of_lt (blk_lt (g:=gb664) (o:=.cells #[.int .i64 t659,.slice Ao22 t660.length co22] 29 (0,0)) (by (with_reducible repeat (first | refine zz6 ?_ _ | refine zz7 ?_ | refine zz8 ?_ _));exact BK664.out)):gb664 ≠ gb675));have n14_:=Aside0.mk ((by rw [hg];exact Nat.ne_of_gt (blk_lt (g:=gb664) (o:=.cells #[.int .i64 t659,.slice Ao22 t660.length co22] 29 (0,0)) (by (with_reducible repeat (first | refine zz6 ?_ _ | refine zz7 ?_ | refine zz8 ?_ _));exact BK664.out)):gb675 ≠ gb664));have n15_:=Aside0.mk ((by rw [hg];exact Nat.ne_of_lt (blk_lt (g:=gb669) (o:=.cells #[.int .i64 t665,.slice Ao29 t666.length co29] 29 (0,0)) (by (with_reducible repeat (first | refine zz6 ?_ _ | refine zz7 ?_ | refine zz8 ?_ _));exact BK669.out)):gb669 ≠ gb675));have n16_:=Aside0.mk ((by rw [hg];exact Nat.ne_of_gt (blk_lt (g:=gb669) (o:=.cells #[.int .i64 t665,.slice Ao29 t666.length co29] 29 (0,0)) (by (with_reducible repeat (first | refine zz6 ?_ _ | refine zz7 ?_ | refine zz8 ?_ _));exact BK669.out)):gb675 ≠ gb669));clear HO658;clear HO662;clear HO668;clear HO673;clear BK653;clear BK664;clear BK669;clear HB;have HO658:=n0_;have HO662:=n1_;have HO668:=n2_;have HO673:=n3_;have BK653:=n4_;have BK664:=n5_;have BK669:=n6_;have HB:=n7_;have BK675:=n8_;have GW675:=n9_;have GE675:=n10_;have NB653_675:=n11_;have NB675_653:=n12_;have NB664_675:=n13_;have NB675_664:=n14_;have NB669_675:=n15_;have NB675_669:=n16_;clear n0_ n1_ n2_ n3_ n4_ n5_ n6_ n7_ n8_ n9_ n10_ n11_ n12_ n13_ n14_ n15_ n16_;clear hb hbox hg;have hnb32:=NB675_653.out;have hnc32:=NB653_675.out;have hnb33:=NB675_664.out;have hnc33:=NB664_675.out;have hnb34:=NB675_669.out;have hnc34:=NB669_675.out;have hcz35_0:w31.cell? ⟨gb675,0,none⟩=some (.int .i64 0):=(zz9 BK675.out 0).trans rfl;have hcz35_1:w31.cell? ⟨gb675,1,none⟩=some (.slice none 0 0):=(zz9 BK675.out 1).trans rfl;have hfz35_0:=zz10 BK675.out 0;have hfz35_1:=zz10 BK675.out 1;obtain ⟨Ao36,co36,eo36⟩:=Kd.R_slice HO673.out;subst eo36))
  (try simp only [Act.put,zz21,zz22,zz23])
  go_cut [40] (fun v40 wc=>∃ (kq:Nat) (x40_10:Bool),v40=.bool x40_10∧Aside0 (laws_FnExactOtherParty.j0 kq t663 t674 x40_10 a0_0 l0_1 t659 t660 t665 t666 t670 t671=some r)∧Aside0 (kq≤k)∧Aside0 (Kd.R k61 61 wc w.heap.size (fun k_=>some k_ ≠ ((.slice Ao29 t666.length co29):Value).ownBlock∧some k_ ≠ ((.slice Ao36 t671.length co36):Value).ownBlock) (.slice Ao22 t660.length co22) t660)∧Aside0 (Kd.R k61 61 wc w.heap.size (fun k_=>some k_ ≠ ((.slice Ao22 t660.length co22):Value).ownBlock∧some k_ ≠ ((.slice Ao36 t671.length co36):Value).ownBlock) (.slice Ao29 t666.length co29) t666)∧Aside0 (Kd.R k61 61 wc w.heap.size (fun k_=>some k_ ≠ ((.slice Ao22 t660.length co22):Value).ownBlock∧some k_ ≠ ((.slice Ao29 t666.length co29):Value).ownBlock) (.slice Ao36 t671.length co36) t671)∧Aside0 (wc.heap[gb653]?=some (.cells #[.int .i64 a0_0,(.slice A0_1 l0_1.length c0_1)] 24 (0,0)))∧Aside0 (wc.heap[gb664]?=some (.cells #[.int .i64 t659,(.slice Ao22 t660.length co22)] 29 (0,0)))∧Aside0 (wc.heap[gb669]?=some (.cells #[.int .i64 t665,(.slice Ao29 t666.length co29)] 29 (0,0)))∧Aside0 (wc.heap[gb675]?=some (.cells #[.int .i64 t670,(.slice Ao36 t671.length co36)] 29 (0,0)))∧Aside0 (Below w.heap.size w wc))
  case first =>
   have H:=HC11.out
   clear HC11
   replace H:=zz30.mp H
   obtain ⟨t676,A370,H⟩:=H
   replace H:(if t676=true then (laws_FnExactOtherParty.j0 k t663 t674 (t674 != t663) a0_0 l0_1 t659 t660 t665 t666 t670 t671) else (laws_FnExactOtherParty.j0 k t663 t674 true a0_0 l0_1 t659 t660 t665 t666 t670 t671))=some r:=H
   have A37:=Aside0.mk A370
   clear A370
   by_cases c38:t676=true
   ·subst c38
    have H1:(laws_FnExactOtherParty.j0 k t663 t674 (t674 != t663) a0_0 l0_1 t659 t660 t665 t666 t670 t671)=some r:=by rw [if_pos rfl] at H;exact H
    clear H
    have H:=H1
    clear H1
    have H':=Aside0.mk H
    clear H
    have hnb39:=NB675_653.out
    have hnc39:=NB653_675.out
    have hnb40:=NB675_664.out
    have hnc40:=NB664_675.out
    have hnb41:=NB675_669.out
    have hnc41:=NB669_675.out
    have hcz42_0:w31.cell? ⟨gb675,0,none⟩=some (.int .i64 0):=(zz9 BK675.out 0).trans rfl
    have hcz42_1:w31.cell? ⟨gb675,1,none⟩=some (.slice none 0 0):=(zz9 BK675.out 1).trans rfl
    have hfz42_0:=zz10 BK675.out 0
    have hfz42_1:=zz10 BK675.out 1
    have hnb43:=NB664_653.out
    have hnc43:=NB653_664.out
    have hnb44:=NB664_669.out
    have hnc44:=NB669_664.out
    have hcz45_0:w31.cell? ⟨gb664,0,none⟩=some (.int .i64 t659):=(zz9 BK664.out 0).trans rfl
    have hcz45_1:w31.cell? ⟨gb664,1,none⟩=some (.slice Ao22 t660.length co22):=(zz9 BK664.out 1).trans rfl
    have hfz45_0:=zz10 BK664.out 0
    have hfz45_1:=zz10 BK664.out 1
    go_wp2_with (first | ((with_reducible refine gate_callee (f:=19) rfl ?_);refine goesL_ (some 34) rfl rfl Try.func19 (by kernel_rfl) rfl #[.agg #[.int .i64 t670,.slice Ao36 t671.length co36],.agg #[.int .i64 t659,.slice Ao22 t660.length co22]] rfl (by (try simp only [zz26,zz27,zz28]);first | done | rfl | (simp only [zz24,zz25];rfl) | (simp only [zz25];congr;(try simp only [decide_eq_true_eq] at *);omega)) ?_;(with_reducible refine (laws_eqParty.calls k t670 _ _ t671 t659 _ _ t660 true _ ?side1 ?side2 ?side3 ?side4 A37.out).mono ?_);(case side1=>refine (Kd.R_reads' (e:=61) (base:=w.heap.size) (ok:=fun k_=>(((True∧some k_ ≠ (.slice Ao17 t656.length co17:Value).ownBlock)∧some k_ ≠ (.slice Ao22 t660.length co22:Value).ownBlock)∧some k_ ≠ (.slice Ao29 t666.length co29:Value).ownBlock)) (n:=t671.length) (c:=co36) ?_).2.2;exact (by (with_reducible repeat (first | apply zz12 | apply zz13 | apply zz14));exact (Kd.R_mono (Kd.R_far (p:=⟨gb675,1,none⟩) (Kd.R_far (p:=⟨gb675,0,none⟩) (Kd.R_types HO673.out BK675.out (by decide)) (fun _ hk=>hk.2) (.int .i64 t670)) (fun _ hk=>hk.2) (.slice Ao36 t671.length co36)) (fun _ h_=>h_.1))));(case side2=>exact (Kd.R_reads' HO673.out).2.1);(case side3=>refine (Kd.R_reads' (e:=61) (base:=w.heap.size) (ok:=fun k_=>(((True∧some k_ ≠ (.slice Ao17 t656.length co17:Value).ownBlock)∧some k_ ≠ (.slice Ao29 t666.length co29:Value).ownBlock)∧some k_ ≠ (.slice Ao36 t671.length co36:Value).ownBlock)) (n:=t660.length) (c:=co22) ?_).2.2;exact (by (with_reducible repeat (first | apply zz12 | apply zz13 | apply zz14));exact (Kd.R_mono (Kd.R_far (p:=⟨gb675,1,none⟩) (Kd.R_far (p:=⟨gb675,0,none⟩) (Kd.R_types HO662.out BK675.out (by decide)) (fun _ hk=>hk.2) (.int .i64 t670)) (fun _ hk=>hk.2) (.slice Ao36 t671.length co36)) (fun _ h_=>h_.1))));(case side4=>exact (Kd.R_reads' HO662.out).2.1);rintro e w46 ⟨rfl,hb⟩;refine ⟨_,rfl,?_⟩;have n0_:=Aside0.mk (Kd.R_below (by (with_reducible repeat (first | apply zz12 | apply zz13 | apply zz14));exact (Kd.R_mono (Kd.R_far (p:=⟨gb675,1,none⟩) (Kd.R_far (p:=⟨gb675,0,none⟩) (Kd.R_types HO658.out BK675.out (by decide)) (fun _ hk=>hk.2) (.int .i64 t670)) (fun _ hk=>hk.2) (.slice Ao36 t671.length co36)) (fun _ h_=>h_.1))) hb);have n1_:=Aside0.mk (Kd.R_below (by (with_reducible repeat (first | apply zz12 | apply zz13 | apply zz14));exact (Kd.R_mono (Kd.R_far (p:=⟨gb675,1,none⟩) (Kd.R_far (p:=⟨gb675,0,none⟩) (Kd.R_types HO662.out BK675.out (by decide)) (fun _ hk=>hk.2) (.int .i64 t670)) (fun _ hk=>hk.2) (.slice Ao36 t671.length co36)) (fun _ h_=>h_.1))) hb);have n2_:=Aside0.mk (Kd.R_below (by (with_reducible repeat (first | apply zz12 | apply zz13 | apply zz14));exact (Kd.R_mono (Kd.R_far (p:=⟨gb675,1,none⟩) (Kd.R_far (p:=⟨gb675,0,none⟩) (Kd.R_types HO668.out BK675.out (by decide)) (fun _ hk=>hk.2) (.int .i64 t670)) (fun _ hk=>hk.2) (.slice Ao36 t671.length co36)) (fun _ h_=>h_.1))) hb);have n3_:=Aside0.mk (Kd.R_below (by (with_reducible repeat (first | apply zz12 | apply zz13 | apply zz14));exact (Kd.R_mono (Kd.R_far (p:=⟨gb675,1,none⟩) (Kd.R_far (p:=⟨gb675,0,none⟩) (Kd.R_types HO673.out BK675.out (by decide)) (fun _ hk=>hk.2) (.int .i64 t670)) (fun _ hk=>hk.2) (.slice Ao36 t671.length co36)) (fun _ h_=>h_.1))) hb);have n4_:=Aside0.mk (zz11 (g:=gb653) (o:=.cells #[.int .i64 a0_0,.slice A0_1 l0_1.length c0_1] 24 (0,0)) (by (with_reducible repeat (first | refine zz6 ?_ _ | refine zz7 ?_ | refine zz8 ?_ _));refine blk_far ?_ NB653_675.out _;(with_reducible repeat (first | refine zz6 ?_ _ | refine zz7 ?_ | refine zz8 ?_ _));refine blk_far ?_ NB653_675.out _;(with_reducible repeat (first | refine zz6 ?_ _ | refine zz7 ?_ | refine zz8 ?_ _));exact BK653.out) hb);have n5_:=Aside0.mk (zz11 (g:=gb664) (o:=.cells #[.int .i64 t659,.slice Ao22 t660.length co22] 29 (0,0)) (by (with_reducible repeat (first | refine zz6 ?_ _ | refine zz7 ?_ | refine zz8 ?_ _));refine blk_far ?_ NB664_675.out _;(with_reducible repeat (first | refine zz6 ?_ _ | refine zz7 ?_ | refine zz8 ?_ _));refine blk_far ?_ NB664_675.out _;(with_reducible repeat (first | refine zz6 ?_ _ | refine zz7 ?_ | refine zz8 ?_ _));exact BK664.out) hb);have n6_:=Aside0.mk (zz11 (g:=gb669) (o:=.cells #[.int .i64 t665,.slice Ao29 t666.length co29] 29 (0,0)) (by (with_reducible repeat (first | refine zz6 ?_ _ | refine zz7 ?_ | refine zz8 ?_ _));refine blk_far ?_ NB669_675.out _;(with_reducible repeat (first | refine zz6 ?_ _ | refine zz7 ?_ | refine zz8 ?_ _));refine blk_far ?_ NB669_675.out _;(with_reducible repeat (first | refine zz6 ?_ _ | refine zz7 ?_ | refine zz8 ?_ _));exact BK669.out) hb);have n7_:=Aside0.mk (zz11 (g:=gb675) (o:=.cells #[.int .i64 t670,.slice Ao36 t671.length co36] 29 (0,0)) (by (with_reducible repeat (first | refine zz6 ?_ _ | refine zz7 ?_ | refine zz8 ?_ _));refine blk_put (cs:=#[.int .i64 t670,.slice none 0 0]) ?_ 1 _ rfl;(with_reducible repeat (first | refine zz6 ?_ _ | refine zz7 ?_ | refine zz8 ?_ _));refine blk_put (cs:=#[.int .i64 0,.slice none 0 0]) ?_ 0 _ rfl;(with_reducible repeat (first | refine zz6 ?_ _ | refine zz7 ?_ | refine zz8 ?_ _));exact BK675.out) hb);have n8_:=Aside0.mk (zz4 (by repeat first | exact HB.out | apply zz2 | apply zz0 | apply zz1 | refine zz3 ?_ GE653.out | refine zz3 ?_ GE664.out | refine zz3 ?_ GE669.out | refine zz3 ?_ GE675.out) hb);clear HO658;clear HO662;clear HO668;clear HO673;clear BK653;clear BK664;clear BK669;clear BK675;clear HB;have HO658:=n0_;have HO662:=n1_;have HO668:=n2_;have HO673:=n3_;have BK653:=n4_;have BK664:=n5_;have BK669:=n6_;have BK675:=n7_;have HB:=n8_;clear n0_ n1_ n2_ n3_ n4_ n5_ n6_ n7_ n8_;(try clear hb);(try clear hb2);(try clear hk);(try clear hi)))
    go_meet
    case rel=>exact ⟨_,((t674 != t663)),(by first | rfl | (simp;done) | (simp [*];done)),H',⟨by first | omega | exact Nat.le_refl _⟩,⟨by (with_reducible repeat (first | apply zz12 | apply zz13 | apply zz14));exact Kd.R_mono HO662.out (fun _ hk=>⟨hk.1.2,hk.2⟩)⟩,⟨by (with_reducible repeat (first | apply zz12 | apply zz13 | apply zz14));exact Kd.R_mono HO668.out (fun _ hk=>⟨hk.1.2,hk.2⟩)⟩,⟨by (with_reducible repeat (first | apply zz12 | apply zz13 | apply zz14));exact Kd.R_mono HO673.out (fun _ hk=>⟨hk.1.2,hk.2⟩)⟩,⟨by (with_reducible repeat (first | refine zz6 ?_ _ | refine zz7 ?_ | refine zz8 ?_ _));exact BK653.out⟩,⟨by (with_reducible repeat (first | refine zz6 ?_ _ | refine zz7 ?_ | refine zz8 ?_ _));exact BK664.out⟩,⟨by (with_reducible repeat (first | refine zz6 ?_ _ | refine zz7 ?_ | refine zz8 ?_ _));exact BK669.out⟩,⟨by (with_reducible repeat (first | refine zz6 ?_ _ | refine zz7 ?_ | refine zz8 ?_ _));exact BK675.out⟩,⟨by repeat first | exact HB.out | apply zz2 | apply zz0 | apply zz1 | refine zz3 ?_ GE653.out | refine zz3 ?_ GE664.out | refine zz3 ?_ GE669.out | refine zz3 ?_ GE675.out⟩⟩
   ·replace c38:=Bool.eq_false_iff.mpr c38
    subst c38
    have H1:(laws_FnExactOtherParty.j0 k t663 t674 true a0_0 l0_1 t659 t660 t665 t666 t670 t671)=some r:=by rw [if_neg (show ¬ (false=true) by decide)] at H;exact H
    clear H
    have H:=H1
    clear H1
    have H':=Aside0.mk H
    clear H
    have hnb47:=NB675_653.out
    have hnc47:=NB653_675.out
    have hnb48:=NB675_664.out
    have hnc48:=NB664_675.out
    have hnb49:=NB675_669.out
    have hnc49:=NB669_675.out
    have hcz50_0:w31.cell? ⟨gb675,0,none⟩=some (.int .i64 0):=(zz9 BK675.out 0).trans rfl
    have hcz50_1:w31.cell? ⟨gb675,1,none⟩=some (.slice none 0 0):=(zz9 BK675.out 1).trans rfl
    have hfz50_0:=zz10 BK675.out 0
    have hfz50_1:=zz10 BK675.out 1
    have hnb51:=NB664_653.out
    have hnc51:=NB653_664.out
    have hnb52:=NB664_669.out
    have hnc52:=NB669_664.out
    have hcz53_0:w31.cell? ⟨gb664,0,none⟩=some (.int .i64 t659):=(zz9 BK664.out 0).trans rfl
    have hcz53_1:w31.cell? ⟨gb664,1,none⟩=some (.slice Ao22 t660.length co22):=(zz9 BK664.out 1).trans rfl
    have hfz53_0:=zz10 BK664.out 0
    have hfz53_1:=zz10 BK664.out 1
    go_wp2_with (first | ((with_reducible refine gate_callee (f:=19) rfl ?_);refine goesL_ (some 34) rfl rfl Try.func19 (by kernel_rfl) rfl #[.agg #[.int .i64 t670,.slice Ao36 t671.length co36],.agg #[.int .i64 t659,.slice Ao22 t660.length co22]] rfl (by (try simp only [zz26,zz27,zz28]);first | done | rfl | (simp only [zz24,zz25];rfl) | (simp only [zz25];congr;(try simp only [decide_eq_true_eq] at *);omega)) ?_;(with_reducible refine (laws_eqParty.calls k t670 _ _ t671 t659 _ _ t660 false _ ?side1 ?side2 ?side3 ?side4 A37.out).mono ?_);(case side1=>refine (Kd.R_reads' (e:=61) (base:=w.heap.size) (ok:=fun k_=>(((True∧some k_ ≠ (.slice Ao17 t656.length co17:Value).ownBlock)∧some k_ ≠ (.slice Ao22 t660.length co22:Value).ownBlock)∧some k_ ≠ (.slice Ao29 t666.length co29:Value).ownBlock)) (n:=t671.length) (c:=co36) ?_).2.2;exact (by (with_reducible repeat (first | apply zz12 | apply zz13 | apply zz14));exact (Kd.R_mono (Kd.R_far (p:=⟨gb675,1,none⟩) (Kd.R_far (p:=⟨gb675,0,none⟩) (Kd.R_types HO673.out BK675.out (by decide)) (fun _ hk=>hk.2) (.int .i64 t670)) (fun _ hk=>hk.2) (.slice Ao36 t671.length co36)) (fun _ h_=>h_.1))));(case side2=>exact (Kd.R_reads' HO673.out).2.1);(case side3=>refine (Kd.R_reads' (e:=61) (base:=w.heap.size) (ok:=fun k_=>(((True∧some k_ ≠ (.slice Ao17 t656.length co17:Value).ownBlock)∧some k_ ≠ (.slice Ao29 t666.length co29:Value).ownBlock)∧some k_ ≠ (.slice Ao36 t671.length co36:Value).ownBlock)) (n:=t660.length) (c:=co22) ?_).2.2;exact (by (with_reducible repeat (first | apply zz12 | apply zz13 | apply zz14));exact (Kd.R_mono (Kd.R_far (p:=⟨gb675,1,none⟩) (Kd.R_far (p:=⟨gb675,0,none⟩) (Kd.R_types HO662.out BK675.out (by decide)) (fun _ hk=>hk.2) (.int .i64 t670)) (fun _ hk=>hk.2) (.slice Ao36 t671.length co36)) (fun _ h_=>h_.1))));(case side4=>exact (Kd.R_reads' HO662.out).2.1);rintro e w54 ⟨rfl,hb⟩;refine ⟨_,rfl,?_⟩;have n0_:=Aside0.mk (Kd.R_below (by (with_reducible repeat (first | apply zz12 | apply zz13 | apply zz14));exact (Kd.R_mono (Kd.R_far (p:=⟨gb675,1,none⟩) (Kd.R_far (p:=⟨gb675,0,none⟩) (Kd.R_types HO658.out BK675.out (by decide)) (fun _ hk=>hk.2) (.int .i64 t670)) (fun _ hk=>hk.2) (.slice Ao36 t671.length co36)) (fun _ h_=>h_.1))) hb);have n1_:=Aside0.mk (Kd.R_below (by (with_reducible repeat (first | apply zz12 | apply zz13 | apply zz14));exact (Kd.R_mono (Kd.R_far (p:=⟨gb675,1,none⟩) (Kd.R_far (p:=⟨gb675,0,none⟩) (Kd.R_types HO662.out BK675.out (by decide)) (fun _ hk=>hk.2) (.int .i64 t670)) (fun _ hk=>hk.2) (.slice Ao36 t671.length co36)) (fun _ h_=>h_.1))) hb);have n2_:=Aside0.mk (Kd.R_below (by (with_reducible repeat (first | apply zz12 | apply zz13 | apply zz14));exact (Kd.R_mono (Kd.R_far (p:=⟨gb675,1,none⟩) (Kd.R_far (p:=⟨gb675,0,none⟩) (Kd.R_types HO668.out BK675.out (by decide)) (fun _ hk=>hk.2) (.int .i64 t670)) (fun _ hk=>hk.2) (.slice Ao36 t671.length co36)) (fun _ h_=>h_.1))) hb);have n3_:=Aside0.mk (Kd.R_below (by (with_reducible repeat (first | apply zz12 | apply zz13 | apply zz14));exact (Kd.R_mono (Kd.R_far (p:=⟨gb675,1,none⟩) (Kd.R_far (p:=⟨gb675,0,none⟩) (Kd.R_types HO673.out BK675.out (by decide)) (fun _ hk=>hk.2) (.int .i64 t670)) (fun _ hk=>hk.2) (.slice Ao36 t671.length co36)) (fun _ h_=>h_.1))) hb);have n4_:=Aside0.mk (zz11 (g:=gb653) (o:=.cells #[.int .i64 a0_0,.slice A0_1 l0_1.length c0_1] 24 (0,0)) (by (with_reducible repeat (first | refine zz6 ?_ _ | refine zz7 ?_ | refine zz8 ?_ _));refine blk_far ?_ NB653_675.out _;(with_reducible repeat (first | refine zz6 ?_ _ | refine zz7 ?_ | refine zz8 ?_ _));refine blk_far ?_ NB653_675.out _;(with_reducible repeat (first | refine zz6 ?_ _ | refine zz7 ?_ | refine zz8 ?_ _));exact BK653.out) hb);have n5_:=Aside0.mk (zz11 (g:=gb664) (o:=.cells #[.int .i64 t659,.slice Ao22 t660.length co22] 29 (0,0)) (by (with_reducible repeat (first | refine zz6 ?_ _ | refine zz7 ?_ | refine zz8 ?_ _));refine blk_far ?_ NB664_675.out _;(with_reducible repeat (first | refine zz6 ?_ _ | refine zz7 ?_ | refine zz8 ?_ _));refine blk_far ?_ NB664_675.out _;(with_reducible repeat (first | refine zz6 ?_ _ | refine zz7 ?_ | refine zz8 ?_ _));exact BK664.out) hb);have n6_:=Aside0.mk (zz11 (g:=gb669) (o:=.cells #[.int .i64 t665,.slice Ao29 t666.length co29] 29 (0,0)) (by (with_reducible repeat (first | refine zz6 ?_ _ | refine zz7 ?_ | refine zz8 ?_ _));refine blk_far ?_ NB669_675.out _;(with_reducible repeat (first | refine zz6 ?_ _ | refine zz7 ?_ | refine zz8 ?_ _));refine blk_far ?_ NB669_675.out _;(with_reducible repeat (first | refine zz6 ?_ _ | refine zz7 ?_ | refine zz8 ?_ _));exact BK669.out) hb);have n7_:=Aside0.mk (zz11 (g:=gb675) (o:=.cells #[.int .i64 t670,.slice Ao36 t671.length co36] 29 (0,0)) (by (with_reducible repeat (first | refine zz6 ?_ _ | refine zz7 ?_ | refine zz8 ?_ _));refine blk_put (cs:=#[.int .i64 t670,.slice none 0 0]) ?_ 1 _ rfl;(with_reducible repeat (first | refine zz6 ?_ _ | refine zz7 ?_ | refine zz8 ?_ _));refine blk_put (cs:=#[.int .i64 0,.slice none 0 0]) ?_ 0 _ rfl;(with_reducible repeat (first | refine zz6 ?_ _ | refine zz7 ?_ | refine zz8 ?_ _));exact BK675.out) hb);have n8_:=Aside0.mk (zz4 (by repeat first | exact HB.out | apply zz2 | apply zz0 | apply zz1 | refine zz3 ?_ GE653.out | refine zz3 ?_ GE664.out | refine zz3 ?_ GE669.out | refine zz3 ?_ GE675.out) hb);clear HO658;clear HO662;clear HO668;clear HO673;clear BK653;clear BK664;clear BK669;clear BK675;clear HB;have HO658:=n0_;have HO662:=n1_;have HO668:=n2_;have HO673:=n3_;have BK653:=n4_;have BK664:=n5_;have BK669:=n6_;have BK675:=n7_;have HB:=n8_;clear n0_ n1_ n2_ n3_ n4_ n5_ n6_ n7_ n8_;(try clear hb);(try clear hb2);(try clear hk);(try clear hi)))
    go_meet
    case rel=>exact ⟨_,(true),(by first | rfl | (simp;done) | (simp [*];done)),H',⟨by first | omega | exact Nat.le_refl _⟩,⟨by (with_reducible repeat (first | apply zz12 | apply zz13 | apply zz14));exact Kd.R_mono HO662.out (fun _ hk=>⟨hk.1.2,hk.2⟩)⟩,⟨by (with_reducible repeat (first | apply zz12 | apply zz13 | apply zz14));exact Kd.R_mono HO668.out (fun _ hk=>⟨hk.1.2,hk.2⟩)⟩,⟨by (with_reducible repeat (first | apply zz12 | apply zz13 | apply zz14));exact Kd.R_mono HO673.out (fun _ hk=>⟨hk.1.2,hk.2⟩)⟩,⟨by (with_reducible repeat (first | refine zz6 ?_ _ | refine zz7 ?_ | refine zz8 ?_ _));exact BK653.out⟩,⟨by (with_reducible repeat (first | refine zz6 ?_ _ | refine zz7 ?_ | refine zz8 ?_ _));exact BK664.out⟩,⟨by (with_reducible repeat (first | refine zz6 ?_ _ | refine zz7 ?_ | refine zz8 ?_ _));exact BK669.out⟩,⟨by (with_reducible repeat (first | refine zz6 ?_ _ | refine zz7 ?_ | refine zz8 ?_ _));exact BK675.out⟩,⟨by repeat first | exact HB.out | apply zz2 | apply zz0 | apply zz1 | refine zz3 ?_ GE653.out | refine zz3 ?_ GE664.out | refine zz3 ?_ GE669.out | refine zz3 ?_ GE675.out⟩⟩
  case rest =>
   clear HC11
   try clear c1
   try clear c2
   try clear p2
   try clear c3
   try clear c3b0
   try clear c4
   try clear c5
   try clear c13
   try clear c15
   try clear c17
   try clear c19
   try clear c20
   try clear c26
   try clear c27
   try clear c32
   try clear c33
   try clear c34
   try clear c38
   try clear c39
   try clear c40
   try clear c41
   try clear c43
   try clear c44
   try clear c45
   try clear c47
   try clear c48
   try clear c49
   try clear c51
   try clear c52
   try clear hcz13_0
   try clear hcz13_1
   try clear hcz15_0
   try clear hcz15_1
   try clear hcz21_0
   try clear hcz21_1
   try clear hcz23_0
   try clear hcz23_1
   try clear hcz28_0
   try clear hcz28_1
   try clear hcz35_0
   try clear hcz35_1
   try clear hcz42_0
   try clear hcz42_1
   try clear hcz45_0
   try clear hcz45_1
   try clear hcz50_0
   try clear hcz50_1
   try clear hcz53_0
   try clear hcz53_1
   try clear hcz5_0
   try clear hcz5_1
   try clear hfz13_0
   try clear hfz13_1
   try clear hfz15_0
   try clear hfz15_1
   try clear hfz21_0
   try clear hfz21_1
   try clear hfz23_0
   try clear hfz23_1
   try clear hfz28_0
   try clear hfz28_1
   try clear hfz35_0
   try clear hfz35_1
   try clear hfz42_0
   try clear hfz42_1
   try clear hfz45_0
   try clear hfz45_1
   try clear hfz50_0
   try clear hfz50_1
   try clear hfz53_0
   try clear hfz53_1
   try clear hfz5_0
   try clear hfz5_1
   obtain ⟨kq,x40_10,rfl,HA,HJ10,HO_665001,HO_670001,HO_676001,BK653,BK664,BK669,BK675,HB⟩:=hcut
   cases kq with
   | zero=>exact absurd HA.out (by simp [laws_FnExactOtherParty.j0])
   | succ kj10 =>
    have H:=HA.out
    clear HA
    simp only [laws_FnExactOtherParty.j0] at H
    by_cases c55:x40_10=true
    ·subst c55
     have H1:(some false)=some r:=by rw [if_pos rfl] at H;exact H
     clear H
     have H:=H1
     clear H1
     obtain rfl:=Option.some.inj H
     go_wp2
     go_ret
     exact ⟨by first | rfl | (simp [errW_none,errW_some] <;> rfl) | (simp [*,errW_none,errW_some] <;> rfl),by repeat first | exact HB.out | apply zz2 | apply zz0 | apply zz1 | refine zz3 ?_ GE653.out | refine zz3 ?_ GE664.out | refine zz3 ?_ GE669.out | refine zz3 ?_ GE675.out⟩
    ·replace c55:=Bool.eq_false_iff.mpr c55
     subst c55
     have H1:((laws_toParty.f kj10 a0_0 l0_1).bind fun bt677=>((laws_eqParty.f kj10 t665 t666 bt677.1 bt677.2).bind fun t681=>(if t681=true then ((laws_markParty.f kj10 t665 t666 1).bind fun bt682=>(if bt682.1 < 0 then (laws_FnExactOtherParty.j1 kj10 t663 true a0_0 l0_1 t659 t660 t670 t671) else ((laws_eqParty.f kj10 t670 t671 t659 t660).bind fun t684=>(if t684=true then (laws_FnExactOtherParty.j1 kj10 t663 (t674 != t663) a0_0 l0_1 t659 t660 t670 t671) else (laws_FnExactOtherParty.j1 kj10 t663 true a0_0 l0_1 t659 t660 t670 t671))))) else (some false))))=some r:=by rw [if_neg (show ¬ (false=true) by decide)] at H;exact H
     clear H
     have H:=H1
     clear H1
     replace H:=zz30.mp H
     obtain ⟨⟨t677,t678⟩,A560,H⟩:=H
     replace H:((laws_eqParty.f kj10 t665 t666 t677 t678).bind fun t681=>(if t681=true then ((laws_markParty.f kj10 t665 t666 1).bind fun bt682=>(if bt682.1 < 0 then (laws_FnExactOtherParty.j1 kj10 t663 true a0_0 l0_1 t659 t660 t670 t671) else ((laws_eqParty.f kj10 t670 t671 t659 t660).bind fun t684=>(if t684=true then (laws_FnExactOtherParty.j1 kj10 t663 (t674 != t663) a0_0 l0_1 t659 t660 t670 t671) else (laws_FnExactOtherParty.j1 kj10 t663 true a0_0 l0_1 t659 t660 t670 t671))))) else (some false)))=some r:=H
     have A56:=Aside0.mk A560
     clear A560
     replace H:=zz30.mp H
     obtain ⟨t681,A570,H⟩:=H
     replace H:(if t681=true then ((laws_markParty.f kj10 t665 t666 1).bind fun bt682=>(if bt682.1 < 0 then (laws_FnExactOtherParty.j1 kj10 t663 true a0_0 l0_1 t659 t660 t670 t671) else ((laws_eqParty.f kj10 t670 t671 t659 t660).bind fun t684=>(if t684=true then (laws_FnExactOtherParty.j1 kj10 t663 (t674 != t663) a0_0 l0_1 t659 t660 t670 t671) else (laws_FnExactOtherParty.j1 kj10 t663 true a0_0 l0_1 t659 t660 t670 t671))))) else (some false))=some r:=H
     have A57:=Aside0.mk A570
     clear A570
     by_cases c58:t681=true
     ·subst c58
      have H1:((laws_markParty.f kj10 t665 t666 1).bind fun bt682=>(if bt682.1 < 0 then (laws_FnExactOtherParty.j1 kj10 t663 true a0_0 l0_1 t659 t660 t670 t671) else ((laws_eqParty.f kj10 t670 t671 t659 t660).bind fun t684=>(if t684=true then (laws_FnExactOtherParty.j1 kj10 t663 (t674 != t663) a0_0 l0_1 t659 t660 t670 t671) else (laws_FnExactOtherParty.j1 kj10 t663 true a0_0 l0_1 t659 t660 t670 t671)))))=some r:=by rw [if_pos rfl] at H;exact H
      clear H
      have H:=H1
      clear H1
      replace H:=zz30.mp H
      obtain ⟨⟨t682,t683⟩,A590,H⟩:=H
      replace H:(if t682 < 0 then (laws_FnExactOtherParty.j1 kj10 t663 true a0_0 l0_1 t659 t660 t670 t671) else ((laws_eqParty.f kj10 t670 t671 t659 t660).bind fun t684=>(if t684=true then (laws_FnExactOtherParty.j1 kj10 t663 (t674 != t663) a0_0 l0_1 t659 t660 t670 t671) else (laws_FnExactOtherParty.j1 kj10 t663 true a0_0 l0_1 t659 t660 t670 t671))))=some r:=H
      have A59:=Aside0.mk A590
      clear A590
      have HC60:=Aside0.mk H
      clear H
      try go_wp2
      have n0_:=Aside0.mk (zz14 HO_665001.out)
      have n1_:=Aside0.mk (zz14 HO_670001.out)
      have n2_:=Aside0.mk (zz14 HO_676001.out)
      have n3_:=Aside0.mk (zz7 BK653.out)
      have n4_:=Aside0.mk (zz7 BK664.out)
      have n5_:=Aside0.mk (zz7 BK669.out)
      have n6_:=Aside0.mk (zz7 BK675.out)
      have n7_:=Aside0.mk (zz1 HB.out)
      clear HO_665001
      clear HO_670001
      clear HO_676001
      clear BK653
      clear BK664
      clear BK669
      clear BK675
      clear HB
      have HO_665001:=n0_
      have HO_670001:=n1_
      have HO_676001:=n2_
      have BK653:=n3_
      have BK664:=n4_
      have BK669:=n5_
      have BK675:=n6_
      have HB:=n7_
      clear n0_ n1_ n2_ n3_ n4_ n5_ n6_ n7_
      refine start_ (n:=5) (S:=fun w'=>w'.cell? ⟨gb669,0,none⟩=some (.int .i64 t665)∧w'.cell? ⟨gb669,1,none⟩=some (.slice Ao29 t666.length co29)∧w'.cell? ⟨gb653,0,none⟩=some (.int .i64 a0_0)∧w'.cell? ⟨gb653,1,none⟩=some (.slice A0_1 l0_1.length c0_1)) (ds:=[]) #[F,F,F,F,F] (by kernel_rfl) rfl rfl ⟨(zz9 BK669.out 0).trans rfl,(zz9 BK669.out 1).trans rfl,(zz9 BK653.out 0).trans rfl,(zz9 BK653.out 1).trans rfl⟩ (fun hHeld=>?_)
      generalize wc.drew=w61 at HO_665001 HO_670001 HO_676001 BK653 BK664 BK669 BK675 HB hHeld ⊢
      refine take_ (i:=0) (N:=some 41) (v:=?_) (a':=?_) #[T,F,F,F,F] rfl rfl (by kernel_rfl) (fun _ _ _ h=>h) (Or.inl ⟨by rfl,?_⟩) hHeld ?_ ?_
      rotate_left
      ·rintro w' ⟨s0,s1,s2,s3⟩
       go_simp
       with_reducible rfl
      rotate_left
      ·simp only [Act.put,zz21,zz22,zz23,i64_w,i32_w]
       rfl
      refine take_ (i:=1) (N:=some 42) (v:=?_) (a':=?_) #[T,T,F,F,F] rfl rfl (by kernel_rfl) (fun _ _ _ h=>h) (Or.inl ⟨by rfl,?_⟩) hHeld ?_ ?_
      rotate_left
      ·rintro w' ⟨s0,s1,s2,s3⟩
       go_simp
       with_reducible rfl
      rotate_left
      ·simp only [Act.put,zz21,zz22,zz23,i64_w,i32_w]
       rfl
      refine one_ (i:=2) (N:=some 43) #[T,T,T,F,F] rfl rfl (by kernel_rfl) (by decide) (fun K hK=>?_)
      refine goes_ Try.func17 (by kernel_rfl) rfl #[.agg #[.int .i64 a0_0,.slice A0_1 l0_1.length c0_1]] (by rfl) rfl rfl (by (try simp only [zz26,zz27,zz28]);first | done | rfl | (simp only [zz24,zz25];rfl) | (simp only [zz25];congr;(try simp only [decide_eq_true_eq] at *);omega)) ?_
      with_reducible refine (laws_toParty.calls kj10 a0_0 _ _ l0_1 t677 t678 _ ?side1 ?side2 A56.out).mono ?_
      (case side1=>repeat (first | exact (Kd.C_below HR0_1.out HB.out) | (with_reducible refine zz18 ?_ _) | (with_reducible refine zz19 ?_ _) | (with_reducible refine zz20 ?_)))
      (case side2=>exact HC0_1.out)
      rintro e w62 ⟨v679,rfl,ho0,hb⟩
      refine ⟨_,rfl,?_⟩
      have n0_:=Aside0.mk (Kd.R_elder' (by (with_reducible repeat (first | apply zz12 | apply zz13 | apply zz14));exact HO_665001.out) (Kd.R_base ho0) hb)
      have n1_:=Aside0.mk (Kd.R_elder' (by (with_reducible repeat (first | apply zz12 | apply zz13 | apply zz14));exact HO_670001.out) (Kd.R_base ho0) hb)
      have n2_:=Aside0.mk (Kd.R_elder' (by (with_reducible repeat (first | apply zz12 | apply zz13 | apply zz14));exact HO_676001.out) (Kd.R_base ho0) hb)
      have n3_:=Aside0.mk (Kd.R_lower (Kd.R_new' (Kd.R_new' (Kd.R_new' ho0 (Kd.R_lt (by (with_reducible repeat (first | apply zz12 | apply zz13 | apply zz14));exact HO_665001.out))) (Kd.R_lt (by (with_reducible repeat (first | apply zz12 | apply zz13 | apply zz14));exact HO_670001.out))) (Kd.R_lt (by (with_reducible repeat (first | apply zz12 | apply zz13 | apply zz14));exact HO_676001.out))) (zz5 (by repeat first | exact HB.out | apply zz2 | apply zz0 | apply zz1 | refine zz3 ?_ GE653.out | refine zz3 ?_ GE664.out | refine zz3 ?_ GE669.out | refine zz3 ?_ GE675.out)))
      have n4_:=Aside0.mk (zz11 (g:=gb653) (o:=.cells #[.int .i64 a0_0,.slice A0_1 l0_1.length c0_1] 24 (0,0)) (by (with_reducible repeat (first | refine zz6 ?_ _ | refine zz7 ?_ | refine zz8 ?_ _));exact BK653.out) hb)
      have n5_:=Aside0.mk (zz11 (g:=gb664) (o:=.cells #[.int .i64 t659,.slice Ao22 t660.length co22] 29 (0,0)) (by (with_reducible repeat (first | refine zz6 ?_ _ | refine zz7 ?_ | refine zz8 ?_ _));exact BK664.out) hb)
      have n6_:=Aside0.mk (zz11 (g:=gb669) (o:=.cells #[.int .i64 t665,.slice Ao29 t666.length co29] 29 (0,0)) (by (with_reducible repeat (first | refine zz6 ?_ _ | refine zz7 ?_ | refine zz8 ?_ _));exact BK669.out) hb)
      have n7_:=Aside0.mk (zz11 (g:=gb675) (o:=.cells #[.int .i64 t670,.slice Ao36 t671.length co36] 29 (0,0)) (by (with_reducible repeat (first | refine zz6 ?_ _ | refine zz7 ?_ | refine zz8 ?_ _));exact BK675.out) hb)
      have n8_:=Aside0.mk (zz4 (by repeat first | exact HB.out | apply zz2 | apply zz0 | apply zz1 | refine zz3 ?_ GE653.out | refine zz3 ?_ GE664.out | refine zz3 ?_ GE669.out | refine zz3 ?_ GE675.out) hb)
      clear HO_665001
      clear HO_670001
      clear HO_676001
      clear BK653
      clear BK664
      clear BK669
      clear BK675
      clear HB
      have HO_665001:=n0_
      have HO_670001:=n1_
      have HO_676001:=n2_
      have HO680:=n3_
      have BK653:=n4_
      have BK664:=n5_
      have BK669:=n6_
      have BK675:=n7_
      have HB:=n8_
      clear n0_ n1_ n2_ n3_ n4_ n5_ n6_ n7_ n8_
      (try clear hb)
      (try clear hb2)
      (try clear hk)
      (try clear hi)
      (try clear ho0)
      obtain ⟨Ao63,co63,eo63⟩:=Kd.R_slice HO680.out
      (first | subst eo63 | (injection eo63 with f1_ f2_ f3_;have f4_:=f1_.symm;have f5_:=f3_.symm;clear f1_ f2_ f3_;subst f4_;subst f5_))
      refine hK.out _ _ ⟨(zz9 BK669.out 0).trans rfl,(zz9 BK669.out 1).trans rfl,(zz9 BK653.out 0).trans rfl,(zz9 BK653.out 1).trans rfl⟩ (fun hHeld=>?_)
      clear hK K
      refine norm_ (a':=?_) ?_ ?_
      rotate_left
      ·show Act.put _ (some 43) _=_
       simp only [Act.put,zz21,zz22,zz23,i64_w,i32_w]
       rfl
      refine one_ (i:=3) (N:=some 44) #[T,T,T,T,F] rfl rfl (by kernel_rfl) (by decide) (fun K hK=>?_)
      refine goes_ Try.func19 (by kernel_rfl) rfl #[.agg #[.int .i64 t665,.slice Ao29 t666.length co29],.agg #[.int .i64 t677,.slice Ao63 t678.length co63]] (by rfl) rfl rfl (by (try simp only [zz26,zz27,zz28]);first | done | rfl | (simp only [zz24,zz25];rfl) | (simp only [zz25];congr;(try simp only [decide_eq_true_eq] at *);omega)) ?_
      with_reducible refine (laws_eqParty.calls kj10 t665 _ _ t666 t677 _ _ t678 true _ ?side1 ?side2 ?side3 ?side4 A57.out).mono ?_
      (case side1=>repeat (first | exact (Kd.R_reads' HO_670001.out).2.2 | (with_reducible refine zz18 ?_ _) | (with_reducible refine zz19 ?_ _) | (with_reducible refine zz20 ?_)))
      (case side2=>exact (Kd.R_reads' HO_670001.out).2.1)
      (case side3=>repeat (first | exact (Kd.R_reads' HO680.out).2.2 | (with_reducible refine zz18 ?_ _) | (with_reducible refine zz19 ?_ _) | (with_reducible refine zz20 ?_)))
      (case side4=>exact (Kd.R_reads' HO680.out).2.1)
      rintro e w64 ⟨rfl,hb⟩
      refine ⟨_,rfl,?_⟩
      have n0_:=Aside0.mk (Kd.R_below (by (with_reducible repeat (first | apply zz12 | apply zz13 | apply zz14));exact HO_665001.out) hb)
      have n1_:=Aside0.mk (Kd.R_below (by (with_reducible repeat (first | apply zz12 | apply zz13 | apply zz14));exact HO_670001.out) hb)
      have n2_:=Aside0.mk (Kd.R_below (by (with_reducible repeat (first | apply zz12 | apply zz13 | apply zz14));exact HO_676001.out) hb)
      have n3_:=Aside0.mk (Kd.R_below (by (with_reducible repeat (first | apply zz12 | apply zz13 | apply zz14));exact HO680.out) hb)
      have n4_:=Aside0.mk (zz11 (g:=gb653) (o:=.cells #[.int .i64 a0_0,.slice A0_1 l0_1.length c0_1] 24 (0,0)) (by (with_reducible repeat (first | refine zz6 ?_ _ | refine zz7 ?_ | refine zz8 ?_ _));exact BK653.out) hb)
      have n5_:=Aside0.mk (zz11 (g:=gb664) (o:=.cells #[.int .i64 t659,.slice Ao22 t660.length co22] 29 (0,0)) (by (with_reducible repeat (first | refine zz6 ?_ _ | refine zz7 ?_ | refine zz8 ?_ _));exact BK664.out) hb)
      have n6_:=Aside0.mk (zz11 (g:=gb669) (o:=.cells #[.int .i64 t665,.slice Ao29 t666.length co29] 29 (0,0)) (by (with_reducible repeat (first | refine zz6 ?_ _ | refine zz7 ?_ | refine zz8 ?_ _));exact BK669.out) hb)
      have n7_:=Aside0.mk (zz11 (g:=gb675) (o:=.cells #[.int .i64 t670,.slice Ao36 t671.length co36] 29 (0,0)) (by (with_reducible repeat (first | refine zz6 ?_ _ | refine zz7 ?_ | refine zz8 ?_ _));exact BK675.out) hb)
      have n8_:=Aside0.mk (zz4 (by repeat first | exact HB.out | apply zz2 | apply zz0 | apply zz1 | refine zz3 ?_ GE653.out | refine zz3 ?_ GE664.out | refine zz3 ?_ GE669.out | refine zz3 ?_ GE675.out) hb)
      clear HO_665001
      clear HO_670001
      clear HO_676001
      clear HO680
      clear BK653
      clear BK664
      clear BK669
      clear BK675
      clear HB
      have HO_665001:=n0_
      have HO_670001:=n1_
      have HO_676001:=n2_
      have HO680:=n3_
      have BK653:=n4_
      have BK664:=n5_
      have BK669:=n6_
      have BK675:=n7_
      have HB:=n8_
      clear n0_ n1_ n2_ n3_ n4_ n5_ n6_ n7_ n8_
      (try clear hb)
      (try clear hb2)
      (try clear hk)
      (try clear hi)
      refine hK.out _ _ ⟨(zz9 BK669.out 0).trans rfl,(zz9 BK669.out 1).trans rfl,(zz9 BK653.out 0).trans rfl,(zz9 BK653.out 1).trans rfl⟩ (fun hHeld=>?_)
      clear hK K
      refine norm_ (a':=?_) ?_ ?_
      rotate_left
      ·show Act.put _ (some 44) _=_
       simp only [Act.put,zz21,zz22,zz23,i64_w,i32_w]
       rfl
      refine pure_ (i:=4) (N:=some 45) (v:=?_) (a':=?_) #[T,T,T,T,T] rfl rfl (by kernel_rfl) (fun _ _ _ h=>h) (Or.inl ⟨by rfl,?_⟩) ?_ ?_
      rotate_left
      ·intro w'
       go_simp
       with_reducible rfl
      rotate_left
      ·simp only [Act.put,zz21,zz22,zz23,i64_w,i32_w]
       rfl
      refine done_ (by kernel_rfl) ?_
      have hnb65:=NB669_653.out
      have hnc65:=NB653_669.out
      have hnb66:=NB669_664.out
      have hnc66:=NB664_669.out
      have hnb67:=NB669_675.out
      have hnc67:=NB675_669.out
      have hcz68_0:w64.cell? ⟨gb669,0,none⟩=some (.int .i64 t665):=(zz9 BK669.out 0).trans rfl
      have hcz68_1:w64.cell? ⟨gb669,1,none⟩=some (.slice Ao29 t666.length co29):=(zz9 BK669.out 1).trans rfl
      have hfz68_0:=zz10 BK669.out 0
      have hfz68_1:=zz10 BK669.out 1
      go_upto_region 14 with (first | ((with_reducible refine gate_callee (f:=22) rfl ?_);refine goesL_ (some 48) rfl rfl Try.func22 (by kernel_rfl) rfl #[.agg #[.int .i64 t665,.slice Ao29 t666.length co29],.int .i64 1] rfl (by (try simp only [zz26,zz27,zz28]);first | done | rfl | (simp only [zz24,zz25];rfl) | (simp only [zz25];congr;(try simp only [decide_eq_true_eq] at *);omega)) ?_;(with_reducible refine (laws_markParty.calls kj10 t665 (fun k_=>some k_=(.slice Ao29 t666.length co29:Value).ownBlock) (.slice Ao29 t666.length co29) t666 1 t682 t683 w _ ?side1 ?side2 A59.out).mono ?_);(case side1=>repeat first | exact HB.out | apply zz2 | apply zz0 | apply zz1 | refine zz3 ?_ GE653.out | refine zz3 ?_ GE664.out | refine zz3 ?_ GE669.out | refine zz3 ?_ GE675.out);(case side2=>exact Kd.R_tight rfl HO_670001.out);rintro e w69 ⟨rfl,hy0,hb,hkp⟩;refine ⟨_,rfl,?_⟩;have n0_:=Aside0.mk (Kd.R_mono (ok':=fun k_=>some k_ ≠ (.slice Ao29 t666.length co29:Value).ownBlock∧some k_ ≠ (.slice Ao36 t671.length co36:Value).ownBlock∧some k_ ≠ (.slice Ao63 t678.length co63:Value).ownBlock) (Kd.R_keptB (HO_665001.out) hkp (fun k_ hk_ hs_=>(hk_.1.1) hs_)) (fun k_ hk_=>⟨hk_.1.1.1,hk_.1.1.2,hk_.1.2⟩));have n1_:=Aside0.mk (Kd.R_reok rfl hy0 (fun k_ e_=>HO_670001.out.1 k_ e_));have n2_:=Aside0.mk (Kd.R_mono (ok':=fun k_=>some k_ ≠ (.slice Ao22 t660.length co22:Value).ownBlock∧some k_ ≠ (.slice Ao29 t666.length co29:Value).ownBlock∧some k_ ≠ (.slice Ao63 t678.length co63:Value).ownBlock) (Kd.R_keptB (HO_676001.out) hkp (fun k_ hk_ hs_=>(hk_.1.2) hs_)) (fun k_ hk_=>⟨hk_.1.1.1,hk_.1.1.2,hk_.1.2⟩));have n3_:=Aside0.mk (blk_kept (by (with_reducible repeat (first | refine zz6 ?_ _ | refine zz7 ?_ | refine zz8 ?_ _));exact BK653.out) hkp (fun hs_=>(fun e_=>(Kd.R_ne HO_670001.out BK653.out (by decide)) e_) hs_));have n4_:=Aside0.mk (blk_kept (by (with_reducible repeat (first | refine zz6 ?_ _ | refine zz7 ?_ | refine zz8 ?_ _));exact BK664.out) hkp (fun hs_=>(fun e_=>(Kd.R_ne HO_670001.out BK664.out (by decide)) e_) hs_));have n5_:=Aside0.mk (blk_kept (by (with_reducible repeat (first | refine zz6 ?_ _ | refine zz7 ?_ | refine zz8 ?_ _));exact BK669.out) hkp (fun hs_=>(fun e_=>(Kd.R_ne HO_670001.out BK669.out (by decide)) e_) hs_));have n6_:=Aside0.mk (blk_kept (by (with_reducible repeat (first | refine zz6 ?_ _ | refine zz7 ?_ | refine zz8 ?_ _));exact BK675.out) hkp (fun hs_=>(fun e_=>(Kd.R_ne HO_670001.out BK675.out (by decide)) e_) hs_));have n7_:=Aside0.mk (Kd.R_mono (ok':=fun k_=>some k_ ≠ (.slice Ao22 t660.length co22:Value).ownBlock∧some k_ ≠ (.slice Ao29 t666.length co29:Value).ownBlock∧some k_ ≠ (.slice Ao36 t671.length co36:Value).ownBlock) (Kd.R_keptB (HO680.out) hkp (fun k_ hk_ hs_=>(hk_.1.2) hs_)) (fun k_ hk_=>⟨hk_.1.1.1.2,hk_.1.1.2,hk_.1.2⟩));have n8_:=Aside0.mk (hb);clear HO_665001;clear HO_670001;clear HO_676001;clear BK653;clear BK664;clear BK669;clear BK675;clear HO680;clear HB;have HO_665001:=n0_;have HO_670001:=n1_;have HO_676001:=n2_;have BK653:=n3_;have BK664:=n4_;have BK669:=n5_;have BK675:=n6_;have HO680:=n7_;have HB:=n8_;clear n0_ n1_ n2_ n3_ n4_ n5_ n6_ n7_ n8_;(try clear hb);(try clear hkp);(try clear hy0)))
      (try simp only [Act.put,zz21,zz22,zz23])
      go_cut [61] (fun v61 wc=>∃ (kq:Nat) (x61_59:Bool),v61=.bool x61_59∧Aside0 (laws_FnExactOtherParty.j1 kq t663 x61_59 a0_0 l0_1 t659 t660 t670 t671=some r)∧Aside0 (kq≤kj10)∧Aside0 (Kd.R k61 61 wc w.heap.size (fun k_=>some k_ ≠ ((.slice Ao29 t666.length co29):Value).ownBlock∧some k_ ≠ ((.slice Ao36 t671.length co36):Value).ownBlock) (.slice Ao22 t660.length co22) t660)∧Aside0 (Kd.R k61 61 wc w.heap.size (fun k_=>some k_ ≠ ((.slice Ao22 t660.length co22):Value).ownBlock∧some k_ ≠ ((.slice Ao36 t671.length co36):Value).ownBlock) (.slice Ao29 t666.length co29) t683)∧Aside0 (Kd.R k61 61 wc w.heap.size (fun k_=>some k_ ≠ ((.slice Ao22 t660.length co22):Value).ownBlock∧some k_ ≠ ((.slice Ao29 t666.length co29):Value).ownBlock) (.slice Ao36 t671.length co36) t671)∧Aside0 (wc.heap[gb653]?=some (.cells #[.int .i64 a0_0,(.slice A0_1 l0_1.length c0_1)] 24 (0,0)))∧Aside0 (wc.heap[gb664]?=some (.cells #[.int .i64 t659,(.slice Ao22 t660.length co22)] 29 (0,0)))∧Aside0 (wc.heap[gb669]?=some (.cells #[.int .i64 t665,(.slice Ao29 t666.length co29)] 29 (0,0)))∧Aside0 (wc.heap[gb675]?=some (.cells #[.int .i64 t670,(.slice Ao36 t671.length co36)] 29 (0,0)))∧Aside0 (Below w.heap.size w wc))
      case first =>
       have H:=HC60.out
       clear HC60
       by_cases c70:t682 < 0
       ·rw [if_pos c70] at H
        have c70b0:decide (t682 < 0)=true:=decide_eq_true c70
        clear c70
        (first | rw [c70b0] | (simp only [i64_w,i32_w];rw [c70b0]) | skip)
        have H':=Aside0.mk H
        clear H
        go_wp2
        go_meet
        case rel=>exact ⟨_,(true),(by first | rfl | (simp;done) | (simp [*];done)),H',⟨by have:=HJ10.out;first | omega | exact Nat.le_refl _⟩,⟨by (with_reducible repeat (first | apply zz12 | apply zz13 | apply zz14));exact Kd.R_mono HO_665001.out (fun _ hk=>⟨hk.1,hk.2.1⟩)⟩,⟨by (with_reducible repeat (first | apply zz12 | apply zz13 | apply zz14));exact Kd.R_mono HO_670001.out (fun _ hk=>⟨hk.1.1,hk.1.2⟩)⟩,⟨by (with_reducible repeat (first | apply zz12 | apply zz13 | apply zz14));exact Kd.R_mono HO_676001.out (fun _ hk=>⟨hk.1,hk.2.1⟩)⟩,⟨by (with_reducible repeat (first | refine zz6 ?_ _ | refine zz7 ?_ | refine zz8 ?_ _));exact BK653.out⟩,⟨by (with_reducible repeat (first | refine zz6 ?_ _ | refine zz7 ?_ | refine zz8 ?_ _));exact BK664.out⟩,⟨by (with_reducible repeat (first | refine zz6 ?_ _ | refine zz7 ?_ | refine zz8 ?_ _));exact BK669.out⟩,⟨by (with_reducible repeat (first | refine zz6 ?_ _ | refine zz7 ?_ | refine zz8 ?_ _));exact BK675.out⟩,⟨by repeat first | exact HB.out | apply zz2 | apply zz0 | apply zz1 | refine zz3 ?_ GE653.out | refine zz3 ?_ GE664.out | refine zz3 ?_ GE669.out | refine zz3 ?_ GE675.out⟩⟩
       ·rw [if_neg c70] at H
        have c70b0:decide (t682 < 0)=false:=decide_eq_false c70
        clear c70
        (first | rw [c70b0] | (simp only [i64_w,i32_w];rw [c70b0]) | skip)
        replace H:=zz30.mp H
        obtain ⟨t684,A710,H⟩:=H
        replace H:(if t684=true then (laws_FnExactOtherParty.j1 kj10 t663 (t674 != t663) a0_0 l0_1 t659 t660 t670 t671) else (laws_FnExactOtherParty.j1 kj10 t663 true a0_0 l0_1 t659 t660 t670 t671))=some r:=H
        have A71:=Aside0.mk A710
        clear A710
        by_cases c72:t684=true
        ·subst c72
         have H1:(laws_FnExactOtherParty.j1 kj10 t663 (t674 != t663) a0_0 l0_1 t659 t660 t670 t671)=some r:=by rw [if_pos rfl] at H;exact H
         clear H
         have H:=H1
         clear H1
         have H':=Aside0.mk H
         clear H
         have hnb73:=NB675_653.out
         have hnc73:=NB653_675.out
         have hnb74:=NB675_664.out
         have hnc74:=NB664_675.out
         have hnb75:=NB675_669.out
         have hnc75:=NB669_675.out
         have hcz76_0:w69.cell? ⟨gb675,0,none⟩=some (.int .i64 t670):=(zz9 BK675.out 0).trans rfl
         have hcz76_1:w69.cell? ⟨gb675,1,none⟩=some (.slice Ao36 t671.length co36):=(zz9 BK675.out 1).trans rfl
         have hfz76_0:=zz10 BK675.out 0
         have hfz76_1:=zz10 BK675.out 1
         have hnb77:=NB664_653.out
         have hnc77:=NB653_664.out
         have hnb78:=NB664_669.out
         have hnc78:=NB669_664.out
         have hcz79_0:w69.cell? ⟨gb664,0,none⟩=some (.int .i64 t659):=(zz9 BK664.out 0).trans rfl
         have hcz79_1:w69.cell? ⟨gb664,1,none⟩=some (.slice Ao22 t660.length co22):=(zz9 BK664.out 1).trans rfl
         have hfz79_0:=zz10 BK664.out 0
         have hfz79_1:=zz10 BK664.out 1
         go_wp2_with (first | (go_at_call 19;(with_reducible refine (laws_eqParty.calls kj10 t670 _ _ t671 t659 _ _ t660 true _ ?side1 ?side2 ?side3 ?side4 A71.out).mono ?_);(case side1=>repeat (first | exact (Kd.R_reads' HO_676001.out).2.2 | (with_reducible refine zz18 ?_ _) | (with_reducible refine zz19 ?_ _) | (with_reducible refine zz20 ?_)));(case side2=>exact (Kd.R_reads' HO_676001.out).2.1);(case side3=>repeat (first | exact (Kd.R_reads' HO_665001.out).2.2 | (with_reducible refine zz18 ?_ _) | (with_reducible refine zz19 ?_ _) | (with_reducible refine zz20 ?_)));(case side4=>exact (Kd.R_reads' HO_665001.out).2.1);rintro e w80 ⟨rfl,hb⟩;have n0_:=Aside0.mk (Kd.R_below (by (with_reducible repeat (first | apply zz12 | apply zz13 | apply zz14));exact HO_665001.out) hb);have n1_:=Aside0.mk (Kd.R_below (by (with_reducible repeat (first | apply zz12 | apply zz13 | apply zz14));exact HO_670001.out) hb);have n2_:=Aside0.mk (Kd.R_below (by (with_reducible repeat (first | apply zz12 | apply zz13 | apply zz14));exact HO_676001.out) hb);have n3_:=Aside0.mk (Kd.R_below (by (with_reducible repeat (first | apply zz12 | apply zz13 | apply zz14));exact HO680.out) hb);have n4_:=Aside0.mk (zz11 (g:=gb653) (o:=.cells #[.int .i64 a0_0,.slice A0_1 l0_1.length c0_1] 24 (0,0)) (by (with_reducible repeat (first | refine zz6 ?_ _ | refine zz7 ?_ | refine zz8 ?_ _));exact BK653.out) hb);have n5_:=Aside0.mk (zz11 (g:=gb664) (o:=.cells #[.int .i64 t659,.slice Ao22 t660.length co22] 29 (0,0)) (by (with_reducible repeat (first | refine zz6 ?_ _ | refine zz7 ?_ | refine zz8 ?_ _));exact BK664.out) hb);have n6_:=Aside0.mk (zz11 (g:=gb669) (o:=.cells #[.int .i64 t665,.slice Ao29 t666.length co29] 29 (0,0)) (by (with_reducible repeat (first | refine zz6 ?_ _ | refine zz7 ?_ | refine zz8 ?_ _));exact BK669.out) hb);have n7_:=Aside0.mk (zz11 (g:=gb675) (o:=.cells #[.int .i64 t670,.slice Ao36 t671.length co36] 29 (0,0)) (by (with_reducible repeat (first | refine zz6 ?_ _ | refine zz7 ?_ | refine zz8 ?_ _));exact BK675.out) hb);have n8_:=Aside0.mk (zz4 (by repeat first | exact HB.out | apply zz2 | apply zz0 | apply zz1 | refine zz3 ?_ GE653.out | refine zz3 ?_ GE664.out | refine zz3 ?_ GE669.out | refine zz3 ?_ GE675.out) hb);clear HO_665001;clear HO_670001;clear HO_676001;clear HO680;clear BK653;clear BK664;clear BK669;clear BK675;clear HB;have HO_665001:=n0_;have HO_670001:=n1_;have HO_676001:=n2_;have HO680:=n3_;have BK653:=n4_;have BK664:=n5_;have BK669:=n6_;have BK675:=n7_;have HB:=n8_;clear n0_ n1_ n2_ n3_ n4_ n5_ n6_ n7_ n8_;(try clear hb);(try clear hb2);(try clear hk);(try clear hi)))
         go_meet
         case rel=>exact ⟨_,((t674 != t663)),(by first | rfl | (simp;done) | (simp [*];done)),H',⟨by have:=HJ10.out;first | omega | exact Nat.le_refl _⟩,⟨by (with_reducible repeat (first | apply zz12 | apply zz13 | apply zz14));exact Kd.R_mono HO_665001.out (fun _ hk=>⟨hk.1,hk.2.1⟩)⟩,⟨by (with_reducible repeat (first | apply zz12 | apply zz13 | apply zz14));exact Kd.R_mono HO_670001.out (fun _ hk=>⟨hk.1.1,hk.1.2⟩)⟩,⟨by (with_reducible repeat (first | apply zz12 | apply zz13 | apply zz14));exact Kd.R_mono HO_676001.out (fun _ hk=>⟨hk.1,hk.2.1⟩)⟩,⟨by (with_reducible repeat (first | refine zz6 ?_ _ | refine zz7 ?_ | refine zz8 ?_ _));exact BK653.out⟩,⟨by (with_reducible repeat (first | refine zz6 ?_ _ | refine zz7 ?_ | refine zz8 ?_ _));exact BK664.out⟩,⟨by (with_reducible repeat (first | refine zz6 ?_ _ | refine zz7 ?_ | refine zz8 ?_ _));exact BK669.out⟩,⟨by (with_reducible repeat (first | refine zz6 ?_ _ | refine zz7 ?_ | refine zz8 ?_ _));exact BK675.out⟩,⟨by repeat first | exact HB.out | apply zz2 | apply zz0 | apply zz1 | refine zz3 ?_ GE653.out | refine zz3 ?_ GE664.out | refine zz3 ?_ GE669.out | refine zz3 ?_ GE675.out⟩⟩
        ·replace c72:=Bool.eq_false_iff.mpr c72
         subst c72
         have H1:(laws_FnExactOtherParty.j1 kj10 t663 true a0_0 l0_1 t659 t660 t670 t671)=some r:=by rw [if_neg (show ¬ (false=true) by decide)] at H;exact H
         clear H
         have H:=H1
         clear H1
         have H':=Aside0.mk H
         clear H
         have hnb81:=NB675_653.out
         have hnc81:=NB653_675.out
         have hnb82:=NB675_664.out
         have hnc82:=NB664_675.out
         have hnb83:=NB675_669.out
         have hnc83:=NB669_675.out
         have hcz84_0:w69.cell? ⟨gb675,0,none⟩=some (.int .i64 t670):=(zz9 BK675.out 0).trans rfl
         have hcz84_1:w69.cell? ⟨gb675,1,none⟩=some (.slice Ao36 t671.length co36):=(zz9 BK675.out 1).trans rfl
         have hfz84_0:=zz10 BK675.out 0
         have hfz84_1:=zz10 BK675.out 1
         have hnb85:=NB664_653.out
         have hnc85:=NB653_664.out
         have hnb86:=NB664_669.out
         have hnc86:=NB669_664.out
         have hcz87_0:w69.cell? ⟨gb664,0,none⟩=some (.int .i64 t659):=(zz9 BK664.out 0).trans rfl
         have hcz87_1:w69.cell? ⟨gb664,1,none⟩=some (.slice Ao22 t660.length co22):=(zz9 BK664.out 1).trans rfl
         have hfz87_0:=zz10 BK664.out 0
         have hfz87_1:=zz10 BK664.out 1
         go_wp2_with (first | (go_at_call 19;(with_reducible refine (laws_eqParty.calls kj10 t670 _ _ t671 t659 _ _ t660 false _ ?side1 ?side2 ?side3 ?side4 A71.out).mono ?_);(case side1=>repeat (first | exact (Kd.R_reads' HO_676001.out).2.2 | (with_reducible refine zz18 ?_ _) | (with_reducible refine zz19 ?_ _) | (with_reducible refine zz20 ?_)));(case side2=>exact (Kd.R_reads' HO_676001.out).2.1);(case side3=>repeat (first | exact (Kd.R_reads' HO_665001.out).2.2 | (with_reducible refine zz18 ?_ _) | (with_reducible refine zz19 ?_ _) | (with_reducible refine zz20 ?_)));(case side4=>exact (Kd.R_reads' HO_665001.out).2.1);rintro e w88 ⟨rfl,hb⟩;have n0_:=Aside0.mk (Kd.R_below (by (with_reducible repeat (first | apply zz12 | apply zz13 | apply zz14));exact HO_665001.out) hb);have n1_:=Aside0.mk (Kd.R_below (by (with_reducible repeat (first | apply zz12 | apply zz13 | apply zz14));exact HO_670001.out) hb);have n2_:=Aside0.mk (Kd.R_below (by (with_reducible repeat (first | apply zz12 | apply zz13 | apply zz14));exact HO_676001.out) hb);have n3_:=Aside0.mk (Kd.R_below (by (with_reducible repeat (first | apply zz12 | apply zz13 | apply zz14));exact HO680.out) hb);have n4_:=Aside0.mk (zz11 (g:=gb653) (o:=.cells #[.int .i64 a0_0,.slice A0_1 l0_1.length c0_1] 24 (0,0)) (by (with_reducible repeat (first | refine zz6 ?_ _ | refine zz7 ?_ | refine zz8 ?_ _));exact BK653.out) hb);have n5_:=Aside0.mk (zz11 (g:=gb664) (o:=.cells #[.int .i64 t659,.slice Ao22 t660.length co22] 29 (0,0)) (by (with_reducible repeat (first | refine zz6 ?_ _ | refine zz7 ?_ | refine zz8 ?_ _));exact BK664.out) hb);have n6_:=Aside0.mk (zz11 (g:=gb669) (o:=.cells #[.int .i64 t665,.slice Ao29 t666.length co29] 29 (0,0)) (by (with_reducible repeat (first | refine zz6 ?_ _ | refine zz7 ?_ | refine zz8 ?_ _));exact BK669.out) hb);have n7_:=Aside0.mk (zz11 (g:=gb675) (o:=.cells #[.int .i64 t670,.slice Ao36 t671.length co36] 29 (0,0)) (by (with_reducible repeat (first | refine zz6 ?_ _ | refine zz7 ?_ | refine zz8 ?_ _));exact BK675.out) hb);have n8_:=Aside0.mk (zz4 (by repeat first | exact HB.out | apply zz2 | apply zz0 | apply zz1 | refine zz3 ?_ GE653.out | refine zz3 ?_ GE664.out | refine zz3 ?_ GE669.out | refine zz3 ?_ GE675.out) hb);clear HO_665001;clear HO_670001;clear HO_676001;clear HO680;clear BK653;clear BK664;clear BK669;clear BK675;clear HB;have HO_665001:=n0_;have HO_670001:=n1_;have HO_676001:=n2_;have HO680:=n3_;have BK653:=n4_;have BK664:=n5_;have BK669:=n6_;have BK675:=n7_;have HB:=n8_;clear n0_ n1_ n2_ n3_ n4_ n5_ n6_ n7_ n8_;(try clear hb);(try clear hb2);(try clear hk);(try clear hi)))
         go_meet
         case rel=>exact ⟨_,(true),(by first | rfl | (simp;done) | (simp [*];done)),H',⟨by have:=HJ10.out;first | omega | exact Nat.le_refl _⟩,⟨by (with_reducible repeat (first | apply zz12 | apply zz13 | apply zz14));exact Kd.R_mono HO_665001.out (fun _ hk=>⟨hk.1,hk.2.1⟩)⟩,⟨by (with_reducible repeat (first | apply zz12 | apply zz13 | apply zz14));exact Kd.R_mono HO_670001.out (fun _ hk=>⟨hk.1.1,hk.1.2⟩)⟩,⟨by (with_reducible repeat (first | apply zz12 | apply zz13 | apply zz14));exact Kd.R_mono HO_676001.out (fun _ hk=>⟨hk.1,hk.2.1⟩)⟩,⟨by (with_reducible repeat (first | refine zz6 ?_ _ | refine zz7 ?_ | refine zz8 ?_ _));exact BK653.out⟩,⟨by (with_reducible repeat (first | refine zz6 ?_ _ | refine zz7 ?_ | refine zz8 ?_ _));exact BK664.out⟩,⟨by (with_reducible repeat (first | refine zz6 ?_ _ | refine zz7 ?_ | refine zz8 ?_ _));exact BK669.out⟩,⟨by (with_reducible repeat (first | refine zz6 ?_ _ | refine zz7 ?_ | refine zz8 ?_ _));exact BK675.out⟩,⟨by repeat first | exact HB.out | apply zz2 | apply zz0 | apply zz1 | refine zz3 ?_ GE653.out | refine zz3 ?_ GE664.out | refine zz3 ?_ GE669.out | refine zz3 ?_ GE675.out⟩⟩
      case rest =>
       clear HC60
       try clear c1
       try clear c2
       try clear p2
       try clear c3
       try clear c3b0
       try clear c4
       try clear c5
       try clear c6
       try clear c7
       try clear c8
       try clear c13
       try clear c15
       try clear c17
       try clear c19
       try clear c20
       try clear c22
       try clear c26
       try clear c27
       try clear c32
       try clear c33
       try clear c34
       try clear c38
       try clear c39
       try clear c40
       try clear c41
       try clear c43
       try clear c44
       try clear c45
       try clear c47
       try clear c48
       try clear c49
       try clear c51
       try clear c52
       try clear c55
       try clear c58
       try clear c65
       try clear c66
       try clear c67
       try clear c70
       try clear c70b0
       try clear c72
       try clear c73
       try clear c74
       try clear c75
       try clear c77
       try clear c78
       try clear c81
       try clear c82
       try clear c83
       try clear c85
       try clear c86
       try clear hcz13_0
       try clear hcz13_1
       try clear hcz15_0
       try clear hcz15_1
       try clear hcz21_0
       try clear hcz21_1
       try clear hcz23_0
       try clear hcz23_1
       try clear hcz28_0
       try clear hcz28_1
       try clear hcz35_0
       try clear hcz35_1
       try clear hcz42_0
       try clear hcz42_1
       try clear hcz45_0
       try clear hcz45_1
       try clear hcz50_0
       try clear hcz50_1
       try clear hcz53_0
       try clear hcz53_1
       try clear hcz5_0
       try clear hcz5_1
       try clear hcz68_0
       try clear hcz68_1
       try clear hcz76_0
       try clear hcz76_1
       try clear hcz79_0
       try clear hcz79_1
       try clear hcz84_0
       try clear hcz84_1
       try clear hcz87_0
       try clear hcz87_1
       try clear hfz13_0
       try clear hfz13_1
       try clear hfz15_0
       try clear hfz15_1
       try clear hfz21_0
       try clear hfz21_1
       try clear hfz23_0
       try clear hfz23_1
       try clear hfz28_0
       try clear hfz28_1
       try clear hfz35_0
       try clear hfz35_1
       try clear hfz42_0
       try clear hfz42_1
       try clear hfz45_0
       try clear hfz45_1
       try clear hfz50_0
       try clear hfz50_1
       try clear hfz53_0
       try clear hfz53_1
       try clear hfz5_0
       try clear hfz5_1
       try clear hfz68_0
       try clear hfz68_1
       try clear hfz76_0
       try clear hfz76_1
       try clear hfz79_0
       try clear hfz79_1
       try clear hfz84_0
       try clear hfz84_1
       try clear hfz87_0
       try clear hfz87_1
       try clear p2
       obtain ⟨kq,x61_59,rfl,HA,HJ59,HO_665001,HO_670001,HO_676001,BK653,BK664,BK669,BK675,HB⟩:=hcut
       have hl670001_59:=(Kd.R_reads' HO_670001.out).1
       rw [hl670001_59] at HO_670001
       (try simp only [hl670001_59])
       (try simp only [hl670001_59] at BK653)
       (try simp only [hl670001_59] at BK664)
       (try simp only [hl670001_59] at BK669)
       (try simp only [hl670001_59] at BK675)
       (try simp only [hl670001_59] at HO_665001)
       (try simp only [hl670001_59] at HO_676001)
       cases kq with
       | zero=>exact absurd HA.out (by simp [laws_FnExactOtherParty.j1])
       | succ kj59 =>
        have H:=HA.out
        clear HA
        simp only [laws_FnExactOtherParty.j1] at H
        by_cases c89:x61_59=true
        ·subst c89
         have H1:(some false)=some r:=by rw [if_pos rfl] at H;exact H
         clear H
         have H:=H1
         clear H1
         obtain rfl:=Option.some.inj H
         go_wp2
         go_ret
         exact ⟨by first | rfl | (simp [errW_none,errW_some] <;> rfl) | (simp [*,errW_none,errW_some] <;> rfl),by repeat first | exact HB.out | apply zz2 | apply zz0 | apply zz1 | refine zz3 ?_ GE653.out | refine zz3 ?_ GE664.out | refine zz3 ?_ GE669.out | refine zz3 ?_ GE675.out⟩
        ·replace c89:=Bool.eq_false_iff.mpr c89
         subst c89
         have H1:((laws_markParty.f kj59 t670 t671 1).bind fun bt685=>((laws_heldParty.f kj59 t670 bt685.2 1).bind fun t687=>(if t687 < 0 then (some false) else (if t687=bt685.1 then ((laws_toParty.f kj59 a0_0 l0_1).bind fun bt688=>((impl_OtherParty.f kj59 bt688.1 bt688.2).bind fun bt692=>((laws_eqParty.f kj59 bt692.1 bt692.2.1 t659 t660).bind fun t698=>(if t698=true then (laws_FnExactOtherParty.j2 kj59 bt685.1 (bt692.2.2 != t663) t670 bt685.2) else (laws_FnExactOtherParty.j2 kj59 bt685.1 true t670 bt685.2))))) else (some false)))))=some r:=by rw [if_neg (show ¬ (false=true) by decide)] at H;exact H
         clear H
         have H:=H1
         clear H1
         replace H:=zz30.mp H
         obtain ⟨⟨t685,t686⟩,A900,H⟩:=H
         replace H:((laws_heldParty.f kj59 t670 t686 1).bind fun t687=>(if t687 < 0 then (some false) else (if t687=t685 then ((laws_toParty.f kj59 a0_0 l0_1).bind fun bt688=>((impl_OtherParty.f kj59 bt688.1 bt688.2).bind fun bt692=>((laws_eqParty.f kj59 bt692.1 bt692.2.1 t659 t660).bind fun t698=>(if t698=true then (laws_FnExactOtherParty.j2 kj59 t685 (bt692.2.2 != t663) t670 t686) else (laws_FnExactOtherParty.j2 kj59 t685 true t670 t686))))) else (some false))))=some r:=H
         have A90:=Aside0.mk A900
         clear A900
         replace H:=zz30.mp H
         obtain ⟨t687,A910,H⟩:=H
         replace H:(if t687 < 0 then (some false) else (if t687=t685 then ((laws_toParty.f kj59 a0_0 l0_1).bind fun bt688=>((impl_OtherParty.f kj59 bt688.1 bt688.2).bind fun bt692=>((laws_eqParty.f kj59 bt692.1 bt692.2.1 t659 t660).bind fun t698=>(if t698=true then (laws_FnExactOtherParty.j2 kj59 t685 (bt692.2.2 != t663) t670 t686) else (laws_FnExactOtherParty.j2 kj59 t685 true t670 t686))))) else (some false)))=some r:=H
         have A91:=Aside0.mk A910
         clear A910
         by_cases c92:t687 < 0
         ·rw [if_pos c92] at H
          have c92b0:decide (t687 < 0)=true:=decide_eq_true c92
          clear c92
          obtain rfl:=Option.some.inj H
          have hnb93:=NB675_653.out
          have hnc93:=NB653_675.out
          have hnb94:=NB675_664.out
          have hnc94:=NB664_675.out
          have hnb95:=NB675_669.out
          have hnc95:=NB669_675.out
          have hcz96_0:wc.cell? ⟨gb675,0,none⟩=some (.int .i64 t670):=(zz9 BK675.out 0).trans rfl
          have hcz96_1:wc.cell? ⟨gb675,1,none⟩=some (.slice Ao36 t671.length co36):=(zz9 BK675.out 1).trans rfl
          have hfz96_0:=zz10 BK675.out 0
          have hfz96_1:=zz10 BK675.out 1
          go_wp2_with (first | ((with_reducible refine gate_callee (f:=22) rfl ?_);refine goesL_ (some 64) rfl rfl Try.func22 (by kernel_rfl) rfl #[.agg #[.int .i64 t670,.slice Ao36 t671.length co36],.int .i64 1] rfl (by (try simp only [zz26,zz27,zz28]);first | done | rfl | (simp only [zz24,zz25];rfl) | (simp only [zz25];congr;(try simp only [decide_eq_true_eq] at *);omega)) ?_;(with_reducible refine (laws_markParty.calls kj59 t670 (fun k_=>some k_=(.slice Ao36 t671.length co36:Value).ownBlock) (.slice Ao36 t671.length co36) t671 1 t685 t686 w _ ?side1 ?side2 A90.out).mono ?_);(case side1=>repeat first | exact HB.out | apply zz2 | apply zz0 | apply zz1 | refine zz3 ?_ GE653.out | refine zz3 ?_ GE664.out | refine zz3 ?_ GE669.out | refine zz3 ?_ GE675.out);(case side2=>exact Kd.R_tight rfl HO_676001.out);rintro e w97 ⟨rfl,hy0,hb,hkp⟩;refine ⟨_,rfl,?_⟩;have n0_:=Aside0.mk (Kd.R_mono (ok':=fun k_=>some k_ ≠ (.slice Ao29 t683.length co29:Value).ownBlock∧some k_ ≠ (.slice Ao36 t671.length co36:Value).ownBlock) (Kd.R_keptB (HO_665001.out) hkp (fun k_ hk_ hs_=>(hk_.2) hs_)) (fun k_ hk_=>⟨hk_.1.1,hk_.1.2⟩));have n1_:=Aside0.mk (Kd.R_mono (ok':=fun k_=>some k_ ≠ (.slice Ao22 t660.length co22:Value).ownBlock∧some k_ ≠ (.slice Ao36 t671.length co36:Value).ownBlock) (Kd.R_keptB (HO_670001.out) hkp (fun k_ hk_ hs_=>(hk_.2) hs_)) (fun k_ hk_=>⟨hk_.1.1,hk_.1.2⟩));have n2_:=Aside0.mk (Kd.R_reok rfl hy0 (fun k_ e_=>HO_676001.out.1 k_ e_));have n3_:=Aside0.mk (blk_kept (by (with_reducible repeat (first | refine zz6 ?_ _ | refine zz7 ?_ | refine zz8 ?_ _));exact BK653.out) hkp (fun hs_=>(fun e_=>(Kd.R_ne HO_676001.out BK653.out (by decide)) e_) hs_));have n4_:=Aside0.mk (blk_kept (by (with_reducible repeat (first | refine zz6 ?_ _ | refine zz7 ?_ | refine zz8 ?_ _));exact BK664.out) hkp (fun hs_=>(fun e_=>(Kd.R_ne HO_676001.out BK664.out (by decide)) e_) hs_));have n5_:=Aside0.mk (blk_kept (by (with_reducible repeat (first | refine zz6 ?_ _ | refine zz7 ?_ | refine zz8 ?_ _));exact BK669.out) hkp (fun hs_=>(fun e_=>(Kd.R_ne HO_676001.out BK669.out (by decide)) e_) hs_));have n6_:=Aside0.mk (blk_kept (by (with_reducible repeat (first | refine zz6 ?_ _ | refine zz7 ?_ | refine zz8 ?_ _));exact BK675.out) hkp (fun hs_=>(fun e_=>(Kd.R_ne HO_676001.out BK675.out (by decide)) e_) hs_));have n7_:=Aside0.mk (hb);clear HO_665001;clear HO_670001;clear HO_676001;clear BK653;clear BK664;clear BK669;clear BK675;clear HB;have HO_665001:=n0_;have HO_670001:=n1_;have HO_676001:=n2_;have BK653:=n3_;have BK664:=n4_;have BK669:=n5_;have BK675:=n6_;have HB:=n7_;clear n0_ n1_ n2_ n3_ n4_ n5_ n6_ n7_;(try clear hb);(try clear hkp);(try clear hy0);have hcz98_0:w97.cell? ⟨gb675,0,none⟩=some (.int .i64 t670):=(zz9 BK675.out 0).trans rfl;have hcz98_1:w97.cell? ⟨gb675,1,none⟩=some (.slice Ao36 t671.length co36):=(zz9 BK675.out 1).trans rfl;have hfz98_0:=zz10 BK675.out 0;have hfz98_1:=zz10 BK675.out 1) | ((with_reducible refine gate_callee (f:=23) rfl ?_);refine goesL_ (some 67) rfl rfl Try.func23 (by kernel_rfl) rfl #[.agg #[.int .i64 t670,.slice Ao36 t686.length co36],.int .i64 1] rfl (by (try simp only [zz26,zz27,zz28]);first | done | (rw [show t686.length=t671.length from (Kd.R_reads' HO_676001.out).1.symm] <;> rfl) | rfl | (simp only [zz24,zz25];rfl)) ?_;(with_reducible refine (laws_heldParty.calls kj59 t670 _ _ t686 1 t687 _ ?side1 ?side2 A91.out).mono ?_);(case side1=>repeat (first | exact (Kd.R_reads' HO_676001.out).2.2 | (with_reducible refine zz18 ?_ _) | (with_reducible refine zz19 ?_ _) | (with_reducible refine zz20 ?_)));(case side2=>rw [show t686.length=t671.length from (Kd.R_reads' HO_676001.out).1.symm];exact (Kd.R_reads' HO_676001.out).2.1);rintro e w99 ⟨rfl,hb⟩;refine ⟨_,rfl,?_⟩;have n0_:=Aside0.mk (Kd.R_below (by (with_reducible repeat (first | apply zz12 | apply zz13 | apply zz14));exact HO_665001.out) hb);have n1_:=Aside0.mk (Kd.R_below (by (with_reducible repeat (first | apply zz12 | apply zz13 | apply zz14));exact HO_670001.out) hb);have n2_:=Aside0.mk (Kd.R_below (by (with_reducible repeat (first | apply zz12 | apply zz13 | apply zz14));exact HO_676001.out) hb);have n3_:=Aside0.mk (zz11 (g:=gb653) (o:=.cells #[.int .i64 a0_0,.slice A0_1 l0_1.length c0_1] 24 (0,0)) (by (with_reducible repeat (first | refine zz6 ?_ _ | refine zz7 ?_ | refine zz8 ?_ _));exact BK653.out) hb);have n4_:=Aside0.mk (zz11 (g:=gb664) (o:=.cells #[.int .i64 t659,.slice Ao22 t660.length co22] 29 (0,0)) (by (with_reducible repeat (first | refine zz6 ?_ _ | refine zz7 ?_ | refine zz8 ?_ _));exact BK664.out) hb);have n5_:=Aside0.mk (zz11 (g:=gb669) (o:=.cells #[.int .i64 t665,.slice Ao29 t683.length co29] 29 (0,0)) (by (with_reducible repeat (first | refine zz6 ?_ _ | refine zz7 ?_ | refine zz8 ?_ _));exact BK669.out) hb);have n6_:=Aside0.mk (zz11 (g:=gb675) (o:=.cells #[.int .i64 t670,.slice Ao36 t671.length co36] 29 (0,0)) (by (with_reducible repeat (first | refine zz6 ?_ _ | refine zz7 ?_ | refine zz8 ?_ _));exact BK675.out) hb);have n7_:=Aside0.mk (zz4 (by repeat first | exact HB.out | apply zz2 | apply zz0 | apply zz1 | refine zz3 ?_ GE653.out | refine zz3 ?_ GE664.out | refine zz3 ?_ GE669.out | refine zz3 ?_ GE675.out) hb);clear HO_665001;clear HO_670001;clear HO_676001;clear BK653;clear BK664;clear BK669;clear BK675;clear HB;have HO_665001:=n0_;have HO_670001:=n1_;have HO_676001:=n2_;have BK653:=n3_;have BK664:=n4_;have BK669:=n5_;have BK675:=n6_;have HB:=n7_;clear n0_ n1_ n2_ n3_ n4_ n5_ n6_ n7_;(try clear hb);(try clear hb2);(try clear hk);(try clear hi)))
          go_ret
          exact ⟨by first | rfl | (simp [errW_none,errW_some] <;> rfl) | (simp [*,errW_none,errW_some] <;> rfl),by repeat first | exact HB.out | apply zz2 | apply zz0 | apply zz1 | refine zz3 ?_ GE653.out | refine zz3 ?_ GE664.out | refine zz3 ?_ GE669.out | refine zz3 ?_ GE675.out⟩
         ·rw [if_neg c92] at H
          have c92b0:decide (t687 < 0)=false:=decide_eq_false c92
          clear c92
          by_cases c100:t687=t685
          ·rw [if_pos c100] at H
           have c100b0:(t687 == t685)=true:=beq_iff_eq.mpr c100
           have c100b1:(t687 != t685)=false:=bne_eq_false_iff_eq.mpr c100
           clear c100
           replace H:=zz30.mp H
           obtain ⟨⟨t688,t689⟩,A1010,H⟩:=H
           replace H:((impl_OtherParty.f kj59 t688 t689).bind fun bt692=>((laws_eqParty.f kj59 bt692.1 bt692.2.1 t659 t660).bind fun t698=>(if t698=true then (laws_FnExactOtherParty.j2 kj59 t685 (bt692.2.2 != t663) t670 t686) else (laws_FnExactOtherParty.j2 kj59 t685 true t670 t686))))=some r:=H
           have A101:=Aside0.mk A1010
           clear A1010
           replace H:=zz30.mp H
           obtain ⟨⟨t692,t693,t696⟩,A1020,H⟩:=H
           replace H:((laws_eqParty.f kj59 t692 t693 t659 t660).bind fun t698=>(if t698=true then (laws_FnExactOtherParty.j2 kj59 t685 (t696 != t663) t670 t686) else (laws_FnExactOtherParty.j2 kj59 t685 true t670 t686)))=some r:=H
           have A102:=Aside0.mk A1020
           clear A1020
           have HC103:=Aside0.mk H
           clear H
           have hnb104:=NB675_653.out
           have hnc104:=NB653_675.out
           have hnb105:=NB675_664.out
           have hnc105:=NB664_675.out
           have hnb106:=NB675_669.out
           have hnc106:=NB669_675.out
           have hcz107_0:wc.cell? ⟨gb675,0,none⟩=some (.int .i64 t670):=(zz9 BK675.out 0).trans rfl
           have hcz107_1:wc.cell? ⟨gb675,1,none⟩=some (.slice Ao36 t671.length co36):=(zz9 BK675.out 1).trans rfl
           have hfz107_0:=zz10 BK675.out 0
           have hfz107_1:=zz10 BK675.out 1
           go_upto_region 25 with (first | ((with_reducible refine gate_callee (f:=22) rfl ?_);refine goesL_ (some 64) rfl rfl Try.func22 (by kernel_rfl) rfl #[.agg #[.int .i64 t670,.slice Ao36 t671.length co36],.int .i64 1] rfl (by (try simp only [zz26,zz27,zz28]);first | done | rfl | (simp only [zz24,zz25];rfl) | (simp only [zz25];congr;(try simp only [decide_eq_true_eq] at *);omega)) ?_;(with_reducible refine (laws_markParty.calls kj59 t670 (fun k_=>some k_=(.slice Ao36 t671.length co36:Value).ownBlock) (.slice Ao36 t671.length co36) t671 1 t685 t686 w _ ?side1 ?side2 A90.out).mono ?_);(case side1=>repeat first | exact HB.out | apply zz2 | apply zz0 | apply zz1 | refine zz3 ?_ GE653.out | refine zz3 ?_ GE664.out | refine zz3 ?_ GE669.out | refine zz3 ?_ GE675.out);(case side2=>exact Kd.R_tight rfl HO_676001.out);rintro e w108 ⟨rfl,hy0,hb,hkp⟩;refine ⟨_,rfl,?_⟩;have n0_:=Aside0.mk (Kd.R_mono (ok':=fun k_=>some k_ ≠ (.slice Ao29 t683.length co29:Value).ownBlock∧some k_ ≠ (.slice Ao36 t671.length co36:Value).ownBlock) (Kd.R_keptB (HO_665001.out) hkp (fun k_ hk_ hs_=>(hk_.2) hs_)) (fun k_ hk_=>⟨hk_.1.1,hk_.1.2⟩));have n1_:=Aside0.mk (Kd.R_mono (ok':=fun k_=>some k_ ≠ (.slice Ao22 t660.length co22:Value).ownBlock∧some k_ ≠ (.slice Ao36 t671.length co36:Value).ownBlock) (Kd.R_keptB (HO_670001.out) hkp (fun k_ hk_ hs_=>(hk_.2) hs_)) (fun k_ hk_=>⟨hk_.1.1,hk_.1.2⟩));have n2_:=Aside0.mk (Kd.R_reok rfl hy0 (fun k_ e_=>HO_676001.out.1 k_ e_));have n3_:=Aside0.mk (blk_kept (by (with_reducible repeat (first | refine zz6 ?_ _ | refine zz7 ?_ | refine zz8 ?_ _));exact BK653.out) hkp (fun hs_=>(fun e_=>(Kd.R_ne HO_676001.out BK653.out (by decide)) e_) hs_));have n4_:=Aside0.mk (blk_kept (by (with_reducible repeat (first | refine zz6 ?_ _ | refine zz7 ?_ | refine zz8 ?_ _));exact BK664.out) hkp (fun hs_=>(fun e_=>(Kd.R_ne HO_676001.out BK664.out (by decide)) e_) hs_));have n5_:=Aside0.mk (blk_kept (by (with_reducible repeat (first | refine zz6 ?_ _ | refine zz7 ?_ | refine zz8 ?_ _));exact BK669.out) hkp (fun hs_=>(fun e_=>(Kd.R_ne HO_676001.out BK669.out (by decide)) e_) hs_));have n6_:=Aside0.mk (blk_kept (by (with_reducible repeat (first | refine zz6 ?_ _ | refine zz7 ?_ | refine zz8 ?_ _));exact BK675.out) hkp (fun hs_=>(fun e_=>(Kd.R_ne HO_676001.out BK675.out (by decide)) e_) hs_));have n7_:=Aside0.mk (hb);clear HO_665001;clear HO_670001;clear HO_676001;clear BK653;clear BK664;clear BK669;clear BK675;clear HB;have HO_665001:=n0_;have HO_670001:=n1_;have HO_676001:=n2_;have BK653:=n3_;have BK664:=n4_;have BK669:=n5_;have BK675:=n6_;have HB:=n7_;clear n0_ n1_ n2_ n3_ n4_ n5_ n6_ n7_;(try clear hb);(try clear hkp);(try clear hy0);have hcz109_0:w108.cell? ⟨gb675,0,none⟩=some (.int .i64 t670):=(zz9 BK675.out 0).trans rfl;have hcz109_1:w108.cell? ⟨gb675,1,none⟩=some (.slice Ao36 t671.length co36):=(zz9 BK675.out 1).trans rfl;have hfz109_0:=zz10 BK675.out 0;have hfz109_1:=zz10 BK675.out 1) | ((with_reducible refine gate_callee (f:=23) rfl ?_);refine goesL_ (some 67) rfl rfl Try.func23 (by kernel_rfl) rfl #[.agg #[.int .i64 t670,.slice Ao36 t686.length co36],.int .i64 1] rfl (by (try simp only [zz26,zz27,zz28]);first | done | (rw [show t686.length=t671.length from (Kd.R_reads' HO_676001.out).1.symm] <;> rfl) | rfl | (simp only [zz24,zz25];rfl)) ?_;(with_reducible refine (laws_heldParty.calls kj59 t670 _ _ t686 1 t687 _ ?side1 ?side2 A91.out).mono ?_);(case side1=>repeat (first | exact (Kd.R_reads' HO_676001.out).2.2 | (with_reducible refine zz18 ?_ _) | (with_reducible refine zz19 ?_ _) | (with_reducible refine zz20 ?_)));(case side2=>rw [show t686.length=t671.length from (Kd.R_reads' HO_676001.out).1.symm];exact (Kd.R_reads' HO_676001.out).2.1);rintro e w110 ⟨rfl,hb⟩;refine ⟨_,rfl,?_⟩;have n0_:=Aside0.mk (Kd.R_below (by (with_reducible repeat (first | apply zz12 | apply zz13 | apply zz14));exact HO_665001.out) hb);have n1_:=Aside0.mk (Kd.R_below (by (with_reducible repeat (first | apply zz12 | apply zz13 | apply zz14));exact HO_670001.out) hb);have n2_:=Aside0.mk (Kd.R_below (by (with_reducible repeat (first | apply zz12 | apply zz13 | apply zz14));exact HO_676001.out) hb);have n3_:=Aside0.mk (zz11 (g:=gb653) (o:=.cells #[.int .i64 a0_0,.slice A0_1 l0_1.length c0_1] 24 (0,0)) (by (with_reducible repeat (first | refine zz6 ?_ _ | refine zz7 ?_ | refine zz8 ?_ _));exact BK653.out) hb);have n4_:=Aside0.mk (zz11 (g:=gb664) (o:=.cells #[.int .i64 t659,.slice Ao22 t660.length co22] 29 (0,0)) (by (with_reducible repeat (first | refine zz6 ?_ _ | refine zz7 ?_ | refine zz8 ?_ _));exact BK664.out) hb);have n5_:=Aside0.mk (zz11 (g:=gb669) (o:=.cells #[.int .i64 t665,.slice Ao29 t683.length co29] 29 (0,0)) (by (with_reducible repeat (first | refine zz6 ?_ _ | refine zz7 ?_ | refine zz8 ?_ _));exact BK669.out) hb);have n6_:=Aside0.mk (zz11 (g:=gb675) (o:=.cells #[.int .i64 t670,.slice Ao36 t671.length co36] 29 (0,0)) (by (with_reducible repeat (first | refine zz6 ?_ _ | refine zz7 ?_ | refine zz8 ?_ _));exact BK675.out) hb);have n7_:=Aside0.mk (zz4 (by repeat first | exact HB.out | apply zz2 | apply zz0 | apply zz1 | refine zz3 ?_ GE653.out | refine zz3 ?_ GE664.out | refine zz3 ?_ GE669.out | refine zz3 ?_ GE675.out) hb);clear HO_665001;clear HO_670001;clear HO_676001;clear BK653;clear BK664;clear BK669;clear BK675;clear HB;have HO_665001:=n0_;have HO_670001:=n1_;have HO_676001:=n2_;have BK653:=n3_;have BK664:=n4_;have BK669:=n5_;have BK675:=n6_;have HB:=n7_;clear n0_ n1_ n2_ n3_ n4_ n5_ n6_ n7_;(try clear hb);(try clear hb2);(try clear hk);(try clear hi);have hnb111:=NB653_664.out;have hnc111:=NB664_653.out;have hnb112:=NB653_669.out;have hnc112:=NB669_653.out;have hcz113_0:w110.cell? ⟨gb653,0,none⟩=some (.int .i64 a0_0):=(zz9 BK653.out 0).trans rfl;have hcz113_1:w110.cell? ⟨gb653,1,none⟩=some (.slice A0_1 l0_1.length c0_1):=(zz9 BK653.out 1).trans rfl;have hfz113_0:=zz10 BK653.out 0;have hfz113_1:=zz10 BK653.out 1) | ((with_reducible refine gate_callee (f:=17) rfl ?_);refine goesL_ (some 75) rfl rfl Try.func17 (by kernel_rfl) rfl #[.agg #[.int .i64 a0_0,.slice A0_1 l0_1.length c0_1]] rfl (by (try simp only [zz26,zz27,zz28]);first | done | rfl | (simp only [zz24,zz25];rfl) | (simp only [zz25];congr;(try simp only [decide_eq_true_eq] at *);omega)) ?_;(with_reducible refine (laws_toParty.calls kj59 a0_0 _ _ l0_1 t688 t689 _ ?side1 ?side2 A101.out).mono ?_);(case side1=>repeat (first | exact (Kd.C_below HR0_1.out HB.out) | (with_reducible refine zz18 ?_ _) | (with_reducible refine zz19 ?_ _) | (with_reducible refine zz20 ?_)));(case side2=>exact HC0_1.out);rintro e w114 ⟨v690,rfl,ho0,hb⟩;refine ⟨_,rfl,?_⟩;have n0_:=Aside0.mk (Kd.R_elder' (by (with_reducible repeat (first | apply zz12 | apply zz13 | apply zz14));exact HO_665001.out) (Kd.R_base ho0) hb);have n1_:=Aside0.mk (Kd.R_elder' (by (with_reducible repeat (first | apply zz12 | apply zz13 | apply zz14));exact HO_670001.out) (Kd.R_base ho0) hb);have n2_:=Aside0.mk (Kd.R_elder' (by (with_reducible repeat (first | apply zz12 | apply zz13 | apply zz14));exact HO_676001.out) (Kd.R_base ho0) hb);have n3_:=Aside0.mk (Kd.R_lower (Kd.R_new' (Kd.R_new' (Kd.R_new' ho0 (Kd.R_lt (by (with_reducible repeat (first | apply zz12 | apply zz13 | apply zz14));exact HO_665001.out))) (Kd.R_lt (by (with_reducible repeat (first | apply zz12 | apply zz13 | apply zz14));exact HO_670001.out))) (Kd.R_lt (by (with_reducible repeat (first | apply zz12 | apply zz13 | apply zz14));exact HO_676001.out))) (zz5 (by repeat first | exact HB.out | apply zz2 | apply zz0 | apply zz1 | refine zz3 ?_ GE653.out | refine zz3 ?_ GE664.out | refine zz3 ?_ GE669.out | refine zz3 ?_ GE675.out)));have n4_:=Aside0.mk (zz11 (g:=gb653) (o:=.cells #[.int .i64 a0_0,.slice A0_1 l0_1.length c0_1] 24 (0,0)) (by (with_reducible repeat (first | refine zz6 ?_ _ | refine zz7 ?_ | refine zz8 ?_ _));exact BK653.out) hb);have n5_:=Aside0.mk (zz11 (g:=gb664) (o:=.cells #[.int .i64 t659,.slice Ao22 t660.length co22] 29 (0,0)) (by (with_reducible repeat (first | refine zz6 ?_ _ | refine zz7 ?_ | refine zz8 ?_ _));exact BK664.out) hb);have n6_:=Aside0.mk (zz11 (g:=gb669) (o:=.cells #[.int .i64 t665,.slice Ao29 t683.length co29] 29 (0,0)) (by (with_reducible repeat (first | refine zz6 ?_ _ | refine zz7 ?_ | refine zz8 ?_ _));exact BK669.out) hb);have n7_:=Aside0.mk (zz11 (g:=gb675) (o:=.cells #[.int .i64 t670,.slice Ao36 t671.length co36] 29 (0,0)) (by (with_reducible repeat (first | refine zz6 ?_ _ | refine zz7 ?_ | refine zz8 ?_ _));exact BK675.out) hb);have n8_:=Aside0.mk (zz4 (by repeat first | exact HB.out | apply zz2 | apply zz0 | apply zz1 | refine zz3 ?_ GE653.out | refine zz3 ?_ GE664.out | refine zz3 ?_ GE669.out | refine zz3 ?_ GE675.out) hb);clear HO_665001;clear HO_670001;clear HO_676001;clear BK653;clear BK664;clear BK669;clear BK675;clear HB;have HO_665001:=n0_;have HO_670001:=n1_;have HO_676001:=n2_;have HO691:=n3_;have BK653:=n4_;have BK664:=n5_;have BK669:=n6_;have BK675:=n7_;have HB:=n8_;clear n0_ n1_ n2_ n3_ n4_ n5_ n6_ n7_ n8_;(try clear hb);(try clear hb2);(try clear hk);(try clear hi);(try clear ho0);obtain ⟨Ao115,co115,eo115⟩:=Kd.R_slice HO691.out;subst eo115) | ((with_reducible refine gate_callee (f:=45) rfl ?_);refine goesL_ (some 76) rfl rfl Try.func45 (by kernel_rfl) rfl #[.agg #[.int .i64 t688,.slice Ao115 t689.length co115]] rfl (by (try simp only [zz26,zz27,zz28]);first | done | rfl | (simp only [zz24,zz25];rfl) | (simp only [zz25];congr;(try simp only [decide_eq_true_eq] at *);omega)) ?_;(with_reducible refine (impl_OtherParty.calls kj59 t688 _ _ t689 t692 t693 t696 _ ?side1 ?side2 A102.out).mono ?_);(case side1=>repeat (first | exact (Kd.R_reads' HO691.out).2.2 | (with_reducible refine zz18 ?_ _) | (with_reducible refine zz19 ?_ _) | (with_reducible refine zz20 ?_)));(case side2=>exact (Kd.R_reads' HO691.out).2.1);rintro e w116 ⟨v694,rfl,ho0,hb⟩;refine ⟨_,rfl,?_⟩;have n0_:=Aside0.mk (Kd.R_elder' (by (with_reducible repeat (first | apply zz12 | apply zz13 | apply zz14));exact HO_665001.out) (Kd.R_base ho0) hb);have n1_:=Aside0.mk (Kd.R_elder' (by (with_reducible repeat (first | apply zz12 | apply zz13 | apply zz14));exact HO_670001.out) (Kd.R_base ho0) hb);have n2_:=Aside0.mk (Kd.R_elder' (by (with_reducible repeat (first | apply zz12 | apply zz13 | apply zz14));exact HO_676001.out) (Kd.R_base ho0) hb);have n3_:=Aside0.mk (Kd.R_elder' (by (with_reducible repeat (first | apply zz12 | apply zz13 | apply zz14));exact HO691.out) (Kd.R_base ho0) hb);have n4_:=Aside0.mk (Kd.R_lower (Kd.R_new' (Kd.R_new' (Kd.R_new' (Kd.R_new' ho0 (Kd.R_lt (by (with_reducible repeat (first | apply zz12 | apply zz13 | apply zz14));exact HO_665001.out))) (Kd.R_lt (by (with_reducible repeat (first | apply zz12 | apply zz13 | apply zz14));exact HO_670001.out))) (Kd.R_lt (by (with_reducible repeat (first | apply zz12 | apply zz13 | apply zz14));exact HO_676001.out))) (Kd.R_lt (by (with_reducible repeat (first | apply zz12 | apply zz13 | apply zz14));exact HO691.out))) (zz5 (by repeat first | exact HB.out | apply zz2 | apply zz0 | apply zz1 | refine zz3 ?_ GE653.out | refine zz3 ?_ GE664.out | refine zz3 ?_ GE669.out | refine zz3 ?_ GE675.out)));have n5_:=Aside0.mk (zz11 (g:=gb653) (o:=.cells #[.int .i64 a0_0,.slice A0_1 l0_1.length c0_1] 24 (0,0)) (by (with_reducible repeat (first | refine zz6 ?_ _ | refine zz7 ?_ | refine zz8 ?_ _));exact BK653.out) hb);have n6_:=Aside0.mk (zz11 (g:=gb664) (o:=.cells #[.int .i64 t659,.slice Ao22 t660.length co22] 29 (0,0)) (by (with_reducible repeat (first | refine zz6 ?_ _ | refine zz7 ?_ | refine zz8 ?_ _));exact BK664.out) hb);have n7_:=Aside0.mk (zz11 (g:=gb669) (o:=.cells #[.int .i64 t665,.slice Ao29 t683.length co29] 29 (0,0)) (by (with_reducible repeat (first | refine zz6 ?_ _ | refine zz7 ?_ | refine zz8 ?_ _));exact BK669.out) hb);have n8_:=Aside0.mk (zz11 (g:=gb675) (o:=.cells #[.int .i64 t670,.slice Ao36 t671.length co36] 29 (0,0)) (by (with_reducible repeat (first | refine zz6 ?_ _ | refine zz7 ?_ | refine zz8 ?_ _));exact BK675.out) hb);have n9_:=Aside0.mk (zz4 (by repeat first | exact HB.out | apply zz2 | apply zz0 | apply zz1 | refine zz3 ?_ GE653.out | refine zz3 ?_ GE664.out | refine zz3 ?_ GE669.out | refine zz3 ?_ GE675.out) hb);clear HO_665001;clear HO_670001;clear HO_676001;clear HO691;clear BK653;clear BK664;clear BK669;clear BK675;clear HB;have HO_665001:=n0_;have HO_670001:=n1_;have HO_676001:=n2_;have HO691:=n3_;have HO695:=n4_;have BK653:=n5_;have BK664:=n6_;have BK669:=n7_;have BK675:=n8_;have HB:=n9_;clear n0_ n1_ n2_ n3_ n4_ n5_ n6_ n7_ n8_ n9_;(try clear hb);(try clear hb2);(try clear hk);(try clear hi);(try clear ho0)) | ((with_reducible refine gate_dst (N:=12) rfl ?_);refine box_event ?hg (N:=12) ?hd (cs:=#[.int .i64 0,.slice none 0 0]) (t:=29) ?hr ?_;(case hd=>rfl);(case hg=>rfl);(case hr=>first | (go_simp;done) | (go_simp;rfl));intro gb697 hg w117 hbox hb;have n0_:=Aside0.mk (Kd.R_below (by (with_reducible repeat (first | apply zz12 | apply zz13 | apply zz14));exact HO_665001.out) hb);have n1_:=Aside0.mk (Kd.R_below (by (with_reducible repeat (first | apply zz12 | apply zz13 | apply zz14));exact HO_670001.out) hb);have n2_:=Aside0.mk (Kd.R_below (by (with_reducible repeat (first | apply zz12 | apply zz13 | apply zz14));exact HO_676001.out) hb);have n3_:=Aside0.mk (Kd.R_below (by (with_reducible repeat (first | apply zz12 | apply zz13 | apply zz14));exact HO691.out) hb);have n4_:=Aside0.mk (Kd.R_below (by (with_reducible repeat (first | apply zz12 | apply zz13 | apply zz14));exact HO695.out) hb);have n5_:=Aside0.mk (zz11 (g:=gb653) (o:=.cells #[.int .i64 a0_0,.slice A0_1 l0_1.length c0_1] 24 (0,0)) (by (with_reducible repeat (first | refine zz6 ?_ _ | refine zz7 ?_ | refine zz8 ?_ _));exact BK653.out) hb);have n6_:=Aside0.mk (zz11 (g:=gb664) (o:=.cells #[.int .i64 t659,.slice Ao22 t660.length co22] 29 (0,0)) (by (with_reducible repeat (first | refine zz6 ?_ _ | refine zz7 ?_ | refine zz8 ?_ _));exact BK664.out) hb);have n7_:=Aside0.mk (zz11 (g:=gb669) (o:=.cells #[.int .i64 t665,.slice Ao29 t683.length co29] 29 (0,0)) (by (with_reducible repeat (first | refine zz6 ?_ _ | refine zz7 ?_ | refine zz8 ?_ _));exact BK669.out) hb);have n8_:=Aside0.mk (zz11 (g:=gb675) (o:=.cells #[.int .i64 t670,.slice Ao36 t671.length co36] 29 (0,0)) (by (with_reducible repeat (first | refine zz6 ?_ _ | refine zz7 ?_ | refine zz8 ?_ _));exact BK675.out) hb);have n9_:=Aside0.mk (zz4 (by repeat first | exact HB.out | apply zz2 | apply zz0 | apply zz1 | refine zz3 ?_ GE653.out | refine zz3 ?_ GE664.out | refine zz3 ?_ GE669.out | refine zz3 ?_ GE675.out) hb);have n10_:=Aside0.mk (hbox);have n11_:=Aside0.mk ((by rw [hg];exact (zz5 (by repeat first | exact HB.out | apply zz2 | apply zz0 | apply zz1 | refine zz3 ?_ GE653.out | refine zz3 ?_ GE664.out | refine zz3 ?_ GE669.out | refine zz3 ?_ GE675.out)):w.heap.size≤gb697));have n12_:=Aside0.mk ((by rw [hg];exact (zz5 (by repeat first | exact HB.out | apply zz2 | apply zz0 | apply zz1 | refine zz3 ?_ GE653.out | refine zz3 ?_ GE664.out | refine zz3 ?_ GE669.out | refine zz3 ?_ GE675.out)):w.heap.size≤gb697));have n13_:=Aside0.mk ((by rw [hg];exact Nat.ne_of_lt (blk_lt (g:=gb653) (o:=.cells #[.int .i64 a0_0,.slice A0_1 l0_1.length c0_1] 24 (0,0)) (by (with_reducible repeat (first | refine zz6 ?_ _ | refine zz7 ?_ | refine zz8 ?_ _));exact BK653.out)):gb653 ≠ gb697));have n14_:=Aside0.mk ((by rw [hg];exact Nat.ne_of_gt (blk_lt (g:=gb653) (o:=.cells #[.int .i64 a0_0,.slice A0_1 l0_1.length c0_1] 24 (0,0)) (by (with_reducible repeat (first | refine zz6 ?_ _ | refine zz7 ?_ | refine zz8 ?_ _));exact BK653.out)):gb697 ≠ gb653));have n15_:=Aside0.mk ((by rw [hg];exact Nat.ne_of_lt (blk_lt (g:=gb664) (o:=.cells #[.int .i64 t659,.slice Ao22 t660.length co22] 29 (0,0)) (by (with_reducible repeat (first | refine zz6 ?_ _ | refine zz7 ?_ | refine zz8 ?_ _));exact BK664.out)):gb664 ≠ gb697));have n16_:=Aside0.mk ((by rw [hg];exact Nat.ne_of_gt (blk_lt (g:=gb664) (o:=.cells #[.int .i64 t659,.slice Ao22 t660.length co22] 29 (0,0)) (by (with_reducible repeat (first | refine zz6 ?_ _ | refine zz7 ?_ | refine zz8 ?_ _));exact BK664.out)):gb697 ≠ gb664));have n17_:=Aside0.mk ((by rw [hg];exact Nat.ne_of_lt (blk_lt (g:=gb669) (o:=.cells #[.int .i64 t665,.slice Ao29 t683.length co29] 29 (0,0)) (by (with_reducible repeat (first | refine zz6 ?_ _ | refine zz7 ?_ | refine zz8 ?_ _));exact BK669.out)):gb669 ≠ gb697));have n18_:=Aside0.mk ((by rw [hg];exact Nat.ne_of_gt (blk_lt (g:=gb669) (o:=.cells #[.int .i64 t665,.slice Ao29 t683.length co29] 29 (0,0)) (by (with_reducible repeat (first | refine zz6 ?_ _ | refine zz7 ?_ | refine zz8 ?_ _));exact BK669.out)):gb697 ≠ gb669));have n19_:=Aside0.mk ((by rw [hg];exact Nat.ne_of_lt (blk_lt (g:=gb675) (o:=.cells #[.int .i64 t670,.slice Ao36 t671.length co36] 29 (0,0)) (by (with_reducible repeat (first | refine zz6 ?_ _ | refine zz7 ?_ | refine zz8 ?_ _));exact BK675.out)):gb675 ≠ gb697));have n20_:=Aside0.mk ((by rw [hg];exact Nat.ne_of_gt (blk_lt (g:=gb675) (o:=.cells #[.int .i64 t670,.slice Ao36 t671.length co36] 29 (0,0)) (by (with_reducible repeat (first | refine zz6 ?_ _ | refine zz7 ?_ | refine zz8 ?_ _));exact BK675.out)):gb697 ≠ gb675));clear HO_665001;clear HO_670001;clear HO_676001;clear HO691;clear HO695;clear BK653;clear BK664;clear BK669;clear BK675;clear HB;have HO_665001:=n0_;have HO_670001:=n1_;have HO_676001:=n2_;have HO691:=n3_;have HO695:=n4_;have BK653:=n5_;have BK664:=n6_;have BK669:=n7_;have BK675:=n8_;have HB:=n9_;have BK697:=n10_;have GW697:=n11_;have GE697:=n12_;have NB653_697:=n13_;have NB697_653:=n14_;have NB664_697:=n15_;have NB697_664:=n16_;have NB669_697:=n17_;have NB697_669:=n18_;have NB675_697:=n19_;have NB697_675:=n20_;clear n0_ n1_ n2_ n3_ n4_ n5_ n6_ n7_ n8_ n9_ n10_ n11_ n12_ n13_ n14_ n15_ n16_ n17_ n18_ n19_ n20_;clear hb hbox hg;have hnb118:=NB697_653.out;have hnc118:=NB653_697.out;have hnb119:=NB697_664.out;have hnc119:=NB664_697.out;have hnb120:=NB697_669.out;have hnc120:=NB669_697.out;have hnb121:=NB697_675.out;have hnc121:=NB675_697.out;have hcz122_0:w117.cell? ⟨gb697,0,none⟩=some (.int .i64 0):=(zz9 BK697.out 0).trans rfl;have hcz122_1:w117.cell? ⟨gb697,1,none⟩=some (.slice none 0 0):=(zz9 BK697.out 1).trans rfl;have hfz122_0:=zz10 BK697.out 0;have hfz122_1:=zz10 BK697.out 1;obtain ⟨Ao123,co123,eo123⟩:=Kd.R_slice HO695.out;subst eo123))
           (try simp only [Act.put,zz21,zz22,zz23])
           go_cut [87] (fun v87 wc=>∃ (kq:Nat) (x87_102:Bool),v87=.bool x87_102∧Aside0 (laws_FnExactOtherParty.j2 kq t685 x87_102 t670 t686=some r)∧Aside0 (kq≤kj59)∧Aside0 (Kd.R k61 61 wc w.heap.size (fun k_=>some k_ ≠ ((.slice Ao29 t683.length co29):Value).ownBlock∧some k_ ≠ ((.slice Ao36 t671.length co36):Value).ownBlock∧some k_ ≠ ((.slice Ao123 t693.length co123):Value).ownBlock) (.slice Ao22 t660.length co22) t660)∧Aside0 (Kd.R k61 61 wc w.heap.size (fun k_=>some k_ ≠ ((.slice Ao22 t660.length co22):Value).ownBlock∧some k_ ≠ ((.slice Ao36 t671.length co36):Value).ownBlock∧some k_ ≠ ((.slice Ao123 t693.length co123):Value).ownBlock) (.slice Ao29 t683.length co29) t683)∧Aside0 (Kd.R k61 61 wc w.heap.size (fun k_=>some k_ ≠ ((.slice Ao22 t660.length co22):Value).ownBlock∧some k_ ≠ ((.slice Ao29 t683.length co29):Value).ownBlock∧some k_ ≠ ((.slice Ao123 t693.length co123):Value).ownBlock) (.slice Ao36 t671.length co36) t686)∧Aside0 (Kd.R k61 61 wc w.heap.size (fun k_=>some k_ ≠ ((.slice Ao22 t660.length co22):Value).ownBlock∧some k_ ≠ ((.slice Ao29 t683.length co29):Value).ownBlock∧some k_ ≠ ((.slice Ao36 t671.length co36):Value).ownBlock) (.slice Ao123 t693.length co123) t693)∧Aside0 (wc.heap[gb653]?=some (.cells #[.int .i64 a0_0,(.slice A0_1 l0_1.length c0_1)] 24 (0,0)))∧Aside0 (wc.heap[gb664]?=some (.cells #[.int .i64 t659,(.slice Ao22 t660.length co22)] 29 (0,0)))∧Aside0 (wc.heap[gb669]?=some (.cells #[.int .i64 t665,(.slice Ao29 t683.length co29)] 29 (0,0)))∧Aside0 (wc.heap[gb675]?=some (.cells #[.int .i64 t670,(.slice Ao36 t671.length co36)] 29 (0,0)))∧Aside0 (wc.heap[gb697]?=some (.cells #[.int .i64 t692,(.slice Ao123 t693.length co123)] 29 (0,0)))∧Aside0 (Below w.heap.size w wc))
           case first =>
            have H:=HC103.out
            clear HC103
            replace H:=zz30.mp H
            obtain ⟨t698,A1240,H⟩:=H
            replace H:(if t698=true then (laws_FnExactOtherParty.j2 kj59 t685 (t696 != t663) t670 t686) else (laws_FnExactOtherParty.j2 kj59 t685 true t670 t686))=some r:=H
            have A124:=Aside0.mk A1240
            clear A1240
            by_cases c125:t698=true
            ·subst c125
             have H1:(laws_FnExactOtherParty.j2 kj59 t685 (t696 != t663) t670 t686)=some r:=by rw [if_pos rfl] at H;exact H
             clear H
             have H:=H1
             clear H1
             have H':=Aside0.mk H
             clear H
             have hnb126:=NB697_653.out
             have hnc126:=NB653_697.out
             have hnb127:=NB697_664.out
             have hnc127:=NB664_697.out
             have hnb128:=NB697_669.out
             have hnc128:=NB669_697.out
             have hnb129:=NB697_675.out
             have hnc129:=NB675_697.out
             have hcz130_0:w117.cell? ⟨gb697,0,none⟩=some (.int .i64 0):=(zz9 BK697.out 0).trans rfl
             have hcz130_1:w117.cell? ⟨gb697,1,none⟩=some (.slice none 0 0):=(zz9 BK697.out 1).trans rfl
             have hfz130_0:=zz10 BK697.out 0
             have hfz130_1:=zz10 BK697.out 1
             have hnb131:=NB664_653.out
             have hnc131:=NB653_664.out
             have hnb132:=NB664_669.out
             have hnc132:=NB669_664.out
             have hnb133:=NB664_675.out
             have hnc133:=NB675_664.out
             have hcz134_0:w117.cell? ⟨gb664,0,none⟩=some (.int .i64 t659):=(zz9 BK664.out 0).trans rfl
             have hcz134_1:w117.cell? ⟨gb664,1,none⟩=some (.slice Ao22 t660.length co22):=(zz9 BK664.out 1).trans rfl
             have hfz134_0:=zz10 BK664.out 0
             have hfz134_1:=zz10 BK664.out 1
             go_wp2_with (first | ((with_reducible refine gate_callee (f:=19) rfl ?_);refine goesL_ (some 81) rfl rfl Try.func19 (by kernel_rfl) rfl #[.agg #[.int .i64 t692,.slice Ao123 t693.length co123],.agg #[.int .i64 t659,.slice Ao22 t660.length co22]] rfl (by (try simp only [zz26,zz27,zz28]);first | done | rfl | (simp only [zz24,zz25];rfl) | (simp only [zz25];congr;(try simp only [decide_eq_true_eq] at *);omega)) ?_;(with_reducible refine (laws_eqParty.calls kj59 t692 _ _ t693 t659 _ _ t660 true _ ?side1 ?side2 ?side3 ?side4 A124.out).mono ?_);(case side1=>refine (Kd.R_reads' (e:=61) (base:=w.heap.size) (ok:=fun k_=>((((True∧some k_ ≠ (.slice Ao22 t660.length co22:Value).ownBlock)∧some k_ ≠ (.slice Ao29 t683.length co29:Value).ownBlock)∧some k_ ≠ (.slice Ao36 t671.length co36:Value).ownBlock)∧some k_ ≠ (.slice Ao115 t689.length co115:Value).ownBlock)) (n:=t693.length) (c:=co123) ?_).2.2;exact (by (with_reducible repeat (first | apply zz12 | apply zz13 | apply zz14));exact (Kd.R_mono (Kd.R_far (p:=⟨gb697,1,none⟩) (Kd.R_far (p:=⟨gb697,0,none⟩) (Kd.R_types HO695.out BK697.out (by decide)) (fun _ hk=>hk.2) (.int .i64 t692)) (fun _ hk=>hk.2) (.slice Ao123 t693.length co123)) (fun _ h_=>h_.1))));(case side2=>exact (Kd.R_reads' HO695.out).2.1);(case side3=>refine (Kd.R_reads' (e:=61) (base:=w.heap.size) (ok:=fun k_=>(((some k_ ≠ (.slice Ao29 t683.length co29:Value).ownBlock∧some k_ ≠ (.slice Ao36 t671.length co36:Value).ownBlock)∧some k_ ≠ (.slice Ao115 t689.length co115:Value).ownBlock)∧some k_ ≠ (.slice Ao123 t693.length co123:Value).ownBlock)) (n:=t660.length) (c:=co22) ?_).2.2;exact (by (with_reducible repeat (first | apply zz12 | apply zz13 | apply zz14));exact (Kd.R_mono (Kd.R_far (p:=⟨gb697,1,none⟩) (Kd.R_far (p:=⟨gb697,0,none⟩) (Kd.R_types HO_665001.out BK697.out (by decide)) (fun _ hk=>hk.2) (.int .i64 t692)) (fun _ hk=>hk.2) (.slice Ao123 t693.length co123)) (fun _ h_=>h_.1))));(case side4=>exact (Kd.R_reads' HO_665001.out).2.1);rintro e w135 ⟨rfl,hb⟩;refine ⟨_,rfl,?_⟩;have n0_:=Aside0.mk (Kd.R_below (by (with_reducible repeat (first | apply zz12 | apply zz13 | apply zz14));exact (Kd.R_mono (Kd.R_far (p:=⟨gb697,1,none⟩) (Kd.R_far (p:=⟨gb697,0,none⟩) (Kd.R_types HO_665001.out BK697.out (by decide)) (fun _ hk=>hk.2) (.int .i64 t692)) (fun _ hk=>hk.2) (.slice Ao123 t693.length co123)) (fun _ h_=>h_.1))) hb);have n1_:=Aside0.mk (Kd.R_below (by (with_reducible repeat (first | apply zz12 | apply zz13 | apply zz14));exact (Kd.R_mono (Kd.R_far (p:=⟨gb697,1,none⟩) (Kd.R_far (p:=⟨gb697,0,none⟩) (Kd.R_types HO_670001.out BK697.out (by decide)) (fun _ hk=>hk.2) (.int .i64 t692)) (fun _ hk=>hk.2) (.slice Ao123 t693.length co123)) (fun _ h_=>h_.1))) hb);have n2_:=Aside0.mk (Kd.R_below (by (with_reducible repeat (first | apply zz12 | apply zz13 | apply zz14));exact (Kd.R_mono (Kd.R_far (p:=⟨gb697,1,none⟩) (Kd.R_far (p:=⟨gb697,0,none⟩) (Kd.R_types HO_676001.out BK697.out (by decide)) (fun _ hk=>hk.2) (.int .i64 t692)) (fun _ hk=>hk.2) (.slice Ao123 t693.length co123)) (fun _ h_=>h_.1))) hb);have n3_:=Aside0.mk (Kd.R_below (by (with_reducible repeat (first | apply zz12 | apply zz13 | apply zz14));exact (Kd.R_mono (Kd.R_far (p:=⟨gb697,1,none⟩) (Kd.R_far (p:=⟨gb697,0,none⟩) (Kd.R_types HO691.out BK697.out (by decide)) (fun _ hk=>hk.2) (.int .i64 t692)) (fun _ hk=>hk.2) (.slice Ao123 t693.length co123)) (fun _ h_=>h_.1))) hb);have n4_:=Aside0.mk (Kd.R_below (by (with_reducible repeat (first | apply zz12 | apply zz13 | apply zz14));exact (Kd.R_mono (Kd.R_far (p:=⟨gb697,1,none⟩) (Kd.R_far (p:=⟨gb697,0,none⟩) (Kd.R_types HO695.out BK697.out (by decide)) (fun _ hk=>hk.2) (.int .i64 t692)) (fun _ hk=>hk.2) (.slice Ao123 t693.length co123)) (fun _ h_=>h_.1))) hb);have n5_:=Aside0.mk (zz11 (g:=gb653) (o:=.cells #[.int .i64 a0_0,.slice A0_1 l0_1.length c0_1] 24 (0,0)) (by (with_reducible repeat (first | refine zz6 ?_ _ | refine zz7 ?_ | refine zz8 ?_ _));refine blk_far ?_ NB653_697.out _;(with_reducible repeat (first | refine zz6 ?_ _ | refine zz7 ?_ | refine zz8 ?_ _));refine blk_far ?_ NB653_697.out _;(with_reducible repeat (first | refine zz6 ?_ _ | refine zz7 ?_ | refine zz8 ?_ _));exact BK653.out) hb);have n6_:=Aside0.mk (zz11 (g:=gb664) (o:=.cells #[.int .i64 t659,.slice Ao22 t660.length co22] 29 (0,0)) (by (with_reducible repeat (first | refine zz6 ?_ _ | refine zz7 ?_ | refine zz8 ?_ _));refine blk_far ?_ NB664_697.out _;(with_reducible repeat (first | refine zz6 ?_ _ | refine zz7 ?_ | refine zz8 ?_ _));refine blk_far ?_ NB664_697.out _;(with_reducible repeat (first | refine zz6 ?_ _ | refine zz7 ?_ | refine zz8 ?_ _));exact BK664.out) hb);have n7_:=Aside0.mk (zz11 (g:=gb669) (o:=.cells #[.int .i64 t665,.slice Ao29 t683.length co29] 29 (0,0)) (by (with_reducible repeat (first | refine zz6 ?_ _ | refine zz7 ?_ | refine zz8 ?_ _));refine blk_far ?_ NB669_697.out _;(with_reducible repeat (first | refine zz6 ?_ _ | refine zz7 ?_ | refine zz8 ?_ _));refine blk_far ?_ NB669_697.out _;(with_reducible repeat (first | refine zz6 ?_ _ | refine zz7 ?_ | refine zz8 ?_ _));exact BK669.out) hb);have n8_:=Aside0.mk (zz11 (g:=gb675) (o:=.cells #[.int .i64 t670,.slice Ao36 t671.length co36] 29 (0,0)) (by (with_reducible repeat (first | refine zz6 ?_ _ | refine zz7 ?_ | refine zz8 ?_ _));refine blk_far ?_ NB675_697.out _;(with_reducible repeat (first | refine zz6 ?_ _ | refine zz7 ?_ | refine zz8 ?_ _));refine blk_far ?_ NB675_697.out _;(with_reducible repeat (first | refine zz6 ?_ _ | refine zz7 ?_ | refine zz8 ?_ _));exact BK675.out) hb);have n9_:=Aside0.mk (zz11 (g:=gb697) (o:=.cells #[.int .i64 t692,.slice Ao123 t693.length co123] 29 (0,0)) (by (with_reducible repeat (first | refine zz6 ?_ _ | refine zz7 ?_ | refine zz8 ?_ _));refine blk_put (cs:=#[.int .i64 t692,.slice none 0 0]) ?_ 1 _ rfl;(with_reducible repeat (first | refine zz6 ?_ _ | refine zz7 ?_ | refine zz8 ?_ _));refine blk_put (cs:=#[.int .i64 0,.slice none 0 0]) ?_ 0 _ rfl;(with_reducible repeat (first | refine zz6 ?_ _ | refine zz7 ?_ | refine zz8 ?_ _));exact BK697.out) hb);have n10_:=Aside0.mk (zz4 (by repeat first | exact HB.out | apply zz2 | apply zz0 | apply zz1 | refine zz3 ?_ GE653.out | refine zz3 ?_ GE664.out | refine zz3 ?_ GE669.out | refine zz3 ?_ GE675.out | refine zz3 ?_ GE697.out) hb);clear HO_665001;clear HO_670001;clear HO_676001;clear HO691;clear HO695;clear BK653;clear BK664;clear BK669;clear BK675;clear BK697;clear HB;have HO_665001:=n0_;have HO_670001:=n1_;have HO_676001:=n2_;have HO691:=n3_;have HO695:=n4_;have BK653:=n5_;have BK664:=n6_;have BK669:=n7_;have BK675:=n8_;have BK697:=n9_;have HB:=n10_;clear n0_ n1_ n2_ n3_ n4_ n5_ n6_ n7_ n8_ n9_ n10_;(try clear hb);(try clear hb2);(try clear hk);(try clear hi)))
             go_meet
             case rel=>exact ⟨_,((t696 != t663)),(by first | rfl | (simp;done) | (simp [*];done)),H',⟨by have:=HJ10.out;have:=HJ59.out;first | omega | exact Nat.le_refl _⟩,⟨by (try simp only [hl670001_59]);(with_reducible repeat (first | apply zz12 | apply zz13 | apply zz14));exact Kd.R_mono HO_665001.out (fun _ hk=>⟨hk.1.1.1,⟨hk.1.1.2,hk.2⟩⟩)⟩,⟨by (try simp only [hl670001_59]);(with_reducible repeat (first | apply zz12 | apply zz13 | apply zz14));exact Kd.R_mono HO_670001.out (fun _ hk=>⟨hk.1.1.1,⟨hk.1.1.2,hk.2⟩⟩)⟩,⟨by (try simp only [hl670001_59]);(with_reducible repeat (first | apply zz12 | apply zz13 | apply zz14));exact Kd.R_mono HO_676001.out (fun _ hk=>⟨hk.1.1.1,⟨hk.1.1.2,hk.2⟩⟩)⟩,⟨by (try simp only [hl670001_59]);(with_reducible repeat (first | apply zz12 | apply zz13 | apply zz14));exact Kd.R_mono HO695.out (fun _ hk=>⟨hk.1.1.1.2,⟨hk.1.1.2,hk.1.2⟩⟩)⟩,⟨by (try simp only [hl670001_59]);(with_reducible repeat (first | refine zz6 ?_ _ | refine zz7 ?_ | refine zz8 ?_ _));exact BK653.out⟩,⟨by (try simp only [hl670001_59]);(with_reducible repeat (first | refine zz6 ?_ _ | refine zz7 ?_ | refine zz8 ?_ _));exact BK664.out⟩,⟨by (try simp only [hl670001_59]);(with_reducible repeat (first | refine zz6 ?_ _ | refine zz7 ?_ | refine zz8 ?_ _));exact BK669.out⟩,⟨by (try simp only [hl670001_59]);(with_reducible repeat (first | refine zz6 ?_ _ | refine zz7 ?_ | refine zz8 ?_ _));exact BK675.out⟩,⟨by (try simp only [hl670001_59]);(with_reducible repeat (first | refine zz6 ?_ _ | refine zz7 ?_ | refine zz8 ?_ _));exact BK697.out⟩,⟨by repeat first | exact HB.out | apply zz2 | apply zz0 | apply zz1 | refine zz3 ?_ GE653.out | refine zz3 ?_ GE664.out | refine zz3 ?_ GE669.out | refine zz3 ?_ GE675.out | refine zz3 ?_ GE697.out⟩⟩
            ·replace c125:=Bool.eq_false_iff.mpr c125
             subst c125
             have H1:(laws_FnExactOtherParty.j2 kj59 t685 true t670 t686)=some r:=by rw [if_neg (show ¬ (false=true) by decide)] at H;exact H
             clear H
             have H:=H1
             clear H1
             have H':=Aside0.mk H
             clear H
             have hnb136:=NB697_653.out
             have hnc136:=NB653_697.out
             have hnb137:=NB697_664.out
             have hnc137:=NB664_697.out
             have hnb138:=NB697_669.out
             have hnc138:=NB669_697.out
             have hnb139:=NB697_675.out
             have hnc139:=NB675_697.out
             have hcz140_0:w117.cell? ⟨gb697,0,none⟩=some (.int .i64 0):=(zz9 BK697.out 0).trans rfl
             have hcz140_1:w117.cell? ⟨gb697,1,none⟩=some (.slice none 0 0):=(zz9 BK697.out 1).trans rfl
             have hfz140_0:=zz10 BK697.out 0
             have hfz140_1:=zz10 BK697.out 1
             have hnb141:=NB664_653.out
             have hnc141:=NB653_664.out
             have hnb142:=NB664_669.out
             have hnc142:=NB669_664.out
             have hnb143:=NB664_675.out
             have hnc143:=NB675_664.out
             have hcz144_0:w117.cell? ⟨gb664,0,none⟩=some (.int .i64 t659):=(zz9 BK664.out 0).trans rfl
             have hcz144_1:w117.cell? ⟨gb664,1,none⟩=some (.slice Ao22 t660.length co22):=(zz9 BK664.out 1).trans rfl
             have hfz144_0:=zz10 BK664.out 0
             have hfz144_1:=zz10 BK664.out 1
             go_wp2_with (first | ((with_reducible refine gate_callee (f:=19) rfl ?_);refine goesL_ (some 81) rfl rfl Try.func19 (by kernel_rfl) rfl #[.agg #[.int .i64 t692,.slice Ao123 t693.length co123],.agg #[.int .i64 t659,.slice Ao22 t660.length co22]] rfl (by (try simp only [zz26,zz27,zz28]);first | done | rfl | (simp only [zz24,zz25];rfl) | (simp only [zz25];congr;(try simp only [decide_eq_true_eq] at *);omega)) ?_;(with_reducible refine (laws_eqParty.calls kj59 t692 _ _ t693 t659 _ _ t660 false _ ?side1 ?side2 ?side3 ?side4 A124.out).mono ?_);(case side1=>refine (Kd.R_reads' (e:=61) (base:=w.heap.size) (ok:=fun k_=>((((True∧some k_ ≠ (.slice Ao22 t660.length co22:Value).ownBlock)∧some k_ ≠ (.slice Ao29 t683.length co29:Value).ownBlock)∧some k_ ≠ (.slice Ao36 t671.length co36:Value).ownBlock)∧some k_ ≠ (.slice Ao115 t689.length co115:Value).ownBlock)) (n:=t693.length) (c:=co123) ?_).2.2;exact (by (with_reducible repeat (first | apply zz12 | apply zz13 | apply zz14));exact (Kd.R_mono (Kd.R_far (p:=⟨gb697,1,none⟩) (Kd.R_far (p:=⟨gb697,0,none⟩) (Kd.R_types HO695.out BK697.out (by decide)) (fun _ hk=>hk.2) (.int .i64 t692)) (fun _ hk=>hk.2) (.slice Ao123 t693.length co123)) (fun _ h_=>h_.1))));(case side2=>exact (Kd.R_reads' HO695.out).2.1);(case side3=>refine (Kd.R_reads' (e:=61) (base:=w.heap.size) (ok:=fun k_=>(((some k_ ≠ (.slice Ao29 t683.length co29:Value).ownBlock∧some k_ ≠ (.slice Ao36 t671.length co36:Value).ownBlock)∧some k_ ≠ (.slice Ao115 t689.length co115:Value).ownBlock)∧some k_ ≠ (.slice Ao123 t693.length co123:Value).ownBlock)) (n:=t660.length) (c:=co22) ?_).2.2;exact (by (with_reducible repeat (first | apply zz12 | apply zz13 | apply zz14));exact (Kd.R_mono (Kd.R_far (p:=⟨gb697,1,none⟩) (Kd.R_far (p:=⟨gb697,0,none⟩) (Kd.R_types HO_665001.out BK697.out (by decide)) (fun _ hk=>hk.2) (.int .i64 t692)) (fun _ hk=>hk.2) (.slice Ao123 t693.length co123)) (fun _ h_=>h_.1))));(case side4=>exact (Kd.R_reads' HO_665001.out).2.1);rintro e w145 ⟨rfl,hb⟩;refine ⟨_,rfl,?_⟩;have n0_:=Aside0.mk (Kd.R_below (by (with_reducible repeat (first | apply zz12 | apply zz13 | apply zz14));exact (Kd.R_mono (Kd.R_far (p:=⟨gb697,1,none⟩) (Kd.R_far (p:=⟨gb697,0,none⟩) (Kd.R_types HO_665001.out BK697.out (by decide)) (fun _ hk=>hk.2) (.int .i64 t692)) (fun _ hk=>hk.2) (.slice Ao123 t693.length co123)) (fun _ h_=>h_.1))) hb);have n1_:=Aside0.mk (Kd.R_below (by (with_reducible repeat (first | apply zz12 | apply zz13 | apply zz14));exact (Kd.R_mono (Kd.R_far (p:=⟨gb697,1,none⟩) (Kd.R_far (p:=⟨gb697,0,none⟩) (Kd.R_types HO_670001.out BK697.out (by decide)) (fun _ hk=>hk.2) (.int .i64 t692)) (fun _ hk=>hk.2) (.slice Ao123 t693.length co123)) (fun _ h_=>h_.1))) hb);have n2_:=Aside0.mk (Kd.R_below (by (with_reducible repeat (first | apply zz12 | apply zz13 | apply zz14));exact (Kd.R_mono (Kd.R_far (p:=⟨gb697,1,none⟩) (Kd.R_far (p:=⟨gb697,0,none⟩) (Kd.R_types HO_676001.out BK697.out (by decide)) (fun _ hk=>hk.2) (.int .i64 t692)) (fun _ hk=>hk.2) (.slice Ao123 t693.length co123)) (fun _ h_=>h_.1))) hb);have n3_:=Aside0.mk (Kd.R_below (by (with_reducible repeat (first | apply zz12 | apply zz13 | apply zz14));exact (Kd.R_mono (Kd.R_far (p:=⟨gb697,1,none⟩) (Kd.R_far (p:=⟨gb697,0,none⟩) (Kd.R_types HO691.out BK697.out (by decide)) (fun _ hk=>hk.2) (.int .i64 t692)) (fun _ hk=>hk.2) (.slice Ao123 t693.length co123)) (fun _ h_=>h_.1))) hb);have n4_:=Aside0.mk (Kd.R_below (by (with_reducible repeat (first | apply zz12 | apply zz13 | apply zz14));exact (Kd.R_mono (Kd.R_far (p:=⟨gb697,1,none⟩) (Kd.R_far (p:=⟨gb697,0,none⟩) (Kd.R_types HO695.out BK697.out (by decide)) (fun _ hk=>hk.2) (.int .i64 t692)) (fun _ hk=>hk.2) (.slice Ao123 t693.length co123)) (fun _ h_=>h_.1))) hb);have n5_:=Aside0.mk (zz11 (g:=gb653) (o:=.cells #[.int .i64 a0_0,.slice A0_1 l0_1.length c0_1] 24 (0,0)) (by (with_reducible repeat (first | refine zz6 ?_ _ | refine zz7 ?_ | refine zz8 ?_ _));refine blk_far ?_ NB653_697.out _;(with_reducible repeat (first | refine zz6 ?_ _ | refine zz7 ?_ | refine zz8 ?_ _));refine blk_far ?_ NB653_697.out _;(with_reducible repeat (first | refine zz6 ?_ _ | refine zz7 ?_ | refine zz8 ?_ _));exact BK653.out) hb);have n6_:=Aside0.mk (zz11 (g:=gb664) (o:=.cells #[.int .i64 t659,.slice Ao22 t660.length co22] 29 (0,0)) (by (with_reducible repeat (first | refine zz6 ?_ _ | refine zz7 ?_ | refine zz8 ?_ _));refine blk_far ?_ NB664_697.out _;(with_reducible repeat (first | refine zz6 ?_ _ | refine zz7 ?_ | refine zz8 ?_ _));refine blk_far ?_ NB664_697.out _;(with_reducible repeat (first | refine zz6 ?_ _ | refine zz7 ?_ | refine zz8 ?_ _));exact BK664.out) hb);have n7_:=Aside0.mk (zz11 (g:=gb669) (o:=.cells #[.int .i64 t665,.slice Ao29 t683.length co29] 29 (0,0)) (by (with_reducible repeat (first | refine zz6 ?_ _ | refine zz7 ?_ | refine zz8 ?_ _));refine blk_far ?_ NB669_697.out _;(with_reducible repeat (first | refine zz6 ?_ _ | refine zz7 ?_ | refine zz8 ?_ _));refine blk_far ?_ NB669_697.out _;(with_reducible repeat (first | refine zz6 ?_ _ | refine zz7 ?_ | refine zz8 ?_ _));exact BK669.out) hb);have n8_:=Aside0.mk (zz11 (g:=gb675) (o:=.cells #[.int .i64 t670,.slice Ao36 t671.length co36] 29 (0,0)) (by (with_reducible repeat (first | refine zz6 ?_ _ | refine zz7 ?_ | refine zz8 ?_ _));refine blk_far ?_ NB675_697.out _;(with_reducible repeat (first | refine zz6 ?_ _ | refine zz7 ?_ | refine zz8 ?_ _));refine blk_far ?_ NB675_697.out _;(with_reducible repeat (first | refine zz6 ?_ _ | refine zz7 ?_ | refine zz8 ?_ _));exact BK675.out) hb);have n9_:=Aside0.mk (zz11 (g:=gb697) (o:=.cells #[.int .i64 t692,.slice Ao123 t693.length co123] 29 (0,0)) (by (with_reducible repeat (first | refine zz6 ?_ _ | refine zz7 ?_ | refine zz8 ?_ _));refine blk_put (cs:=#[.int .i64 t692,.slice none 0 0]) ?_ 1 _ rfl;(with_reducible repeat (first | refine zz6 ?_ _ | refine zz7 ?_ | refine zz8 ?_ _));refine blk_put (cs:=#[.int .i64 0,.slice none 0 0]) ?_ 0 _ rfl;(with_reducible repeat (first | refine zz6 ?_ _ | refine zz7 ?_ | refine zz8 ?_ _));exact BK697.out) hb);have n10_:=Aside0.mk (zz4 (by repeat first | exact HB.out | apply zz2 | apply zz0 | apply zz1 | refine zz3 ?_ GE653.out | refine zz3 ?_ GE664.out | refine zz3 ?_ GE669.out | refine zz3 ?_ GE675.out | refine zz3 ?_ GE697.out) hb);clear HO_665001;clear HO_670001;clear HO_676001;clear HO691;clear HO695;clear BK653;clear BK664;clear BK669;clear BK675;clear BK697;clear HB;have HO_665001:=n0_;have HO_670001:=n1_;have HO_676001:=n2_;have HO691:=n3_;have HO695:=n4_;have BK653:=n5_;have BK664:=n6_;have BK669:=n7_;have BK675:=n8_;have BK697:=n9_;have HB:=n10_;clear n0_ n1_ n2_ n3_ n4_ n5_ n6_ n7_ n8_ n9_ n10_;(try clear hb);(try clear hb2);(try clear hk);(try clear hi)))
             go_meet
             case rel=>exact ⟨_,(true),(by first | rfl | (simp;done) | (simp [*];done)),H',⟨by have:=HJ10.out;have:=HJ59.out;first | omega | exact Nat.le_refl _⟩,⟨by (try simp only [hl670001_59]);(with_reducible repeat (first | apply zz12 | apply zz13 | apply zz14));exact Kd.R_mono HO_665001.out (fun _ hk=>⟨hk.1.1.1,⟨hk.1.1.2,hk.2⟩⟩)⟩,⟨by (try simp only [hl670001_59]);(with_reducible repeat (first | apply zz12 | apply zz13 | apply zz14));exact Kd.R_mono HO_670001.out (fun _ hk=>⟨hk.1.1.1,⟨hk.1.1.2,hk.2⟩⟩)⟩,⟨by (try simp only [hl670001_59]);(with_reducible repeat (first | apply zz12 | apply zz13 | apply zz14));exact Kd.R_mono HO_676001.out (fun _ hk=>⟨hk.1.1.1,⟨hk.1.1.2,hk.2⟩⟩)⟩,⟨by (try simp only [hl670001_59]);(with_reducible repeat (first | apply zz12 | apply zz13 | apply zz14));exact Kd.R_mono HO695.out (fun _ hk=>⟨hk.1.1.1.2,⟨hk.1.1.2,hk.1.2⟩⟩)⟩,⟨by (try simp only [hl670001_59]);(with_reducible repeat (first | refine zz6 ?_ _ | refine zz7 ?_ | refine zz8 ?_ _));exact BK653.out⟩,⟨by (try simp only [hl670001_59]);(with_reducible repeat (first | refine zz6 ?_ _ | refine zz7 ?_ | refine zz8 ?_ _));exact BK664.out⟩,⟨by (try simp only [hl670001_59]);(with_reducible repeat (first | refine zz6 ?_ _ | refine zz7 ?_ | refine zz8 ?_ _));exact BK669.out⟩,⟨by (try simp only [hl670001_59]);(with_reducible repeat (first | refine zz6 ?_ _ | refine zz7 ?_ | refine zz8 ?_ _));exact BK675.out⟩,⟨by (try simp only [hl670001_59]);(with_reducible repeat (first | refine zz6 ?_ _ | refine zz7 ?_ | refine zz8 ?_ _));exact BK697.out⟩,⟨by repeat first | exact HB.out | apply zz2 | apply zz0 | apply zz1 | refine zz3 ?_ GE653.out | refine zz3 ?_ GE664.out | refine zz3 ?_ GE669.out | refine zz3 ?_ GE675.out | refine zz3 ?_ GE697.out⟩⟩
           case rest =>
            clear HC103
            try clear c1
            try clear c2
            try clear p2
            try clear c3
            try clear c3b0
            try clear c4
            try clear c5
            try clear c6
            try clear c7
            try clear c8
            try clear c9
            try clear c10
            try clear c11
            try clear c12
            try clear c13
            try clear c14
            try clear c15
            try clear c17
            try clear c19
            try clear c20
            try clear c22
            try clear c23
            try clear c26
            try clear c27
            try clear c32
            try clear c33
            try clear c34
            try clear c38
            try clear c39
            try clear c40
            try clear c41
            try clear c43
            try clear c44
            try clear c45
            try clear c47
            try clear c48
            try clear c49
            try clear c51
            try clear c52
            try clear c55
            try clear c58
            try clear c65
            try clear c66
            try clear c67
            try clear c70
            try clear c70b0
            try clear c72
            try clear c73
            try clear c74
            try clear c75
            try clear c77
            try clear c78
            try clear c81
            try clear c82
            try clear c83
            try clear c85
            try clear c86
            try clear c89
            try clear c92
            try clear c92b0
            try clear c93
            try clear c94
            try clear c95
            try clear c100
            try clear c100b0
            try clear c100b1
            try clear c104
            try clear c105
            try clear c106
            try clear c111
            try clear c112
            try clear c118
            try clear c119
            try clear c120
            try clear c121
            try clear c125
            try clear c126
            try clear c127
            try clear c128
            try clear c129
            try clear c131
            try clear c132
            try clear c133
            try clear c136
            try clear c137
            try clear c138
            try clear c139
            try clear c141
            try clear c142
            try clear c143
            try clear hcz107_0
            try clear hcz107_1
            try clear hcz109_0
            try clear hcz109_1
            try clear hcz113_0
            try clear hcz113_1
            try clear hcz122_0
            try clear hcz122_1
            try clear hcz130_0
            try clear hcz130_1
            try clear hcz134_0
            try clear hcz134_1
            try clear hcz13_0
            try clear hcz13_1
            try clear hcz140_0
            try clear hcz140_1
            try clear hcz144_0
            try clear hcz144_1
            try clear hcz15_0
            try clear hcz15_1
            try clear hcz21_0
            try clear hcz21_1
            try clear hcz23_0
            try clear hcz23_1
            try clear hcz28_0
            try clear hcz28_1
            try clear hcz35_0
            try clear hcz35_1
            try clear hcz42_0
            try clear hcz42_1
            try clear hcz45_0
            try clear hcz45_1
            try clear hcz50_0
            try clear hcz50_1
            try clear hcz53_0
            try clear hcz53_1
            try clear hcz5_0
            try clear hcz5_1
            try clear hcz68_0
            try clear hcz68_1
            try clear hcz76_0
            try clear hcz76_1
            try clear hcz79_0
            try clear hcz79_1
            try clear hcz84_0
            try clear hcz84_1
            try clear hcz87_0
            try clear hcz87_1
            try clear hcz96_0
            try clear hcz96_1
            try clear hcz98_0
            try clear hcz98_1
            try clear hfz107_0
            try clear hfz107_1
            try clear hfz109_0
            try clear hfz109_1
            try clear hfz113_0
            try clear hfz113_1
            try clear hfz122_0
            try clear hfz122_1
            try clear hfz130_0
            try clear hfz130_1
            try clear hfz134_0
            try clear hfz134_1
            try clear hfz13_0
            try clear hfz13_1
            try clear hfz140_0
            try clear hfz140_1
            try clear hfz144_0
            try clear hfz144_1
            try clear hfz15_0
            try clear hfz15_1
            try clear hfz21_0
            try clear hfz21_1
            try clear hfz23_0
            try clear hfz23_1
            try clear hfz28_0
            try clear hfz28_1
            try clear hfz35_0
            try clear hfz35_1
            try clear hfz42_0
            try clear hfz42_1
            try clear hfz45_0
            try clear hfz45_1
            try clear hfz50_0
            try clear hfz50_1
            try clear hfz53_0
            try clear hfz53_1
            try clear hfz5_0
            try clear hfz5_1
            try clear hfz68_0
            try clear hfz68_1
            try clear hfz76_0
            try clear hfz76_1
            try clear hfz79_0
            try clear hfz79_1
            try clear hfz84_0
            try clear hfz84_1
            try clear hfz87_0
            try clear hfz87_1
            try clear hfz96_0
            try clear hfz96_1
            try clear hfz98_0
            try clear hfz98_1
            try clear p2
            obtain ⟨kq,x87_102,rfl,HA,HJ102,HO_665001,HO_670001,HO_676001,HO_698001,BK653,BK664,BK669,BK675,BK697,HB⟩:=hcut
            have hl676001_102:=(Kd.R_reads' HO_676001.out).1
            rw [hl676001_102] at HO_676001
            (try simp only [hl676001_102])
            (try simp only [hl676001_102] at BK653)
            (try simp only [hl676001_102] at BK664)
            (try simp only [hl676001_102] at BK669)
            (try simp only [hl676001_102] at BK675)
            (try simp only [hl676001_102] at BK697)
            (try simp only [hl676001_102] at HO_665001)
            (try simp only [hl676001_102] at HO_670001)
            (try simp only [hl676001_102] at HO_698001)
            cases kq with
            | zero=>exact absurd HA.out (by simp [laws_FnExactOtherParty.j2])
            | succ kj102 =>
             have H:=HA.out
             clear HA
             simp only [laws_FnExactOtherParty.j2] at H
             by_cases c146:x87_102=true
             ·subst c146
              have H1:(some false)=some r:=by rw [if_pos rfl] at H;exact H
              clear H
              have H:=H1
              clear H1
              obtain rfl:=Option.some.inj H
              go_wp2
              go_ret
              exact ⟨by first | rfl | (simp [errW_none,errW_some] <;> rfl) | (simp [*,errW_none,errW_some] <;> rfl),by repeat first | exact HB.out | apply zz2 | apply zz0 | apply zz1 | refine zz3 ?_ GE653.out | refine zz3 ?_ GE664.out | refine zz3 ?_ GE669.out | refine zz3 ?_ GE675.out | refine zz3 ?_ GE697.out⟩
             ·replace c146:=Bool.eq_false_iff.mpr c146
              subst c146
              have H1:((laws_heldParty.f kj102 t670 t686 1).bind fun t699=>(if t699 < 0 then (some false) else (if t699=t685 then (some true) else (some false))))=some r:=by rw [if_neg (show ¬ (false=true) by decide)] at H;exact H
              clear H
              have H:=H1
              clear H1
              replace H:=zz30.mp H
              obtain ⟨t699,A1470,H⟩:=H
              replace H:(if t699 < 0 then (some false) else (if t699=t685 then (some true) else (some false)))=some r:=H
              have A147:=Aside0.mk A1470
              clear A1470
              by_cases c148:t699 < 0
              ·rw [if_pos c148] at H
               have c148b0:decide (t699 < 0)=true:=decide_eq_true c148
               clear c148
               obtain rfl:=Option.some.inj H
               have hnb149:=NB675_653.out
               have hnc149:=NB653_675.out
               have hnb150:=NB675_664.out
               have hnc150:=NB664_675.out
               have hnb151:=NB675_669.out
               have hnc151:=NB669_675.out
               have hnb152:=NB675_697.out
               have hnc152:=NB697_675.out
               have hcz153_0:wc.cell? ⟨gb675,0,none⟩=some (.int .i64 t670):=(zz9 BK675.out 0).trans rfl
               have hcz153_1:wc.cell? ⟨gb675,1,none⟩=some (.slice Ao36 t686.length co36):=(zz9 BK675.out 1).trans rfl
               have hfz153_0:=zz10 BK675.out 0
               have hfz153_1:=zz10 BK675.out 1
               go_wp2_with (first | ((with_reducible refine gate_callee (f:=23) rfl ?_);refine goesL_ (some 90) rfl rfl Try.func23 (by kernel_rfl) rfl #[.agg #[.int .i64 t670,.slice Ao36 t686.length co36],.int .i64 1] rfl (by (try simp only [zz26,zz27,zz28]);first | done | rfl | (simp only [zz24,zz25];rfl) | (simp only [zz25];congr;(try simp only [decide_eq_true_eq] at *);omega)) ?_;(with_reducible refine (laws_heldParty.calls kj102 t670 _ _ t686 1 t699 _ ?side1 ?side2 A147.out).mono ?_);(case side1=>repeat (first | exact (Kd.R_reads' HO_676001.out).2.2 | (with_reducible refine zz18 ?_ _) | (with_reducible refine zz19 ?_ _) | (with_reducible refine zz20 ?_)));(case side2=>exact (Kd.R_reads' HO_676001.out).2.1);rintro e w154 ⟨rfl,hb⟩;refine ⟨_,rfl,?_⟩;have n0_:=Aside0.mk (Kd.R_below (by (with_reducible repeat (first | apply zz12 | apply zz13 | apply zz14));exact HO_665001.out) hb);have n1_:=Aside0.mk (Kd.R_below (by (with_reducible repeat (first | apply zz12 | apply zz13 | apply zz14));exact HO_670001.out) hb);have n2_:=Aside0.mk (Kd.R_below (by (with_reducible repeat (first | apply zz12 | apply zz13 | apply zz14));exact HO_676001.out) hb);have n3_:=Aside0.mk (Kd.R_below (by (with_reducible repeat (first | apply zz12 | apply zz13 | apply zz14));exact HO_698001.out) hb);have n4_:=Aside0.mk (zz11 (g:=gb653) (o:=.cells #[.int .i64 a0_0,.slice A0_1 l0_1.length c0_1] 24 (0,0)) (by (with_reducible repeat (first | refine zz6 ?_ _ | refine zz7 ?_ | refine zz8 ?_ _));exact BK653.out) hb);have n5_:=Aside0.mk (zz11 (g:=gb664) (o:=.cells #[.int .i64 t659,.slice Ao22 t660.length co22] 29 (0,0)) (by (with_reducible repeat (first | refine zz6 ?_ _ | refine zz7 ?_ | refine zz8 ?_ _));exact BK664.out) hb);have n6_:=Aside0.mk (zz11 (g:=gb669) (o:=.cells #[.int .i64 t665,.slice Ao29 t683.length co29] 29 (0,0)) (by (with_reducible repeat (first | refine zz6 ?_ _ | refine zz7 ?_ | refine zz8 ?_ _));exact BK669.out) hb);have n7_:=Aside0.mk (zz11 (g:=gb675) (o:=.cells #[.int .i64 t670,.slice Ao36 t686.length co36] 29 (0,0)) (by (with_reducible repeat (first | refine zz6 ?_ _ | refine zz7 ?_ | refine zz8 ?_ _));exact BK675.out) hb);have n8_:=Aside0.mk (zz11 (g:=gb697) (o:=.cells #[.int .i64 t692,.slice Ao123 t693.length co123] 29 (0,0)) (by (with_reducible repeat (first | refine zz6 ?_ _ | refine zz7 ?_ | refine zz8 ?_ _));exact BK697.out) hb);have n9_:=Aside0.mk (zz4 (by repeat first | exact HB.out | apply zz2 | apply zz0 | apply zz1 | refine zz3 ?_ GE653.out | refine zz3 ?_ GE664.out | refine zz3 ?_ GE669.out | refine zz3 ?_ GE675.out | refine zz3 ?_ GE697.out) hb);clear HO_665001;clear HO_670001;clear HO_676001;clear HO_698001;clear BK653;clear BK664;clear BK669;clear BK675;clear BK697;clear HB;have HO_665001:=n0_;have HO_670001:=n1_;have HO_676001:=n2_;have HO_698001:=n3_;have BK653:=n4_;have BK664:=n5_;have BK669:=n6_;have BK675:=n7_;have BK697:=n8_;have HB:=n9_;clear n0_ n1_ n2_ n3_ n4_ n5_ n6_ n7_ n8_ n9_;(try clear hb);(try clear hb2);(try clear hk);(try clear hi)))
               go_ret
               exact ⟨by first | rfl | (simp [errW_none,errW_some] <;> rfl) | (simp [*,errW_none,errW_some] <;> rfl),by repeat first | exact HB.out | apply zz2 | apply zz0 | apply zz1 | refine zz3 ?_ GE653.out | refine zz3 ?_ GE664.out | refine zz3 ?_ GE669.out | refine zz3 ?_ GE675.out | refine zz3 ?_ GE697.out⟩
              ·rw [if_neg c148] at H
               have c148b0:decide (t699 < 0)=false:=decide_eq_false c148
               clear c148
               by_cases c155:t699=t685
               ·rw [if_pos c155] at H
                have c155b0:(t699 == t685)=true:=beq_iff_eq.mpr c155
                have c155b1:(t699 != t685)=false:=bne_eq_false_iff_eq.mpr c155
                clear c155
                obtain rfl:=Option.some.inj H
                have hnb156:=NB675_653.out
                have hnc156:=NB653_675.out
                have hnb157:=NB675_664.out
                have hnc157:=NB664_675.out
                have hnb158:=NB675_669.out
                have hnc158:=NB669_675.out
                have hnb159:=NB675_697.out
                have hnc159:=NB697_675.out
                have hcz160_0:wc.cell? ⟨gb675,0,none⟩=some (.int .i64 t670):=(zz9 BK675.out 0).trans rfl
                have hcz160_1:wc.cell? ⟨gb675,1,none⟩=some (.slice Ao36 t686.length co36):=(zz9 BK675.out 1).trans rfl
                have hfz160_0:=zz10 BK675.out 0
                have hfz160_1:=zz10 BK675.out 1
                go_wp2_with (first | ((with_reducible refine gate_callee (f:=23) rfl ?_);refine goesL_ (some 90) rfl rfl Try.func23 (by kernel_rfl) rfl #[.agg #[.int .i64 t670,.slice Ao36 t686.length co36],.int .i64 1] rfl (by (try simp only [zz26,zz27,zz28]);first | done | rfl | (simp only [zz24,zz25];rfl) | (simp only [zz25];congr;(try simp only [decide_eq_true_eq] at *);omega)) ?_;(with_reducible refine (laws_heldParty.calls kj102 t670 _ _ t686 1 t699 _ ?side1 ?side2 A147.out).mono ?_);(case side1=>repeat (first | exact (Kd.R_reads' HO_676001.out).2.2 | (with_reducible refine zz18 ?_ _) | (with_reducible refine zz19 ?_ _) | (with_reducible refine zz20 ?_)));(case side2=>exact (Kd.R_reads' HO_676001.out).2.1);rintro e w161 ⟨rfl,hb⟩;refine ⟨_,rfl,?_⟩;have n0_:=Aside0.mk (Kd.R_below (by (with_reducible repeat (first | apply zz12 | apply zz13 | apply zz14));exact HO_665001.out) hb);have n1_:=Aside0.mk (Kd.R_below (by (with_reducible repeat (first | apply zz12 | apply zz13 | apply zz14));exact HO_670001.out) hb);have n2_:=Aside0.mk (Kd.R_below (by (with_reducible repeat (first | apply zz12 | apply zz13 | apply zz14));exact HO_676001.out) hb);have n3_:=Aside0.mk (Kd.R_below (by (with_reducible repeat (first | apply zz12 | apply zz13 | apply zz14));exact HO_698001.out) hb);have n4_:=Aside0.mk (zz11 (g:=gb653) (o:=.cells #[.int .i64 a0_0,.slice A0_1 l0_1.length c0_1] 24 (0,0)) (by (with_reducible repeat (first | refine zz6 ?_ _ | refine zz7 ?_ | refine zz8 ?_ _));exact BK653.out) hb);have n5_:=Aside0.mk (zz11 (g:=gb664) (o:=.cells #[.int .i64 t659,.slice Ao22 t660.length co22] 29 (0,0)) (by (with_reducible repeat (first | refine zz6 ?_ _ | refine zz7 ?_ | refine zz8 ?_ _));exact BK664.out) hb);have n6_:=Aside0.mk (zz11 (g:=gb669) (o:=.cells #[.int .i64 t665,.slice Ao29 t683.length co29] 29 (0,0)) (by (with_reducible repeat (first | refine zz6 ?_ _ | refine zz7 ?_ | refine zz8 ?_ _));exact BK669.out) hb);have n7_:=Aside0.mk (zz11 (g:=gb675) (o:=.cells #[.int .i64 t670,.slice Ao36 t686.length co36] 29 (0,0)) (by (with_reducible repeat (first | refine zz6 ?_ _ | refine zz7 ?_ | refine zz8 ?_ _));exact BK675.out) hb);have n8_:=Aside0.mk (zz11 (g:=gb697) (o:=.cells #[.int .i64 t692,.slice Ao123 t693.length co123] 29 (0,0)) (by (with_reducible repeat (first | refine zz6 ?_ _ | refine zz7 ?_ | refine zz8 ?_ _));exact BK697.out) hb);have n9_:=Aside0.mk (zz4 (by repeat first | exact HB.out | apply zz2 | apply zz0 | apply zz1 | refine zz3 ?_ GE653.out | refine zz3 ?_ GE664.out | refine zz3 ?_ GE669.out | refine zz3 ?_ GE675.out | refine zz3 ?_ GE697.out) hb);clear HO_665001;clear HO_670001;clear HO_676001;clear HO_698001;clear BK653;clear BK664;clear BK669;clear BK675;clear BK697;clear HB;have HO_665001:=n0_;have HO_670001:=n1_;have HO_676001:=n2_;have HO_698001:=n3_;have BK653:=n4_;have BK664:=n5_;have BK669:=n6_;have BK675:=n7_;have BK697:=n8_;have HB:=n9_;clear n0_ n1_ n2_ n3_ n4_ n5_ n6_ n7_ n8_ n9_;(try clear hb);(try clear hb2);(try clear hk);(try clear hi)))
                go_ret
                exact ⟨by first | rfl | (simp [errW_none,errW_some] <;> rfl) | (simp [*,errW_none,errW_some] <;> rfl),by repeat first | exact HB.out | apply zz2 | apply zz0 | apply zz1 | refine zz3 ?_ GE653.out | refine zz3 ?_ GE664.out | refine zz3 ?_ GE669.out | refine zz3 ?_ GE675.out | refine zz3 ?_ GE697.out⟩
               ·rw [if_neg c155] at H
                have c155b0:(t699 == t685)=false:=beq_eq_false_iff_ne.mpr c155
                have c155b1:(t699 != t685)=true:=bne_iff_ne.mpr c155
                obtain rfl:=Option.some.inj H
                have hnb162:=NB675_653.out
                have hnc162:=NB653_675.out
                have hnb163:=NB675_664.out
                have hnc163:=NB664_675.out
                have hnb164:=NB675_669.out
                have hnc164:=NB669_675.out
                have hnb165:=NB675_697.out
                have hnc165:=NB697_675.out
                have hcz166_0:wc.cell? ⟨gb675,0,none⟩=some (.int .i64 t670):=(zz9 BK675.out 0).trans rfl
                have hcz166_1:wc.cell? ⟨gb675,1,none⟩=some (.slice Ao36 t686.length co36):=(zz9 BK675.out 1).trans rfl
                have hfz166_0:=zz10 BK675.out 0
                have hfz166_1:=zz10 BK675.out 1
                go_wp2_with (first | ((with_reducible refine gate_callee (f:=23) rfl ?_);refine goesL_ (some 90) rfl rfl Try.func23 (by kernel_rfl) rfl #[.agg #[.int .i64 t670,.slice Ao36 t686.length co36],.int .i64 1] rfl (by (try simp only [zz26,zz27,zz28]);first | done | rfl | (simp only [zz24,zz25];rfl) | (simp only [zz25];congr;(try simp only [decide_eq_true_eq] at *);omega)) ?_;(with_reducible refine (laws_heldParty.calls kj102 t670 _ _ t686 1 t699 _ ?side1 ?side2 A147.out).mono ?_);(case side1=>repeat (first | exact (Kd.R_reads' HO_676001.out).2.2 | (with_reducible refine zz18 ?_ _) | (with_reducible refine zz19 ?_ _) | (with_reducible refine zz20 ?_)));(case side2=>exact (Kd.R_reads' HO_676001.out).2.1);rintro e w167 ⟨rfl,hb⟩;refine ⟨_,rfl,?_⟩;have n0_:=Aside0.mk (Kd.R_below (by (with_reducible repeat (first | apply zz12 | apply zz13 | apply zz14));exact HO_665001.out) hb);have n1_:=Aside0.mk (Kd.R_below (by (with_reducible repeat (first | apply zz12 | apply zz13 | apply zz14));exact HO_670001.out) hb);have n2_:=Aside0.mk (Kd.R_below (by (with_reducible repeat (first | apply zz12 | apply zz13 | apply zz14));exact HO_676001.out) hb);have n3_:=Aside0.mk (Kd.R_below (by (with_reducible repeat (first | apply zz12 | apply zz13 | apply zz14));exact HO_698001.out) hb);have n4_:=Aside0.mk (zz11 (g:=gb653) (o:=.cells #[.int .i64 a0_0,.slice A0_1 l0_1.length c0_1] 24 (0,0)) (by (with_reducible repeat (first | refine zz6 ?_ _ | refine zz7 ?_ | refine zz8 ?_ _));exact BK653.out) hb);have n5_:=Aside0.mk (zz11 (g:=gb664) (o:=.cells #[.int .i64 t659,.slice Ao22 t660.length co22] 29 (0,0)) (by (with_reducible repeat (first | refine zz6 ?_ _ | refine zz7 ?_ | refine zz8 ?_ _));exact BK664.out) hb);have n6_:=Aside0.mk (zz11 (g:=gb669) (o:=.cells #[.int .i64 t665,.slice Ao29 t683.length co29] 29 (0,0)) (by (with_reducible repeat (first | refine zz6 ?_ _ | refine zz7 ?_ | refine zz8 ?_ _));exact BK669.out) hb);have n7_:=Aside0.mk (zz11 (g:=gb675) (o:=.cells #[.int .i64 t670,.slice Ao36 t686.length co36] 29 (0,0)) (by (with_reducible repeat (first | refine zz6 ?_ _ | refine zz7 ?_ | refine zz8 ?_ _));exact BK675.out) hb);have n8_:=Aside0.mk (zz11 (g:=gb697) (o:=.cells #[.int .i64 t692,.slice Ao123 t693.length co123] 29 (0,0)) (by (with_reducible repeat (first | refine zz6 ?_ _ | refine zz7 ?_ | refine zz8 ?_ _));exact BK697.out) hb);have n9_:=Aside0.mk (zz4 (by repeat first | exact HB.out | apply zz2 | apply zz0 | apply zz1 | refine zz3 ?_ GE653.out | refine zz3 ?_ GE664.out | refine zz3 ?_ GE669.out | refine zz3 ?_ GE675.out | refine zz3 ?_ GE697.out) hb);clear HO_665001;clear HO_670001;clear HO_676001;clear HO_698001;clear BK653;clear BK664;clear BK669;clear BK675;clear BK697;clear HB;have HO_665001:=n0_;have HO_670001:=n1_;have HO_676001:=n2_;have HO_698001:=n3_;have BK653:=n4_;have BK664:=n5_;have BK669:=n6_;have BK675:=n7_;have BK697:=n8_;have HB:=n9_;clear n0_ n1_ n2_ n3_ n4_ n5_ n6_ n7_ n8_ n9_;(try clear hb);(try clear hb2);(try clear hk);(try clear hi)))
                go_ret
                exact ⟨by first | rfl | (simp [errW_none,errW_some] <;> rfl) | (simp [*,errW_none,errW_some] <;> rfl),by repeat first | exact HB.out | apply zz2 | apply zz0 | apply zz1 | refine zz3 ?_ GE653.out | refine zz3 ?_ GE664.out | refine zz3 ?_ GE669.out | refine zz3 ?_ GE675.out | refine zz3 ?_ GE697.out⟩
          ·rw [if_neg c100] at H
           have c100b0:(t687 == t685)=false:=beq_eq_false_iff_ne.mpr c100
           have c100b1:(t687 != t685)=true:=bne_iff_ne.mpr c100
           obtain rfl:=Option.some.inj H
           have hnb168:=NB675_653.out
           have hnc168:=NB653_675.out
           have hnb169:=NB675_664.out
           have hnc169:=NB664_675.out
           have hnb170:=NB675_669.out
           have hnc170:=NB669_675.out
           have hcz171_0:wc.cell? ⟨gb675,0,none⟩=some (.int .i64 t670):=(zz9 BK675.out 0).trans rfl
           have hcz171_1:wc.cell? ⟨gb675,1,none⟩=some (.slice Ao36 t671.length co36):=(zz9 BK675.out 1).trans rfl
           have hfz171_0:=zz10 BK675.out 0
           have hfz171_1:=zz10 BK675.out 1
           go_wp2_with (first | ((with_reducible refine gate_callee (f:=22) rfl ?_);refine goesL_ (some 64) rfl rfl Try.func22 (by kernel_rfl) rfl #[.agg #[.int .i64 t670,.slice Ao36 t671.length co36],.int .i64 1] rfl (by (try simp only [zz26,zz27,zz28]);first | done | rfl | (simp only [zz24,zz25];rfl) | (simp only [zz25];congr;(try simp only [decide_eq_true_eq] at *);omega)) ?_;(with_reducible refine (laws_markParty.calls kj59 t670 (fun k_=>some k_=(.slice Ao36 t671.length co36:Value).ownBlock) (.slice Ao36 t671.length co36) t671 1 t685 t686 w _ ?side1 ?side2 A90.out).mono ?_);(case side1=>repeat first | exact HB.out | apply zz2 | apply zz0 | apply zz1 | refine zz3 ?_ GE653.out | refine zz3 ?_ GE664.out | refine zz3 ?_ GE669.out | refine zz3 ?_ GE675.out);(case side2=>exact Kd.R_tight rfl HO_676001.out);rintro e w172 ⟨rfl,hy0,hb,hkp⟩;refine ⟨_,rfl,?_⟩;have n0_:=Aside0.mk (Kd.R_mono (ok':=fun k_=>some k_ ≠ (.slice Ao29 t683.length co29:Value).ownBlock∧some k_ ≠ (.slice Ao36 t671.length co36:Value).ownBlock) (Kd.R_keptB (HO_665001.out) hkp (fun k_ hk_ hs_=>(hk_.2) hs_)) (fun k_ hk_=>⟨hk_.1.1,hk_.1.2⟩));have n1_:=Aside0.mk (Kd.R_mono (ok':=fun k_=>some k_ ≠ (.slice Ao22 t660.length co22:Value).ownBlock∧some k_ ≠ (.slice Ao36 t671.length co36:Value).ownBlock) (Kd.R_keptB (HO_670001.out) hkp (fun k_ hk_ hs_=>(hk_.2) hs_)) (fun k_ hk_=>⟨hk_.1.1,hk_.1.2⟩));have n2_:=Aside0.mk (Kd.R_reok rfl hy0 (fun k_ e_=>HO_676001.out.1 k_ e_));have n3_:=Aside0.mk (blk_kept (by (with_reducible repeat (first | refine zz6 ?_ _ | refine zz7 ?_ | refine zz8 ?_ _));exact BK653.out) hkp (fun hs_=>(fun e_=>(Kd.R_ne HO_676001.out BK653.out (by decide)) e_) hs_));have n4_:=Aside0.mk (blk_kept (by (with_reducible repeat (first | refine zz6 ?_ _ | refine zz7 ?_ | refine zz8 ?_ _));exact BK664.out) hkp (fun hs_=>(fun e_=>(Kd.R_ne HO_676001.out BK664.out (by decide)) e_) hs_));have n5_:=Aside0.mk (blk_kept (by (with_reducible repeat (first | refine zz6 ?_ _ | refine zz7 ?_ | refine zz8 ?_ _));exact BK669.out) hkp (fun hs_=>(fun e_=>(Kd.R_ne HO_676001.out BK669.out (by decide)) e_) hs_));have n6_:=Aside0.mk (blk_kept (by (with_reducible repeat (first | refine zz6 ?_ _ | refine zz7 ?_ | refine zz8 ?_ _));exact BK675.out) hkp (fun hs_=>(fun e_=>(Kd.R_ne HO_676001.out BK675.out (by decide)) e_) hs_));have n7_:=Aside0.mk (hb);clear HO_665001;clear HO_670001;clear HO_676001;clear BK653;clear BK664;clear BK669;clear BK675;clear HB;have HO_665001:=n0_;have HO_670001:=n1_;have HO_676001:=n2_;have BK653:=n3_;have BK664:=n4_;have BK669:=n5_;have BK675:=n6_;have HB:=n7_;clear n0_ n1_ n2_ n3_ n4_ n5_ n6_ n7_;(try clear hb);(try clear hkp);(try clear hy0);have hcz173_0:w172.cell? ⟨gb675,0,none⟩=some (.int .i64 t670):=(zz9 BK675.out 0).trans rfl;have hcz173_1:w172.cell? ⟨gb675,1,none⟩=some (.slice Ao36 t671.length co36):=(zz9 BK675.out 1).trans rfl;have hfz173_0:=zz10 BK675.out 0;have hfz173_1:=zz10 BK675.out 1) | ((with_reducible refine gate_callee (f:=23) rfl ?_);refine goesL_ (some 67) rfl rfl Try.func23 (by kernel_rfl) rfl #[.agg #[.int .i64 t670,.slice Ao36 t686.length co36],.int .i64 1] rfl (by (try simp only [zz26,zz27,zz28]);first | done | (rw [show t686.length=t671.length from (Kd.R_reads' HO_676001.out).1.symm] <;> rfl) | rfl | (simp only [zz24,zz25];rfl)) ?_;(with_reducible refine (laws_heldParty.calls kj59 t670 _ _ t686 1 t687 _ ?side1 ?side2 A91.out).mono ?_);(case side1=>repeat (first | exact (Kd.R_reads' HO_676001.out).2.2 | (with_reducible refine zz18 ?_ _) | (with_reducible refine zz19 ?_ _) | (with_reducible refine zz20 ?_)));(case side2=>rw [show t686.length=t671.length from (Kd.R_reads' HO_676001.out).1.symm];exact (Kd.R_reads' HO_676001.out).2.1);rintro e w174 ⟨rfl,hb⟩;refine ⟨_,rfl,?_⟩;have n0_:=Aside0.mk (Kd.R_below (by (with_reducible repeat (first | apply zz12 | apply zz13 | apply zz14));exact HO_665001.out) hb);have n1_:=Aside0.mk (Kd.R_below (by (with_reducible repeat (first | apply zz12 | apply zz13 | apply zz14));exact HO_670001.out) hb);have n2_:=Aside0.mk (Kd.R_below (by (with_reducible repeat (first | apply zz12 | apply zz13 | apply zz14));exact HO_676001.out) hb);have n3_:=Aside0.mk (zz11 (g:=gb653) (o:=.cells #[.int .i64 a0_0,.slice A0_1 l0_1.length c0_1] 24 (0,0)) (by (with_reducible repeat (first | refine zz6 ?_ _ | refine zz7 ?_ | refine zz8 ?_ _));exact BK653.out) hb);have n4_:=Aside0.mk (zz11 (g:=gb664) (o:=.cells #[.int .i64 t659,.slice Ao22 t660.length co22] 29 (0,0)) (by (with_reducible repeat (first | refine zz6 ?_ _ | refine zz7 ?_ | refine zz8 ?_ _));exact BK664.out) hb);have n5_:=Aside0.mk (zz11 (g:=gb669) (o:=.cells #[.int .i64 t665,.slice Ao29 t683.length co29] 29 (0,0)) (by (with_reducible repeat (first | refine zz6 ?_ _ | refine zz7 ?_ | refine zz8 ?_ _));exact BK669.out) hb);have n6_:=Aside0.mk (zz11 (g:=gb675) (o:=.cells #[.int .i64 t670,.slice Ao36 t671.length co36] 29 (0,0)) (by (with_reducible repeat (first | refine zz6 ?_ _ | refine zz7 ?_ | refine zz8 ?_ _));exact BK675.out) hb);have n7_:=Aside0.mk (zz4 (by repeat first | exact HB.out | apply zz2 | apply zz0 | apply zz1 | refine zz3 ?_ GE653.out | refine zz3 ?_ GE664.out | refine zz3 ?_ GE669.out | refine zz3 ?_ GE675.out) hb);clear HO_665001;clear HO_670001;clear HO_676001;clear BK653;clear BK664;clear BK669;clear BK675;clear HB;have HO_665001:=n0_;have HO_670001:=n1_;have HO_676001:=n2_;have BK653:=n3_;have BK664:=n4_;have BK669:=n5_;have BK675:=n6_;have HB:=n7_;clear n0_ n1_ n2_ n3_ n4_ n5_ n6_ n7_;(try clear hb);(try clear hb2);(try clear hk);(try clear hi)))
           go_ret
           exact ⟨by first | rfl | (simp [errW_none,errW_some] <;> rfl) | (simp [*,errW_none,errW_some] <;> rfl),by repeat first | exact HB.out | apply zz2 | apply zz0 | apply zz1 | refine zz3 ?_ GE653.out | refine zz3 ?_ GE664.out | refine zz3 ?_ GE669.out | refine zz3 ?_ GE675.out⟩
     ·replace c58:=Bool.eq_false_iff.mpr c58
      subst c58
      have H1:(some false)=some r:=by rw [if_neg (show ¬ (false=true) by decide)] at H;exact H
      clear H
      have H:=H1
      clear H1
      obtain rfl:=Option.some.inj H
      try go_wp2
      have n0_:=Aside0.mk (zz14 HO_665001.out)
      have n1_:=Aside0.mk (zz14 HO_670001.out)
      have n2_:=Aside0.mk (zz14 HO_676001.out)
      have n3_:=Aside0.mk (zz7 BK653.out)
      have n4_:=Aside0.mk (zz7 BK664.out)
      have n5_:=Aside0.mk (zz7 BK669.out)
      have n6_:=Aside0.mk (zz7 BK675.out)
      have n7_:=Aside0.mk (zz1 HB.out)
      clear HO_665001
      clear HO_670001
      clear HO_676001
      clear BK653
      clear BK664
      clear BK669
      clear BK675
      clear HB
      have HO_665001:=n0_
      have HO_670001:=n1_
      have HO_676001:=n2_
      have BK653:=n3_
      have BK664:=n4_
      have BK669:=n5_
      have BK675:=n6_
      have HB:=n7_
      clear n0_ n1_ n2_ n3_ n4_ n5_ n6_ n7_
      refine start_ (n:=5) (S:=fun w'=>w'.cell? ⟨gb669,0,none⟩=some (.int .i64 t665)∧w'.cell? ⟨gb669,1,none⟩=some (.slice Ao29 t666.length co29)∧w'.cell? ⟨gb653,0,none⟩=some (.int .i64 a0_0)∧w'.cell? ⟨gb653,1,none⟩=some (.slice A0_1 l0_1.length c0_1)) (ds:=[]) #[F,F,F,F,F] (by kernel_rfl) rfl rfl ⟨(zz9 BK669.out 0).trans rfl,(zz9 BK669.out 1).trans rfl,(zz9 BK653.out 0).trans rfl,(zz9 BK653.out 1).trans rfl⟩ (fun hHeld=>?_)
      generalize wc.drew=w175 at HO_665001 HO_670001 HO_676001 BK653 BK664 BK669 BK675 HB hHeld ⊢
      refine take_ (i:=0) (N:=some 41) (v:=?_) (a':=?_) #[T,F,F,F,F] rfl rfl (by kernel_rfl) (fun _ _ _ h=>h) (Or.inl ⟨by rfl,?_⟩) hHeld ?_ ?_
      rotate_left
      ·rintro w' ⟨s0,s1,s2,s3⟩
       go_simp
       with_reducible rfl
      rotate_left
      ·simp only [Act.put,zz21,zz22,zz23,i64_w,i32_w]
       rfl
      refine take_ (i:=1) (N:=some 42) (v:=?_) (a':=?_) #[T,T,F,F,F] rfl rfl (by kernel_rfl) (fun _ _ _ h=>h) (Or.inl ⟨by rfl,?_⟩) hHeld ?_ ?_
      rotate_left
      ·rintro w' ⟨s0,s1,s2,s3⟩
       go_simp
       with_reducible rfl
      rotate_left
      ·simp only [Act.put,zz21,zz22,zz23,i64_w,i32_w]
       rfl
      refine one_ (i:=2) (N:=some 43) #[T,T,T,F,F] rfl rfl (by kernel_rfl) (by decide) (fun K hK=>?_)
      refine goes_ Try.func17 (by kernel_rfl) rfl #[.agg #[.int .i64 a0_0,.slice A0_1 l0_1.length c0_1]] (by rfl) rfl rfl (by (try simp only [zz26,zz27,zz28]);first | done | rfl | (simp only [zz24,zz25];rfl) | (simp only [zz25];congr;(try simp only [decide_eq_true_eq] at *);omega)) ?_
      with_reducible refine (laws_toParty.calls kj10 a0_0 _ _ l0_1 t677 t678 _ ?side1 ?side2 A56.out).mono ?_
      (case side1=>repeat (first | exact (Kd.C_below HR0_1.out HB.out) | (with_reducible refine zz18 ?_ _) | (with_reducible refine zz19 ?_ _) | (with_reducible refine zz20 ?_)))
      (case side2=>exact HC0_1.out)
      rintro e w176 ⟨v679,rfl,ho0,hb⟩
      refine ⟨_,rfl,?_⟩
      have n0_:=Aside0.mk (Kd.R_elder' (by (with_reducible repeat (first | apply zz12 | apply zz13 | apply zz14));exact HO_665001.out) (Kd.R_base ho0) hb)
      have n1_:=Aside0.mk (Kd.R_elder' (by (with_reducible repeat (first | apply zz12 | apply zz13 | apply zz14));exact HO_670001.out) (Kd.R_base ho0) hb)
      have n2_:=Aside0.mk (Kd.R_elder' (by (with_reducible repeat (first | apply zz12 | apply zz13 | apply zz14));exact HO_676001.out) (Kd.R_base ho0) hb)
      have n3_:=Aside0.mk (Kd.R_lower (Kd.R_new' (Kd.R_new' (Kd.R_new' ho0 (Kd.R_lt (by (with_reducible repeat (first | apply zz12 | apply zz13 | apply zz14));exact HO_665001.out))) (Kd.R_lt (by (with_reducible repeat (first | apply zz12 | apply zz13 | apply zz14));exact HO_670001.out))) (Kd.R_lt (by (with_reducible repeat (first | apply zz12 | apply zz13 | apply zz14));exact HO_676001.out))) (zz5 (by repeat first | exact HB.out | apply zz2 | apply zz0 | apply zz1 | refine zz3 ?_ GE653.out | refine zz3 ?_ GE664.out | refine zz3 ?_ GE669.out | refine zz3 ?_ GE675.out)))
      have n4_:=Aside0.mk (zz11 (g:=gb653) (o:=.cells #[.int .i64 a0_0,.slice A0_1 l0_1.length c0_1] 24 (0,0)) (by (with_reducible repeat (first | refine zz6 ?_ _ | refine zz7 ?_ | refine zz8 ?_ _));exact BK653.out) hb)
      have n5_:=Aside0.mk (zz11 (g:=gb664) (o:=.cells #[.int .i64 t659,.slice Ao22 t660.length co22] 29 (0,0)) (by (with_reducible repeat (first | refine zz6 ?_ _ | refine zz7 ?_ | refine zz8 ?_ _));exact BK664.out) hb)
      have n6_:=Aside0.mk (zz11 (g:=gb669) (o:=.cells #[.int .i64 t665,.slice Ao29 t666.length co29] 29 (0,0)) (by (with_reducible repeat (first | refine zz6 ?_ _ | refine zz7 ?_ | refine zz8 ?_ _));exact BK669.out) hb)
      have n7_:=Aside0.mk (zz11 (g:=gb675) (o:=.cells #[.int .i64 t670,.slice Ao36 t671.length co36] 29 (0,0)) (by (with_reducible repeat (first | refine zz6 ?_ _ | refine zz7 ?_ | refine zz8 ?_ _));exact BK675.out) hb)
      have n8_:=Aside0.mk (zz4 (by repeat first | exact HB.out | apply zz2 | apply zz0 | apply zz1 | refine zz3 ?_ GE653.out | refine zz3 ?_ GE664.out | refine zz3 ?_ GE669.out | refine zz3 ?_ GE675.out) hb)
      clear HO_665001
      clear HO_670001
      clear HO_676001
      clear BK653
      clear BK664
      clear BK669
      clear BK675
      clear HB
      have HO_665001:=n0_
      have HO_670001:=n1_
      have HO_676001:=n2_
      have HO680:=n3_
      have BK653:=n4_
      have BK664:=n5_
      have BK669:=n6_
      have BK675:=n7_
      have HB:=n8_
      clear n0_ n1_ n2_ n3_ n4_ n5_ n6_ n7_ n8_
      (try clear hb)
      (try clear hb2)
      (try clear hk)
      (try clear hi)
      (try clear ho0)
      obtain ⟨Ao177,co177,eo177⟩:=Kd.R_slice HO680.out
      (first | subst eo177 | (injection eo177 with f1_ f2_ f3_;have f4_:=f1_.symm;have f5_:=f3_.symm;clear f1_ f2_ f3_;subst f4_;subst f5_))
      refine hK.out _ _ ⟨(zz9 BK669.out 0).trans rfl,(zz9 BK669.out 1).trans rfl,(zz9 BK653.out 0).trans rfl,(zz9 BK653.out 1).trans rfl⟩ (fun hHeld=>?_)
      clear hK K
      refine norm_ (a':=?_) ?_ ?_
      rotate_left
      ·show Act.put _ (some 43) _=_
       simp only [Act.put,zz21,zz22,zz23,i64_w,i32_w]
       rfl
      refine one_ (i:=3) (N:=some 44) #[T,T,T,T,F] rfl rfl (by kernel_rfl) (by decide) (fun K hK=>?_)
      refine goes_ Try.func19 (by kernel_rfl) rfl #[.agg #[.int .i64 t665,.slice Ao29 t666.length co29],.agg #[.int .i64 t677,.slice Ao177 t678.length co177]] (by rfl) rfl rfl (by (try simp only [zz26,zz27,zz28]);first | done | rfl | (simp only [zz24,zz25];rfl) | (simp only [zz25];congr;(try simp only [decide_eq_true_eq] at *);omega)) ?_
      with_reducible refine (laws_eqParty.calls kj10 t665 _ _ t666 t677 _ _ t678 false _ ?side1 ?side2 ?side3 ?side4 A57.out).mono ?_
      (case side1=>repeat (first | exact (Kd.R_reads' HO_670001.out).2.2 | (with_reducible refine zz18 ?_ _) | (with_reducible refine zz19 ?_ _) | (with_reducible refine zz20 ?_)))
      (case side2=>exact (Kd.R_reads' HO_670001.out).2.1)
      (case side3=>repeat (first | exact (Kd.R_reads' HO680.out).2.2 | (with_reducible refine zz18 ?_ _) | (with_reducible refine zz19 ?_ _) | (with_reducible refine zz20 ?_)))
      (case side4=>exact (Kd.R_reads' HO680.out).2.1)
      rintro e w178 ⟨rfl,hb⟩
      refine ⟨_,rfl,?_⟩
      have n0_:=Aside0.mk (Kd.R_below (by (with_reducible repeat (first | apply zz12 | apply zz13 | apply zz14));exact HO_665001.out) hb)
      have n1_:=Aside0.mk (Kd.R_below (by (with_reducible repeat (first | apply zz12 | apply zz13 | apply zz14));exact HO_670001.out) hb)
      have n2_:=Aside0.mk (Kd.R_below (by (with_reducible repeat (first | apply zz12 | apply zz13 | apply zz14));exact HO_676001.out) hb)
      have n3_:=Aside0.mk (Kd.R_below (by (with_reducible repeat (first | apply zz12 | apply zz13 | apply zz14));exact HO680.out) hb)
      have n4_:=Aside0.mk (zz11 (g:=gb653) (o:=.cells #[.int .i64 a0_0,.slice A0_1 l0_1.length c0_1] 24 (0,0)) (by (with_reducible repeat (first | refine zz6 ?_ _ | refine zz7 ?_ | refine zz8 ?_ _));exact BK653.out) hb)
      have n5_:=Aside0.mk (zz11 (g:=gb664) (o:=.cells #[.int .i64 t659,.slice Ao22 t660.length co22] 29 (0,0)) (by (with_reducible repeat (first | refine zz6 ?_ _ | refine zz7 ?_ | refine zz8 ?_ _));exact BK664.out) hb)
      have n6_:=Aside0.mk (zz11 (g:=gb669) (o:=.cells #[.int .i64 t665,.slice Ao29 t666.length co29] 29 (0,0)) (by (with_reducible repeat (first | refine zz6 ?_ _ | refine zz7 ?_ | refine zz8 ?_ _));exact BK669.out) hb)
      have n7_:=Aside0.mk (zz11 (g:=gb675) (o:=.cells #[.int .i64 t670,.slice Ao36 t671.length co36] 29 (0,0)) (by (with_reducible repeat (first | refine zz6 ?_ _ | refine zz7 ?_ | refine zz8 ?_ _));exact BK675.out) hb)
      have n8_:=Aside0.mk (zz4 (by repeat first | exact HB.out | apply zz2 | apply zz0 | apply zz1 | refine zz3 ?_ GE653.out | refine zz3 ?_ GE664.out | refine zz3 ?_ GE669.out | refine zz3 ?_ GE675.out) hb)
      clear HO_665001
      clear HO_670001
      clear HO_676001
      clear HO680
      clear BK653
      clear BK664
      clear BK669
      clear BK675
      clear HB
      have HO_665001:=n0_
      have HO_670001:=n1_
      have HO_676001:=n2_
      have HO680:=n3_
      have BK653:=n4_
      have BK664:=n5_
      have BK669:=n6_
      have BK675:=n7_
      have HB:=n8_
      clear n0_ n1_ n2_ n3_ n4_ n5_ n6_ n7_ n8_
      (try clear hb)
      (try clear hb2)
      (try clear hk)
      (try clear hi)
      refine hK.out _ _ ⟨(zz9 BK669.out 0).trans rfl,(zz9 BK669.out 1).trans rfl,(zz9 BK653.out 0).trans rfl,(zz9 BK653.out 1).trans rfl⟩ (fun hHeld=>?_)
      clear hK K
      refine norm_ (a':=?_) ?_ ?_
      rotate_left
      ·show Act.put _ (some 44) _=_
       simp only [Act.put,zz21,zz22,zz23,i64_w,i32_w]
       rfl
      refine pure_ (i:=4) (N:=some 45) (v:=?_) (a':=?_) #[T,T,T,T,T] rfl rfl (by kernel_rfl) (fun _ _ _ h=>h) (Or.inl ⟨by rfl,?_⟩) ?_ ?_
      rotate_left
      ·intro w'
       go_simp
       with_reducible rfl
      rotate_left
      ·simp only [Act.put,zz21,zz22,zz23,i64_w,i32_w]
       rfl
      refine done_ (by kernel_rfl) ?_
      try go_wp2
      go_ret
      exact ⟨by first | rfl | (simp [errW_none,errW_some] <;> rfl) | (simp [*,errW_none,errW_some] <;> rfl),by repeat first | exact HB.out | apply zz2 | apply zz0 | apply zz1 | refine zz3 ?_ GE653.out | refine zz3 ?_ GE664.out | refine zz3 ?_ GE669.out | refine zz3 ?_ GE675.out⟩

end Go.Proofs.Ytiopgbpjkjnphaa.P
