-- PRINTED by print.py (a twelfth state) out of the translation. Not trusted: Lean checks it.
import Derived.Test.YtialimbdkokdcaaPx0
import Derived.Test.YtialimbdkokdcaaPx1
import Derived.Test.YtialimbdkokdcaaPx11
namespace Go.Proofs.Ytialimbdkokdcaa.P
open Go.RowKit Go.Proofs.YtialimbdkokdcaaW.PrintWords Go.Proofs.YtialimbdkokdcaaW.PrintLast Go.Proofs.YtialimbdkokdcaaW.PrintMore
attribute [local go_sem] max2_int min2_int max_two min_two max_three min_three max_four min_four   -- for this text's walks alone
set_option linter.unusedVariables false
set_option linter.unusedSimpArgs false

/-! ### spec_paTwo: function 71 -/
def spec_paTwo.f (k:Nat) (a0_0:Int) (l0_1:List (S80)) (a1:Int) (a2:Int):Option (Bool):=(spec_paGood.f k a0_0 l0_1).bind fun t574=>(if t574=true then ((spec_paHas.f a0_0 l0_1 a1).bind fun t575=>(if t575=true then ((spec_paHas.f a0_0 l0_1 a2).bind fun t576=>(if t576=true then (some (a1 != a2)) else (some false))) else (some false))) else (some false))
theorem spec_paTwo.mono:∀ a0 a1 a2 a3 k,LeO (spec_paTwo.f k a0 a1 a2 a3) (spec_paTwo.f (k+1) a0 a1 a2 a3):=by
 intro a0 a1 a2 a3 k
 unfold spec_paTwo.f
 repeat' first
   | (with_reducible exact spec_paGood.mono _ _ _)
   | (with_reducible exact LeO.refl _)
   | (with_reducible exact LeO.none _)
   | (with_reducible refine LeO.ite ?_ ?_)
   | (with_reducible refine LeO.bind ?_ (fun _=>?_))
   | exact spec_paGood.mono _ _ _
   | exact LeO.none _
   | refine LeO.ite ?_ ?_
   | refine LeO.bind ?_ (fun _=>?_)
set_option maxHeartbeats 8000000 in
set_option maxRecDepth 100000 in
theorem spec_paTwo.calls (k:Nat) (a0_0:Int) (A0_1:Option Addr) (c0_1:Nat) (l0_1:List (S80)) (a1:Int) (a2:Int) (r:Bool) (w:World) (hr0_1:Kd.C k80 w A0_1 l0_1.length l0_1) (hc0_1:l0_1.length≤c0_1) (h:spec_paTwo.f k a0_0 l0_1 a1 a2=some r) :
  Calls Try.prog 71 #[.agg #[.int .i64 a0_0,.slice A0_1 l0_1.length c0_1],.int .i64 a1,.int .i64 a2] w fun e w'=>e=.returned (.bool r)∧Below w.heap.size w w':=by
 have hu30:=Try.underlying30
 have HR0_1:=zz31 hr0_1
 have HC0_1:=zz31 hc0_1
 clear hr0_1 hc0_1
 have HB:=zz31 (Below.refl w.heap.size w)
 have H:((spec_paGood.f k a0_0 l0_1).bind fun t574=>(if t574=true then ((spec_paHas.f a0_0 l0_1 a1).bind fun t575=>(if t575=true then ((spec_paHas.f a0_0 l0_1 a2).bind fun t576=>(if t576=true then (some (a1 != a2)) else (some false))) else (some false))) else (some false)))=some r:=h
 clear h
 replace H:=zz30.mp H
 obtain ⟨t574,A40,H⟩:=H
 replace H:(if t574=true then ((spec_paHas.f a0_0 l0_1 a1).bind fun t575=>(if t575=true then ((spec_paHas.f a0_0 l0_1 a2).bind fun t576=>(if t576=true then (some (a1 != a2)) else (some false))) else (some false))) else (some false))=some r:=H
 have A4:=zz31 A40
 clear A40
 by_cases c5:t574=true
 ·subst c5
  have H1:((spec_paHas.f a0_0 l0_1 a1).bind fun t575=>(if t575=true then ((spec_paHas.f a0_0 l0_1 a2).bind fun t576=>(if t576=true then (some (a1 != a2)) else (some false))) else (some false)))=some r:=by rw [if_pos rfl] at H;exact H
  clear H
  have H:=H1
  clear H1
  replace H:=zz30.mp H
  obtain ⟨t575,A60,H⟩:=H
  replace H:(if t575=true then ((spec_paHas.f a0_0 l0_1 a2).bind fun t576=>(if t576=true then (some (a1 != a2)) else (some false))) else (some false))=some r:=H
  have A6:=zz31 A60
  clear A60
  by_cases c7:t575=true
  ·subst c7
   have H1:((spec_paHas.f a0_0 l0_1 a2).bind fun t576=>(if t576=true then (some (a1 != a2)) else (some false)))=some r:=by rw [if_pos rfl] at H;exact H
   clear H
   have H:=H1
   clear H1
   replace H:=zz30.mp H
   obtain ⟨t576,A80,H⟩:=H
   replace H:(if t576=true then (some (a1 != a2)) else (some false))=some r:=H
   have A8:=zz31 A80
   clear A80
   by_cases c9:t576=true
   ·subst c9
    have H1:(some (a1 != a2))=some r:=by rw [if_pos rfl] at H;exact H
    clear H
    have H:=H1
    clear H1
    obtain rfl:=Option.some.inj H
    go_enter Try.func71,Try.ntmps71
    go_wp2_with (first | ((with_reducible refine gate_dst (N:=3) rfl ?_);refine box_event ?hg (N:=3) ?hd (cs:=#[.int .i64 a0_0,.slice A0_1 l0_1.length c0_1]) (t:=30) ?hr ?_;(case hd=>rfl);(case hg=>rfl);(case hr=>first | (go_simp;done) | (go_simp;rfl));intro gb573 hg w10 hbox hb;have n0_:=zz31 (zz4 (by repeat first | exact HB.out | apply zz2 | apply zz0 | apply zz1) hb);have n1_:=zz31 (hbox);have n2_:=zz31 ((by rw [hg];exact (zz5 (by repeat first | exact HB.out | apply zz2 | apply zz0 | apply zz1)):w.heap.size≤gb573));have n3_:=zz31 ((by rw [hg];exact (zz5 (by repeat first | exact HB.out | apply zz2 | apply zz0 | apply zz1)):w.heap.size≤gb573));clear HB;have HB:=n0_;have BK573:=n1_;have GW573:=n2_;have GE573:=n3_;clear n0_ n1_ n2_ n3_;clear hb hbox hg;have hcz11_0:w10.cell? ⟨gb573,0,none⟩=some (.int .i64 a0_0):=(zz9 BK573.out 0).trans rfl;have hcz11_1:w10.cell? ⟨gb573,1,none⟩=some (.slice A0_1 l0_1.length c0_1):=(zz9 BK573.out 1).trans rfl;have hfz11_0:=zz10 BK573.out 0;have hfz11_1:=zz10 BK573.out 1) | ((with_reducible refine gate_callee (f:=42) rfl ?_);refine goesL_ (some 8) rfl rfl Try.func42 (by kernel_rfl) rfl #[.agg #[.int .i64 a0_0,.slice A0_1 l0_1.length c0_1]] rfl (by (try simp only [zz26,zz27,zz28]);first | done | rfl | (simp only [zz24,zz25];rfl)) ?_;(with_reducible refine (spec_paGood.calls k a0_0 _ _ l0_1 true _ ?side1 ?side2 A4.out).mono ?_);(case side1=>repeat (first | exact (Kd.C_below HR0_1.out HB.out) | (with_reducible refine zz18 ?_ _) | (with_reducible refine zz19 ?_ _) | (with_reducible refine zz20 ?_)));(case side2=>exact HC0_1.out);rintro e w12 ⟨rfl,hb⟩;refine ⟨_,rfl,?_⟩;have n0_:=zz31 (zz11 (g:=gb573) (o:=.cells #[.int .i64 a0_0,.slice A0_1 l0_1.length c0_1] 30 (0,0)) (by (with_reducible repeat (first | refine zz6 ?_ _ | refine zz7 ?_ | refine zz8 ?_ _));exact BK573.out) hb);have n1_:=zz31 (zz4 (by repeat first | exact HB.out | apply zz2 | apply zz0 | apply zz1 | refine zz3 ?_ GE573.out) hb);clear BK573;clear HB;have BK573:=n0_;have HB:=n1_;clear n0_ n1_;(try clear hb);(try clear hb2);(try clear hk);(try clear hi);have hcz13_0:w12.cell? ⟨gb573,0,none⟩=some (.int .i64 a0_0):=(zz9 BK573.out 0).trans rfl;have hcz13_1:w12.cell? ⟨gb573,1,none⟩=some (.slice A0_1 l0_1.length c0_1):=(zz9 BK573.out 1).trans rfl;have hfz13_0:=zz10 BK573.out 0;have hfz13_1:=zz10 BK573.out 1) | (go_at_call 56;(with_reducible refine (spec_paHas.calls a0_0 _ _ l0_1 a1 true _ ?side1 ?side2 A6.out).mono ?_);(case side1=>repeat (first | exact (Kd.C_below HR0_1.out HB.out) | (with_reducible refine zz18 ?_ _) | (with_reducible refine zz19 ?_ _) | (with_reducible refine zz20 ?_)));(case side2=>exact HC0_1.out);rintro e w14 ⟨rfl,hb⟩;have n0_:=zz31 (zz11 (g:=gb573) (o:=.cells #[.int .i64 a0_0,.slice A0_1 l0_1.length c0_1] 30 (0,0)) (by (with_reducible repeat (first | refine zz6 ?_ _ | refine zz7 ?_ | refine zz8 ?_ _));exact BK573.out) hb);have n1_:=zz31 (zz4 (by repeat first | exact HB.out | apply zz2 | apply zz0 | apply zz1 | refine zz3 ?_ GE573.out) hb);clear BK573;clear HB;have BK573:=n0_;have HB:=n1_;clear n0_ n1_;(try clear hb);(try clear hb2);(try clear hk);(try clear hi);have hcz15_0:w14.cell? ⟨gb573,0,none⟩=some (.int .i64 a0_0):=(zz9 BK573.out 0).trans rfl;have hcz15_1:w14.cell? ⟨gb573,1,none⟩=some (.slice A0_1 l0_1.length c0_1):=(zz9 BK573.out 1).trans rfl;have hfz15_0:=zz10 BK573.out 0;have hfz15_1:=zz10 BK573.out 1) | (go_at_call 56;(with_reducible refine (spec_paHas.calls a0_0 _ _ l0_1 a2 true _ ?side1 ?side2 A8.out).mono ?_);(case side1=>repeat (first | exact (Kd.C_below HR0_1.out HB.out) | (with_reducible refine zz18 ?_ _) | (with_reducible refine zz19 ?_ _) | (with_reducible refine zz20 ?_)));(case side2=>exact HC0_1.out);rintro e w16 ⟨rfl,hb⟩;have n0_:=zz31 (zz11 (g:=gb573) (o:=.cells #[.int .i64 a0_0,.slice A0_1 l0_1.length c0_1] 30 (0,0)) (by (with_reducible repeat (first | refine zz6 ?_ _ | refine zz7 ?_ | refine zz8 ?_ _));exact BK573.out) hb);have n1_:=zz31 (zz4 (by repeat first | exact HB.out | apply zz2 | apply zz0 | apply zz1 | refine zz3 ?_ GE573.out) hb);clear BK573;clear HB;have BK573:=n0_;have HB:=n1_;clear n0_ n1_;(try clear hb);(try clear hb2);(try clear hk);(try clear hi)))
    go_ret
    exact ⟨by first | rfl | (simp [errW_none,errW_some] <;> rfl) | (simp [*,errW_none,errW_some] <;> rfl),by repeat first | exact HB.out | apply zz2 | apply zz0 | apply zz1 | refine zz3 ?_ GE573.out⟩
   ·replace c9:=Bool.eq_false_iff.mpr c9
    subst c9
    have H1:(some false)=some r:=by rw [if_neg (show ¬ (false=true) by decide)] at H;exact H
    clear H
    have H:=H1
    clear H1
    obtain rfl:=Option.some.inj H
    go_enter Try.func71,Try.ntmps71
    go_wp2_with (first | ((with_reducible refine gate_dst (N:=3) rfl ?_);refine box_event ?hg (N:=3) ?hd (cs:=#[.int .i64 a0_0,.slice A0_1 l0_1.length c0_1]) (t:=30) ?hr ?_;(case hd=>rfl);(case hg=>rfl);(case hr=>first | (go_simp;done) | (go_simp;rfl));intro gb573 hg w17 hbox hb;have n0_:=zz31 (zz4 (by repeat first | exact HB.out | apply zz2 | apply zz0 | apply zz1) hb);have n1_:=zz31 (hbox);have n2_:=zz31 ((by rw [hg];exact (zz5 (by repeat first | exact HB.out | apply zz2 | apply zz0 | apply zz1)):w.heap.size≤gb573));have n3_:=zz31 ((by rw [hg];exact (zz5 (by repeat first | exact HB.out | apply zz2 | apply zz0 | apply zz1)):w.heap.size≤gb573));clear HB;have HB:=n0_;have BK573:=n1_;have GW573:=n2_;have GE573:=n3_;clear n0_ n1_ n2_ n3_;clear hb hbox hg;have hcz18_0:w17.cell? ⟨gb573,0,none⟩=some (.int .i64 a0_0):=(zz9 BK573.out 0).trans rfl;have hcz18_1:w17.cell? ⟨gb573,1,none⟩=some (.slice A0_1 l0_1.length c0_1):=(zz9 BK573.out 1).trans rfl;have hfz18_0:=zz10 BK573.out 0;have hfz18_1:=zz10 BK573.out 1) | ((with_reducible refine gate_callee (f:=42) rfl ?_);refine goesL_ (some 8) rfl rfl Try.func42 (by kernel_rfl) rfl #[.agg #[.int .i64 a0_0,.slice A0_1 l0_1.length c0_1]] rfl (by (try simp only [zz26,zz27,zz28]);first | done | rfl | (simp only [zz24,zz25];rfl)) ?_;(with_reducible refine (spec_paGood.calls k a0_0 _ _ l0_1 true _ ?side1 ?side2 A4.out).mono ?_);(case side1=>repeat (first | exact (Kd.C_below HR0_1.out HB.out) | (with_reducible refine zz18 ?_ _) | (with_reducible refine zz19 ?_ _) | (with_reducible refine zz20 ?_)));(case side2=>exact HC0_1.out);rintro e w19 ⟨rfl,hb⟩;refine ⟨_,rfl,?_⟩;have n0_:=zz31 (zz11 (g:=gb573) (o:=.cells #[.int .i64 a0_0,.slice A0_1 l0_1.length c0_1] 30 (0,0)) (by (with_reducible repeat (first | refine zz6 ?_ _ | refine zz7 ?_ | refine zz8 ?_ _));exact BK573.out) hb);have n1_:=zz31 (zz4 (by repeat first | exact HB.out | apply zz2 | apply zz0 | apply zz1 | refine zz3 ?_ GE573.out) hb);clear BK573;clear HB;have BK573:=n0_;have HB:=n1_;clear n0_ n1_;(try clear hb);(try clear hb2);(try clear hk);(try clear hi);have hcz20_0:w19.cell? ⟨gb573,0,none⟩=some (.int .i64 a0_0):=(zz9 BK573.out 0).trans rfl;have hcz20_1:w19.cell? ⟨gb573,1,none⟩=some (.slice A0_1 l0_1.length c0_1):=(zz9 BK573.out 1).trans rfl;have hfz20_0:=zz10 BK573.out 0;have hfz20_1:=zz10 BK573.out 1) | (go_at_call 56;(with_reducible refine (spec_paHas.calls a0_0 _ _ l0_1 a1 true _ ?side1 ?side2 A6.out).mono ?_);(case side1=>repeat (first | exact (Kd.C_below HR0_1.out HB.out) | (with_reducible refine zz18 ?_ _) | (with_reducible refine zz19 ?_ _) | (with_reducible refine zz20 ?_)));(case side2=>exact HC0_1.out);rintro e w21 ⟨rfl,hb⟩;have n0_:=zz31 (zz11 (g:=gb573) (o:=.cells #[.int .i64 a0_0,.slice A0_1 l0_1.length c0_1] 30 (0,0)) (by (with_reducible repeat (first | refine zz6 ?_ _ | refine zz7 ?_ | refine zz8 ?_ _));exact BK573.out) hb);have n1_:=zz31 (zz4 (by repeat first | exact HB.out | apply zz2 | apply zz0 | apply zz1 | refine zz3 ?_ GE573.out) hb);clear BK573;clear HB;have BK573:=n0_;have HB:=n1_;clear n0_ n1_;(try clear hb);(try clear hb2);(try clear hk);(try clear hi);have hcz22_0:w21.cell? ⟨gb573,0,none⟩=some (.int .i64 a0_0):=(zz9 BK573.out 0).trans rfl;have hcz22_1:w21.cell? ⟨gb573,1,none⟩=some (.slice A0_1 l0_1.length c0_1):=(zz9 BK573.out 1).trans rfl;have hfz22_0:=zz10 BK573.out 0;have hfz22_1:=zz10 BK573.out 1) | (go_at_call 56;(with_reducible refine (spec_paHas.calls a0_0 _ _ l0_1 a2 false _ ?side1 ?side2 A8.out).mono ?_);(case side1=>repeat (first | exact (Kd.C_below HR0_1.out HB.out) | (with_reducible refine zz18 ?_ _) | (with_reducible refine zz19 ?_ _) | (with_reducible refine zz20 ?_)));(case side2=>exact HC0_1.out);rintro e w23 ⟨rfl,hb⟩;have n0_:=zz31 (zz11 (g:=gb573) (o:=.cells #[.int .i64 a0_0,.slice A0_1 l0_1.length c0_1] 30 (0,0)) (by (with_reducible repeat (first | refine zz6 ?_ _ | refine zz7 ?_ | refine zz8 ?_ _));exact BK573.out) hb);have n1_:=zz31 (zz4 (by repeat first | exact HB.out | apply zz2 | apply zz0 | apply zz1 | refine zz3 ?_ GE573.out) hb);clear BK573;clear HB;have BK573:=n0_;have HB:=n1_;clear n0_ n1_;(try clear hb);(try clear hb2);(try clear hk);(try clear hi)))
    go_ret
    exact ⟨by first | rfl | (simp [errW_none,errW_some] <;> rfl) | (simp [*,errW_none,errW_some] <;> rfl),by repeat first | exact HB.out | apply zz2 | apply zz0 | apply zz1 | refine zz3 ?_ GE573.out⟩
  ·replace c7:=Bool.eq_false_iff.mpr c7
   subst c7
   have H1:(some false)=some r:=by rw [if_neg (show ¬ (false=true) by decide)] at H;exact H
   clear H
   have H:=H1
   clear H1
   obtain rfl:=Option.some.inj H
   go_enter Try.func71,Try.ntmps71
   go_wp2_with (first | ((with_reducible refine gate_dst (N:=3) rfl ?_);refine box_event ?hg (N:=3) ?hd (cs:=#[.int .i64 a0_0,.slice A0_1 l0_1.length c0_1]) (t:=30) ?hr ?_;(case hd=>rfl);(case hg=>rfl);(case hr=>first | (go_simp;done) | (go_simp;rfl));intro gb573 hg w24 hbox hb;have n0_:=zz31 (zz4 (by repeat first | exact HB.out | apply zz2 | apply zz0 | apply zz1) hb);have n1_:=zz31 (hbox);have n2_:=zz31 ((by rw [hg];exact (zz5 (by repeat first | exact HB.out | apply zz2 | apply zz0 | apply zz1)):w.heap.size≤gb573));have n3_:=zz31 ((by rw [hg];exact (zz5 (by repeat first | exact HB.out | apply zz2 | apply zz0 | apply zz1)):w.heap.size≤gb573));clear HB;have HB:=n0_;have BK573:=n1_;have GW573:=n2_;have GE573:=n3_;clear n0_ n1_ n2_ n3_;clear hb hbox hg;have hcz25_0:w24.cell? ⟨gb573,0,none⟩=some (.int .i64 a0_0):=(zz9 BK573.out 0).trans rfl;have hcz25_1:w24.cell? ⟨gb573,1,none⟩=some (.slice A0_1 l0_1.length c0_1):=(zz9 BK573.out 1).trans rfl;have hfz25_0:=zz10 BK573.out 0;have hfz25_1:=zz10 BK573.out 1) | ((with_reducible refine gate_callee (f:=42) rfl ?_);refine goesL_ (some 8) rfl rfl Try.func42 (by kernel_rfl) rfl #[.agg #[.int .i64 a0_0,.slice A0_1 l0_1.length c0_1]] rfl (by (try simp only [zz26,zz27,zz28]);first | done | rfl | (simp only [zz24,zz25];rfl)) ?_;(with_reducible refine (spec_paGood.calls k a0_0 _ _ l0_1 true _ ?side1 ?side2 A4.out).mono ?_);(case side1=>repeat (first | exact (Kd.C_below HR0_1.out HB.out) | (with_reducible refine zz18 ?_ _) | (with_reducible refine zz19 ?_ _) | (with_reducible refine zz20 ?_)));(case side2=>exact HC0_1.out);rintro e w26 ⟨rfl,hb⟩;refine ⟨_,rfl,?_⟩;have n0_:=zz31 (zz11 (g:=gb573) (o:=.cells #[.int .i64 a0_0,.slice A0_1 l0_1.length c0_1] 30 (0,0)) (by (with_reducible repeat (first | refine zz6 ?_ _ | refine zz7 ?_ | refine zz8 ?_ _));exact BK573.out) hb);have n1_:=zz31 (zz4 (by repeat first | exact HB.out | apply zz2 | apply zz0 | apply zz1 | refine zz3 ?_ GE573.out) hb);clear BK573;clear HB;have BK573:=n0_;have HB:=n1_;clear n0_ n1_;(try clear hb);(try clear hb2);(try clear hk);(try clear hi);have hcz27_0:w26.cell? ⟨gb573,0,none⟩=some (.int .i64 a0_0):=(zz9 BK573.out 0).trans rfl;have hcz27_1:w26.cell? ⟨gb573,1,none⟩=some (.slice A0_1 l0_1.length c0_1):=(zz9 BK573.out 1).trans rfl;have hfz27_0:=zz10 BK573.out 0;have hfz27_1:=zz10 BK573.out 1) | (go_at_call 56;(with_reducible refine (spec_paHas.calls a0_0 _ _ l0_1 a1 false _ ?side1 ?side2 A6.out).mono ?_);(case side1=>repeat (first | exact (Kd.C_below HR0_1.out HB.out) | (with_reducible refine zz18 ?_ _) | (with_reducible refine zz19 ?_ _) | (with_reducible refine zz20 ?_)));(case side2=>exact HC0_1.out);rintro e w28 ⟨rfl,hb⟩;have n0_:=zz31 (zz11 (g:=gb573) (o:=.cells #[.int .i64 a0_0,.slice A0_1 l0_1.length c0_1] 30 (0,0)) (by (with_reducible repeat (first | refine zz6 ?_ _ | refine zz7 ?_ | refine zz8 ?_ _));exact BK573.out) hb);have n1_:=zz31 (zz4 (by repeat first | exact HB.out | apply zz2 | apply zz0 | apply zz1 | refine zz3 ?_ GE573.out) hb);clear BK573;clear HB;have BK573:=n0_;have HB:=n1_;clear n0_ n1_;(try clear hb);(try clear hb2);(try clear hk);(try clear hi)))
   go_ret
   exact ⟨by first | rfl | (simp [errW_none,errW_some] <;> rfl) | (simp [*,errW_none,errW_some] <;> rfl),by repeat first | exact HB.out | apply zz2 | apply zz0 | apply zz1 | refine zz3 ?_ GE573.out⟩
 ·replace c5:=Bool.eq_false_iff.mpr c5
  subst c5
  have H1:(some false)=some r:=by rw [if_neg (show ¬ (false=true) by decide)] at H;exact H
  clear H
  have H:=H1
  clear H1
  obtain rfl:=Option.some.inj H
  go_enter Try.func71,Try.ntmps71
  go_wp2_with (first | ((with_reducible refine gate_dst (N:=3) rfl ?_);refine box_event ?hg (N:=3) ?hd (cs:=#[.int .i64 a0_0,.slice A0_1 l0_1.length c0_1]) (t:=30) ?hr ?_;(case hd=>rfl);(case hg=>rfl);(case hr=>first | (go_simp;done) | (go_simp;rfl));intro gb573 hg w29 hbox hb;have n0_:=zz31 (zz4 (by repeat first | exact HB.out | apply zz2 | apply zz0 | apply zz1) hb);have n1_:=zz31 (hbox);have n2_:=zz31 ((by rw [hg];exact (zz5 (by repeat first | exact HB.out | apply zz2 | apply zz0 | apply zz1)):w.heap.size≤gb573));have n3_:=zz31 ((by rw [hg];exact (zz5 (by repeat first | exact HB.out | apply zz2 | apply zz0 | apply zz1)):w.heap.size≤gb573));clear HB;have HB:=n0_;have BK573:=n1_;have GW573:=n2_;have GE573:=n3_;clear n0_ n1_ n2_ n3_;clear hb hbox hg;have hcz30_0:w29.cell? ⟨gb573,0,none⟩=some (.int .i64 a0_0):=(zz9 BK573.out 0).trans rfl;have hcz30_1:w29.cell? ⟨gb573,1,none⟩=some (.slice A0_1 l0_1.length c0_1):=(zz9 BK573.out 1).trans rfl;have hfz30_0:=zz10 BK573.out 0;have hfz30_1:=zz10 BK573.out 1) | ((with_reducible refine gate_callee (f:=42) rfl ?_);refine goesL_ (some 8) rfl rfl Try.func42 (by kernel_rfl) rfl #[.agg #[.int .i64 a0_0,.slice A0_1 l0_1.length c0_1]] rfl (by (try simp only [zz26,zz27,zz28]);first | done | rfl | (simp only [zz24,zz25];rfl)) ?_;(with_reducible refine (spec_paGood.calls k a0_0 _ _ l0_1 false _ ?side1 ?side2 A4.out).mono ?_);(case side1=>repeat (first | exact (Kd.C_below HR0_1.out HB.out) | (with_reducible refine zz18 ?_ _) | (with_reducible refine zz19 ?_ _) | (with_reducible refine zz20 ?_)));(case side2=>exact HC0_1.out);rintro e w31 ⟨rfl,hb⟩;refine ⟨_,rfl,?_⟩;have n0_:=zz31 (zz11 (g:=gb573) (o:=.cells #[.int .i64 a0_0,.slice A0_1 l0_1.length c0_1] 30 (0,0)) (by (with_reducible repeat (first | refine zz6 ?_ _ | refine zz7 ?_ | refine zz8 ?_ _));exact BK573.out) hb);have n1_:=zz31 (zz4 (by repeat first | exact HB.out | apply zz2 | apply zz0 | apply zz1 | refine zz3 ?_ GE573.out) hb);clear BK573;clear HB;have BK573:=n0_;have HB:=n1_;clear n0_ n1_;(try clear hb);(try clear hb2);(try clear hk);(try clear hi)))
  go_ret
  exact ⟨by first | rfl | (simp [errW_none,errW_some] <;> rfl) | (simp [*,errW_none,errW_some] <;> rfl),by repeat first | exact HB.out | apply zz2 | apply zz0 | apply zz1 | refine zz3 ?_ GE573.out⟩

end Go.Proofs.Ytialimbdkokdcaa.P
