-- PRINTED by print.py (a twelfth state) out of the translation. Not trusted: Lean checks it.
import Derived.Test.YtifkaefccghgdaaPx0
import Derived.Test.YtifkaefccghgdaaPx1
import Derived.Test.YtifkaefccghgdaaPx5
import Derived.Test.YtifkaefccghgdaaPx7
import Derived.Test.YtifkaefccghgdaaPx9
import Derived.Test.YtifkaefccghgdaaPx11
namespace Go.Proofs.Ytifkaefccghgdaa.P
open Go.RowKit Go.Proofs.YtifkaefccghgdaaW.PrintWords Go.Proofs.YtifkaefccghgdaaW.PrintLast Go.Proofs.YtifkaefccghgdaaW.PrintMore
open Bool renaming true → T, false → F
attribute [local go_sem] max2_int min2_int max_two min_two max_three min_three max_four min_four   -- for this text's walks alone
set_option linter.unusedVariables false
set_option linter.unusedSimpArgs false

/-! ### spec_FewestColours: function 21 -/
def spec_FewestColours.f (k:Nat) (a0_0:Int) (l0_1:List (S79)):Option (Int × Bool):=(spec_grFew.f k a0_0 l0_1).bind fun t430=>(if t430=true then ((spec_grFewest.f k a0_0 l0_1).bind fun bt431=>(some (bt431.2,true))) else (some (0,false)))
theorem spec_FewestColours.mono:∀ a0 a1 k,LeO (spec_FewestColours.f k a0 a1) (spec_FewestColours.f (k+1) a0 a1):=by
 intro a0 a1 k
 unfold spec_FewestColours.f
 repeat' first
   | (with_reducible exact spec_grFew.mono _ _ _)
   | (with_reducible exact spec_grFewest.mono _ _ _)
   | (with_reducible exact LeO.refl _)
   | (with_reducible exact LeO.none _)
   | (with_reducible refine LeO.ite ?_ ?_)
   | (with_reducible refine LeO.bind ?_ (fun _=>?_))
   | exact spec_grFew.mono _ _ _
   | exact spec_grFewest.mono _ _ _
   | exact LeO.none _
   | refine LeO.ite ?_ ?_
   | refine LeO.bind ?_ (fun _=>?_)
set_option maxHeartbeats 8000000 in
set_option maxRecDepth 100000 in
theorem spec_FewestColours.calls (k:Nat) (a0_0:Int) (A0_1:Option Addr) (c0_1:Nat) (l0_1:List (S79)) (r1:Int) (r2:Bool) (w:World) (hr0_1:Kd.C k79 w A0_1 l0_1.length l0_1) (hc0_1:l0_1.length≤c0_1) (h:spec_FewestColours.f k a0_0 l0_1=some (r1,r2)) :
  Calls Try.prog 21 #[.agg #[.int .i64 a0_0,.slice A0_1 l0_1.length c0_1]] w fun e w'=>e=.returned (.tuple #[.int .i64 r1,.bool r2])∧Below w.heap.size w w':=by
 have hu31:=Try.underlying31
 have HR0_1:=zz31 hr0_1
 have HC0_1:=zz31 hc0_1
 clear hr0_1 hc0_1
 have HB:=zz31 (Below.refl w.heap.size w)
 have H:((spec_grFew.f k a0_0 l0_1).bind fun t430=>(if t430=true then ((spec_grFewest.f k a0_0 l0_1).bind fun bt431=>(some (bt431.2,true))) else (some (0,false))))=some (r1,r2):=h
 clear h
 replace H:=zz30.mp H
 obtain ⟨t430,A20,H⟩:=H
 replace H:(if t430=true then ((spec_grFewest.f k a0_0 l0_1).bind fun bt431=>(some (bt431.2,true))) else (some (0,false)))=some (r1,r2):=H
 have A2:=zz31 A20
 clear A20
 by_cases c3:t430=true
 ·subst c3
  have H1:((spec_grFewest.f k a0_0 l0_1).bind fun bt431=>(some (bt431.2,true)))=some (r1,r2):=by rw [if_pos rfl] at H;exact H
  clear H
  have H:=H1
  clear H1
  replace H:=zz30.mp H
  obtain ⟨⟨t431,t434⟩,A40,H⟩:=H
  replace H:(some (t434,true))=some (r1,r2):=H
  have A4:=zz31 A40
  clear A40
  simp only [Option.some.injEq,Prod.mk.injEq] at H
  obtain ⟨rfl,rfl⟩:=H
  go_enter Try.func21,Try.ntmps21
  go_wp2_with (first | ((with_reducible refine gate_dst (N:=1) rfl ?_);refine box_event ?hg (N:=1) ?hd (cs:=#[.int .i64 a0_0,.slice A0_1 l0_1.length c0_1]) (t:=31) ?hr ?_;(case hd=>rfl);(case hg=>rfl);(case hr=>first | (go_simp;done) | (go_simp;rfl));intro gb429 hg w5 hbox hb;have n0_:=zz31 (zz4 (by repeat first | exact HB.out | apply zz2 | apply zz0 | apply zz1) hb);have n1_:=zz31 (hbox);have n2_:=zz31 ((by rw [hg];exact (zz5 (by repeat first | exact HB.out | apply zz2 | apply zz0 | apply zz1)):w.heap.size≤gb429));have n3_:=zz31 ((by rw [hg];exact (zz5 (by repeat first | exact HB.out | apply zz2 | apply zz0 | apply zz1)):w.heap.size≤gb429));clear HB;have HB:=n0_;have BK429:=n1_;have GW429:=n2_;have GE429:=n3_;clear n0_ n1_ n2_ n3_;clear hb hbox hg;have hcz6_0:w5.cell? ⟨gb429,0,none⟩=some (.int .i64 a0_0):=(zz9 BK429.out 0).trans rfl;have hcz6_1:w5.cell? ⟨gb429,1,none⟩=some (.slice A0_1 l0_1.length c0_1):=(zz9 BK429.out 1).trans rfl;have hfz6_0:=zz10 BK429.out 0;have hfz6_1:=zz10 BK429.out 1) | ((with_reducible refine gate_callee (f:=48) rfl ?_);refine goesL_ (some 7) rfl rfl Try.func48 (by kernel_rfl) rfl #[.agg #[.int .i64 a0_0,.slice A0_1 l0_1.length c0_1]] rfl (by (try simp only [zz26,zz27,zz28]);first | done | rfl | (simp only [zz24,zz25];rfl)) ?_;(with_reducible refine (spec_grFew.calls k a0_0 _ _ l0_1 true _ ?side1 ?side2 A2.out).mono ?_);(case side1=>repeat (first | exact (Kd.C_below HR0_1.out HB.out) | (with_reducible refine zz18 ?_ _) | (with_reducible refine zz19 ?_ _) | (with_reducible refine zz20 ?_)));(case side2=>exact HC0_1.out);rintro e w7 ⟨rfl,hb⟩;refine ⟨_,rfl,?_⟩;have n0_:=zz31 (zz11 (g:=gb429) (o:=.cells #[.int .i64 a0_0,.slice A0_1 l0_1.length c0_1] 31 (0,0)) (by (with_reducible repeat (first | refine zz6 ?_ _ | refine zz7 ?_ | refine zz8 ?_ _));exact BK429.out) hb);have n1_:=zz31 (zz4 (by repeat first | exact HB.out | apply zz2 | apply zz0 | apply zz1 | refine zz3 ?_ GE429.out) hb);clear BK429;clear HB;have BK429:=n0_;have HB:=n1_;clear n0_ n1_;(try clear hb);(try clear hb2);(try clear hk);(try clear hi);have hcz8_0:w7.cell? ⟨gb429,0,none⟩=some (.int .i64 a0_0):=(zz9 BK429.out 0).trans rfl;have hcz8_1:w7.cell? ⟨gb429,1,none⟩=some (.slice A0_1 l0_1.length c0_1):=(zz9 BK429.out 1).trans rfl;have hfz8_0:=zz10 BK429.out 0;have hfz8_1:=zz10 BK429.out 1) | ((with_reducible refine gate_callee (f:=55) rfl ?_);refine goesL_ (some 11) rfl rfl Try.func55 (by kernel_rfl) rfl #[.agg #[.int .i64 a0_0,.slice A0_1 l0_1.length c0_1]] rfl (by (try simp only [zz26,zz27,zz28]);first | done | rfl | (simp only [zz24,zz25];rfl)) ?_;(with_reducible refine (spec_grFewest.calls k a0_0 _ _ l0_1 t431 t434 _ ?side1 ?side2 A4.out).mono ?_);(case side1=>repeat (first | exact (Kd.C_below HR0_1.out HB.out) | (with_reducible refine zz18 ?_ _) | (with_reducible refine zz19 ?_ _) | (with_reducible refine zz20 ?_)));(case side2=>exact HC0_1.out);rintro e w9 ⟨v432,rfl,ho0,hb⟩;refine ⟨_,rfl,?_⟩;have n0_:=zz31 (Kd.R_lower ho0 (zz5 (by repeat first | exact HB.out | apply zz2 | apply zz0 | apply zz1 | refine zz3 ?_ GE429.out)));have n1_:=zz31 (zz11 (g:=gb429) (o:=.cells #[.int .i64 a0_0,.slice A0_1 l0_1.length c0_1] 31 (0,0)) (by (with_reducible repeat (first | refine zz6 ?_ _ | refine zz7 ?_ | refine zz8 ?_ _));exact BK429.out) hb);have n2_:=zz31 (zz4 (by repeat first | exact HB.out | apply zz2 | apply zz0 | apply zz1 | refine zz3 ?_ GE429.out) hb);clear BK429;clear HB;have HO433:=n0_;have BK429:=n1_;have HB:=n2_;clear n0_ n1_ n2_;(try clear hb);(try clear hb2);(try clear hk);(try clear hi);(try clear ho0)))
  go_ret2
  exact ⟨by first | rfl | (simp [errW_none,errW_some] <;> rfl) | (simp [*,errW_none,errW_some] <;> rfl),by repeat first | exact HB.out | apply zz2 | apply zz0 | apply zz1 | refine zz3 ?_ GE429.out⟩
 ·replace c3:=Bool.eq_false_iff.mpr c3
  subst c3
  have H1:(some (0,false))=some (r1,r2):=by rw [if_neg (show ¬ (false=true) by decide)] at H;exact H
  clear H
  have H:=H1
  clear H1
  simp only [Option.some.injEq,Prod.mk.injEq] at H
  obtain ⟨rfl,rfl⟩:=H
  go_enter Try.func21,Try.ntmps21
  go_wp2_with (first | ((with_reducible refine gate_dst (N:=1) rfl ?_);refine box_event ?hg (N:=1) ?hd (cs:=#[.int .i64 a0_0,.slice A0_1 l0_1.length c0_1]) (t:=31) ?hr ?_;(case hd=>rfl);(case hg=>rfl);(case hr=>first | (go_simp;done) | (go_simp;rfl));intro gb429 hg w10 hbox hb;have n0_:=zz31 (zz4 (by repeat first | exact HB.out | apply zz2 | apply zz0 | apply zz1) hb);have n1_:=zz31 (hbox);have n2_:=zz31 ((by rw [hg];exact (zz5 (by repeat first | exact HB.out | apply zz2 | apply zz0 | apply zz1)):w.heap.size≤gb429));have n3_:=zz31 ((by rw [hg];exact (zz5 (by repeat first | exact HB.out | apply zz2 | apply zz0 | apply zz1)):w.heap.size≤gb429));clear HB;have HB:=n0_;have BK429:=n1_;have GW429:=n2_;have GE429:=n3_;clear n0_ n1_ n2_ n3_;clear hb hbox hg;have hcz11_0:w10.cell? ⟨gb429,0,none⟩=some (.int .i64 a0_0):=(zz9 BK429.out 0).trans rfl;have hcz11_1:w10.cell? ⟨gb429,1,none⟩=some (.slice A0_1 l0_1.length c0_1):=(zz9 BK429.out 1).trans rfl;have hfz11_0:=zz10 BK429.out 0;have hfz11_1:=zz10 BK429.out 1) | ((with_reducible refine gate_callee (f:=48) rfl ?_);refine goesL_ (some 7) rfl rfl Try.func48 (by kernel_rfl) rfl #[.agg #[.int .i64 a0_0,.slice A0_1 l0_1.length c0_1]] rfl (by (try simp only [zz26,zz27,zz28]);first | done | rfl | (simp only [zz24,zz25];rfl)) ?_;(with_reducible refine (spec_grFew.calls k a0_0 _ _ l0_1 false _ ?side1 ?side2 A2.out).mono ?_);(case side1=>repeat (first | exact (Kd.C_below HR0_1.out HB.out) | (with_reducible refine zz18 ?_ _) | (with_reducible refine zz19 ?_ _) | (with_reducible refine zz20 ?_)));(case side2=>exact HC0_1.out);rintro e w12 ⟨rfl,hb⟩;refine ⟨_,rfl,?_⟩;have n0_:=zz31 (zz11 (g:=gb429) (o:=.cells #[.int .i64 a0_0,.slice A0_1 l0_1.length c0_1] 31 (0,0)) (by (with_reducible repeat (first | refine zz6 ?_ _ | refine zz7 ?_ | refine zz8 ?_ _));exact BK429.out) hb);have n1_:=zz31 (zz4 (by repeat first | exact HB.out | apply zz2 | apply zz0 | apply zz1 | refine zz3 ?_ GE429.out) hb);clear BK429;clear HB;have BK429:=n0_;have HB:=n1_;clear n0_ n1_;(try clear hb);(try clear hb2);(try clear hk);(try clear hi)))
  go_ret2
  exact ⟨by first | rfl | (simp [errW_none,errW_some] <;> rfl) | (simp [*,errW_none,errW_some] <;> rfl),by repeat first | exact HB.out | apply zz2 | apply zz0 | apply zz1 | refine zz3 ?_ GE429.out⟩

/-! ### impl_FewestColours: function 22 -/
def impl_FewestColours.f (k:Nat) (a0_0:Int) (l0_1:List (S79)):Option (Int × Bool):=(impl_isFewColoured.f k a0_0 l0_1).bind fun t436=>(if t436=true then ((impl_Party_table.f k a0_0 l0_1).bind fun t437=>((impl_table_fewest.f t437).bind fun bt440=>(some (bt440.2,true)))) else (some (0,false)))
theorem impl_FewestColours.mono:∀ a0 a1 k,LeO (impl_FewestColours.f k a0 a1) (impl_FewestColours.f (k+1) a0 a1):=by
 intro a0 a1 k
 unfold impl_FewestColours.f
 repeat' first
   | (with_reducible exact impl_Party_table.mono _ _ _)
   | (with_reducible exact impl_isFewColoured.mono _ _ _)
   | (with_reducible exact LeO.refl _)
   | (with_reducible exact LeO.none _)
   | (with_reducible refine LeO.ite ?_ ?_)
   | (with_reducible refine LeO.bind ?_ (fun _=>?_))
   | exact impl_Party_table.mono _ _ _
   | exact impl_isFewColoured.mono _ _ _
   | exact LeO.none _
   | refine LeO.ite ?_ ?_
   | refine LeO.bind ?_ (fun _=>?_)
set_option maxHeartbeats 8000000 in
set_option maxRecDepth 100000 in
theorem impl_FewestColours.calls (k:Nat) (a0_0:Int) (A0_1:Option Addr) (c0_1:Nat) (l0_1:List (S79)) (r1:Int) (r2:Bool) (w:World) (hr0_1:Kd.C k79 w A0_1 l0_1.length l0_1) (hc0_1:l0_1.length≤c0_1) (h:impl_FewestColours.f k a0_0 l0_1=some (r1,r2)) :
  Calls Try.prog 22 #[.agg #[.int .i64 a0_0,.slice A0_1 l0_1.length c0_1]] w fun e w'=>e=.returned (.tuple #[.int .i64 r1,.bool r2])∧Below w.heap.size w w':=by
 have hu31:=Try.underlying31
 have HR0_1:=zz31 hr0_1
 have HC0_1:=zz31 hc0_1
 clear hr0_1 hc0_1
 have HB:=zz31 (Below.refl w.heap.size w)
 have H:((impl_isFewColoured.f k a0_0 l0_1).bind fun t436=>(if t436=true then ((impl_Party_table.f k a0_0 l0_1).bind fun t437=>((impl_table_fewest.f t437).bind fun bt440=>(some (bt440.2,true)))) else (some (0,false))))=some (r1,r2):=h
 clear h
 replace H:=zz30.mp H
 obtain ⟨t436,A20,H⟩:=H
 replace H:(if t436=true then ((impl_Party_table.f k a0_0 l0_1).bind fun t437=>((impl_table_fewest.f t437).bind fun bt440=>(some (bt440.2,true)))) else (some (0,false)))=some (r1,r2):=H
 have A2:=zz31 A20
 clear A20
 by_cases c3:t436=true
 ·subst c3
  have H1:((impl_Party_table.f k a0_0 l0_1).bind fun t437=>((impl_table_fewest.f t437).bind fun bt440=>(some (bt440.2,true))))=some (r1,r2):=by rw [if_pos rfl] at H;exact H
  clear H
  have H:=H1
  clear H1
  replace H:=zz30.mp H
  obtain ⟨t437,A40,H⟩:=H
  replace H:((impl_table_fewest.f t437).bind fun bt440=>(some (bt440.2,true)))=some (r1,r2):=H
  have A4:=zz31 A40
  clear A40
  replace H:=zz30.mp H
  obtain ⟨⟨t440,t441⟩,A50,H⟩:=H
  replace H:(some (t441,true))=some (r1,r2):=H
  have A5:=zz31 A50
  clear A50
  simp only [Option.some.injEq,Prod.mk.injEq] at H
  obtain ⟨rfl,rfl⟩:=H
  go_enter Try.func22,Try.ntmps22
  go_wp2_with (first | ((with_reducible refine gate_dst (N:=1) rfl ?_);refine box_event ?hg (N:=1) ?hd (cs:=#[.int .i64 a0_0,.slice A0_1 l0_1.length c0_1]) (t:=31) ?hr ?_;(case hd=>rfl);(case hg=>rfl);(case hr=>first | (go_simp;done) | (go_simp;rfl));intro gb435 hg w6 hbox hb;have n0_:=zz31 (zz4 (by repeat first | exact HB.out | apply zz2 | apply zz0 | apply zz1) hb);have n1_:=zz31 (hbox);have n2_:=zz31 ((by rw [hg];exact (zz5 (by repeat first | exact HB.out | apply zz2 | apply zz0 | apply zz1)):w.heap.size≤gb435));have n3_:=zz31 ((by rw [hg];exact (zz5 (by repeat first | exact HB.out | apply zz2 | apply zz0 | apply zz1)):w.heap.size≤gb435));clear HB;have HB:=n0_;have BK435:=n1_;have GW435:=n2_;have GE435:=n3_;clear n0_ n1_ n2_ n3_;clear hb hbox hg;have hcz7_0:w6.cell? ⟨gb435,0,none⟩=some (.int .i64 a0_0):=(zz9 BK435.out 0).trans rfl;have hcz7_1:w6.cell? ⟨gb435,1,none⟩=some (.slice A0_1 l0_1.length c0_1):=(zz9 BK435.out 1).trans rfl;have hfz7_0:=zz10 BK435.out 0;have hfz7_1:=zz10 BK435.out 1) | ((with_reducible refine gate_callee (f:=51) rfl ?_);refine goesL_ (some 7) rfl rfl Try.func51 (by kernel_rfl) rfl #[.agg #[.int .i64 a0_0,.slice A0_1 l0_1.length c0_1]] rfl (by (try simp only [zz26,zz27,zz28]);first | done | rfl | (simp only [zz24,zz25];rfl)) ?_;(with_reducible refine (impl_isFewColoured.calls k a0_0 _ _ l0_1 true _ ?side1 ?side2 A2.out).mono ?_);(case side1=>repeat (first | exact (Kd.C_below HR0_1.out HB.out) | (with_reducible refine zz18 ?_ _) | (with_reducible refine zz19 ?_ _) | (with_reducible refine zz20 ?_)));(case side2=>exact HC0_1.out);rintro e w8 ⟨rfl,hb⟩;refine ⟨_,rfl,?_⟩;have n0_:=zz31 (zz11 (g:=gb435) (o:=.cells #[.int .i64 a0_0,.slice A0_1 l0_1.length c0_1] 31 (0,0)) (by (with_reducible repeat (first | refine zz6 ?_ _ | refine zz7 ?_ | refine zz8 ?_ _));exact BK435.out) hb);have n1_:=zz31 (zz4 (by repeat first | exact HB.out | apply zz2 | apply zz0 | apply zz1 | refine zz3 ?_ GE435.out) hb);clear BK435;clear HB;have BK435:=n0_;have HB:=n1_;clear n0_ n1_;(try clear hb);(try clear hb2);(try clear hk);(try clear hi);have hcz9_0:w8.cell? ⟨gb435,0,none⟩=some (.int .i64 a0_0):=(zz9 BK435.out 0).trans rfl;have hcz9_1:w8.cell? ⟨gb435,1,none⟩=some (.slice A0_1 l0_1.length c0_1):=(zz9 BK435.out 1).trans rfl;have hfz9_0:=zz10 BK435.out 0;have hfz9_1:=zz10 BK435.out 1) | ((with_reducible refine gate_callee (f:=41) rfl ?_);refine goesL_ (some 11) rfl rfl Try.func41 (by kernel_rfl) rfl #[.agg #[.int .i64 a0_0,.slice A0_1 l0_1.length c0_1]] rfl (by (try simp only [zz26,zz27,zz28]);first | done | rfl | (simp only [zz24,zz25];rfl)) ?_;(with_reducible refine (impl_Party_table.calls k a0_0 _ _ l0_1 t437 _ ?side1 ?side2 A4.out).mono ?_);(case side1=>repeat (first | exact (Kd.C_below HR0_1.out HB.out) | (with_reducible refine zz18 ?_ _) | (with_reducible refine zz19 ?_ _) | (with_reducible refine zz20 ?_)));(case side2=>exact HC0_1.out);rintro e w10 ⟨v438,rfl,ho0,hb⟩;refine ⟨_,rfl,?_⟩;have n0_:=zz31 (Kd.R_lower ho0 (zz5 (by repeat first | exact HB.out | apply zz2 | apply zz0 | apply zz1 | refine zz3 ?_ GE435.out)));have n1_:=zz31 (zz11 (g:=gb435) (o:=.cells #[.int .i64 a0_0,.slice A0_1 l0_1.length c0_1] 31 (0,0)) (by (with_reducible repeat (first | refine zz6 ?_ _ | refine zz7 ?_ | refine zz8 ?_ _));exact BK435.out) hb);have n2_:=zz31 (zz4 (by repeat first | exact HB.out | apply zz2 | apply zz0 | apply zz1 | refine zz3 ?_ GE435.out) hb);clear BK435;clear HB;have HO439:=n0_;have BK435:=n1_;have HB:=n2_;clear n0_ n1_ n2_;(try clear hb);(try clear hb2);(try clear hk);(try clear hi);(try clear ho0);obtain ⟨Ao11,co11,eo11⟩:=Kd.R_slice HO439.out;subst eo11) | ((with_reducible refine gate_callee (f:=56) rfl ?_);refine goesL_ (some 12) rfl rfl Try.func56 (by kernel_rfl) rfl #[.slice Ao11 t437.length co11] rfl (by (try simp only [zz26,zz27,zz28]);first | done | rfl | (simp only [zz24,zz25];rfl)) ?_;(with_reducible refine (impl_table_fewest.calls _ _ t437 t440 t441 _ ?side1 ?side2 A5.out).mono ?_);(case side1=>repeat (first | exact (Kd.R_reads' HO439.out).2.2 | (with_reducible refine zz18 ?_ _) | (with_reducible refine zz19 ?_ _) | (with_reducible refine zz20 ?_)));(case side2=>exact (Kd.R_reads' HO439.out).2.1);rintro e w12 ⟨v442,rfl,ho0,hb⟩;refine ⟨_,rfl,?_⟩;have n0_:=zz31 (Kd.R_below (by (with_reducible repeat (first | apply zz12 | apply zz13 | apply zz14));exact HO439.out) hb);have n1_:=zz31 (Kd.R_lower ho0 (zz5 (by repeat first | exact HB.out | apply zz2 | apply zz0 | apply zz1 | refine zz3 ?_ GE435.out)));have n2_:=zz31 (zz11 (g:=gb435) (o:=.cells #[.int .i64 a0_0,.slice A0_1 l0_1.length c0_1] 31 (0,0)) (by (with_reducible repeat (first | refine zz6 ?_ _ | refine zz7 ?_ | refine zz8 ?_ _));exact BK435.out) hb);have n3_:=zz31 (zz4 (by repeat first | exact HB.out | apply zz2 | apply zz0 | apply zz1 | refine zz3 ?_ GE435.out) hb);clear HO439;clear BK435;clear HB;have HO439:=n0_;have HO443:=n1_;have BK435:=n2_;have HB:=n3_;clear n0_ n1_ n2_ n3_;(try clear hb);(try clear hb2);(try clear hk);(try clear hi);(try clear ho0)))
  go_ret2
  exact ⟨by first | rfl | (simp [errW_none,errW_some] <;> rfl) | (simp [*,errW_none,errW_some] <;> rfl),by repeat first | exact HB.out | apply zz2 | apply zz0 | apply zz1 | refine zz3 ?_ GE435.out⟩
 ·replace c3:=Bool.eq_false_iff.mpr c3
  subst c3
  have H1:(some (0,false))=some (r1,r2):=by rw [if_neg (show ¬ (false=true) by decide)] at H;exact H
  clear H
  have H:=H1
  clear H1
  simp only [Option.some.injEq,Prod.mk.injEq] at H
  obtain ⟨rfl,rfl⟩:=H
  go_enter Try.func22,Try.ntmps22
  go_wp2_with (first | ((with_reducible refine gate_dst (N:=1) rfl ?_);refine box_event ?hg (N:=1) ?hd (cs:=#[.int .i64 a0_0,.slice A0_1 l0_1.length c0_1]) (t:=31) ?hr ?_;(case hd=>rfl);(case hg=>rfl);(case hr=>first | (go_simp;done) | (go_simp;rfl));intro gb435 hg w13 hbox hb;have n0_:=zz31 (zz4 (by repeat first | exact HB.out | apply zz2 | apply zz0 | apply zz1) hb);have n1_:=zz31 (hbox);have n2_:=zz31 ((by rw [hg];exact (zz5 (by repeat first | exact HB.out | apply zz2 | apply zz0 | apply zz1)):w.heap.size≤gb435));have n3_:=zz31 ((by rw [hg];exact (zz5 (by repeat first | exact HB.out | apply zz2 | apply zz0 | apply zz1)):w.heap.size≤gb435));clear HB;have HB:=n0_;have BK435:=n1_;have GW435:=n2_;have GE435:=n3_;clear n0_ n1_ n2_ n3_;clear hb hbox hg;have hcz14_0:w13.cell? ⟨gb435,0,none⟩=some (.int .i64 a0_0):=(zz9 BK435.out 0).trans rfl;have hcz14_1:w13.cell? ⟨gb435,1,none⟩=some (.slice A0_1 l0_1.length c0_1):=(zz9 BK435.out 1).trans rfl;have hfz14_0:=zz10 BK435.out 0;have hfz14_1:=zz10 BK435.out 1) | ((with_reducible refine gate_callee (f:=51) rfl ?_);refine goesL_ (some 7) rfl rfl Try.func51 (by kernel_rfl) rfl #[.agg #[.int .i64 a0_0,.slice A0_1 l0_1.length c0_1]] rfl (by (try simp only [zz26,zz27,zz28]);first | done | rfl | (simp only [zz24,zz25];rfl)) ?_;(with_reducible refine (impl_isFewColoured.calls k a0_0 _ _ l0_1 false _ ?side1 ?side2 A2.out).mono ?_);(case side1=>repeat (first | exact (Kd.C_below HR0_1.out HB.out) | (with_reducible refine zz18 ?_ _) | (with_reducible refine zz19 ?_ _) | (with_reducible refine zz20 ?_)));(case side2=>exact HC0_1.out);rintro e w15 ⟨rfl,hb⟩;refine ⟨_,rfl,?_⟩;have n0_:=zz31 (zz11 (g:=gb435) (o:=.cells #[.int .i64 a0_0,.slice A0_1 l0_1.length c0_1] 31 (0,0)) (by (with_reducible repeat (first | refine zz6 ?_ _ | refine zz7 ?_ | refine zz8 ?_ _));exact BK435.out) hb);have n1_:=zz31 (zz4 (by repeat first | exact HB.out | apply zz2 | apply zz0 | apply zz1 | refine zz3 ?_ GE435.out) hb);clear BK435;clear HB;have BK435:=n0_;have HB:=n1_;clear n0_ n1_;(try clear hb);(try clear hb2);(try clear hk);(try clear hi)))
  go_ret2
  exact ⟨by first | rfl | (simp [errW_none,errW_some] <;> rfl) | (simp [*,errW_none,errW_some] <;> rfl),by repeat first | exact HB.out | apply zz2 | apply zz0 | apply zz1 | refine zz3 ?_ GE435.out⟩

/-! ### laws_FnExactFewestColours: function 5 -/
def laws_FnExactFewestColours.j0:Nat→Bool→Int→List (S81)→Int→List (S79)→Option (Bool)
 | 0,_,_,_,_,_=>none
 | k+1,x34,x445000,x445001,x457000,x457001=>if x34=true then (some false) else ((laws_toParty.f k x445000 x445001).bind fun bt459=>((laws_eqParty.f k x457000 x457001 bt459.1 bt459.2).bind fun t463=>(if t463=true then (some true) else (some false))))
def laws_FnExactFewestColours.f (k:Nat) (a0_0:Int) (l0_1:List (S81)):Option (Bool):=(laws_szParty.f a0_0 l0_1 1048576).bind fun t445=>(if t445 < 0 then (some true) else ((laws_toParty.f k a0_0 l0_1).bind fun bt446=>((spec_FewestColours.f k bt446.1 bt446.2).bind fun bt450=>((laws_toParty.f k a0_0 l0_1).bind fun bt452=>((impl_FewestColours.f k bt452.1 bt452.2).bind fun bt457=>(if bt457.1=bt450.1 then (laws_FnExactFewestColours.j0 k (bt457.2 != bt450.2) a0_0 l0_1 bt452.1 bt452.2) else (laws_FnExactFewestColours.j0 k true a0_0 l0_1 bt452.1 bt452.2)))))))
theorem laws_FnExactFewestColours.mono_l:∀ k,(∀ y0 y1 y2 y3 y4,LeO (laws_FnExactFewestColours.j0 k y0 y1 y2 y3 y4) (laws_FnExactFewestColours.j0 (k+1) y0 y1 y2 y3 y4))
 | 0=>fun _ _ _ _ _ r h=>by simp [laws_FnExactFewestColours.j0] at h
 | k+1=>by
  have ih0:=laws_FnExactFewestColours.mono_l k
  ·intro y0 y1 y2 y3 y4
   unfold laws_FnExactFewestColours.j0
   repeat' first
   | (with_reducible exact ih0 _ _ _ _ _)
   | (with_reducible exact impl_FewestColours.mono _ _ _)
   | (with_reducible exact laws_eqParty.mono _ _ _ _ _)
   | (with_reducible exact laws_toParty.mono _ _ _)
   | (with_reducible exact spec_FewestColours.mono _ _ _)
   | (with_reducible exact LeO.refl _)
   | (with_reducible exact LeO.none _)
   | (with_reducible refine LeO.ite ?_ ?_)
   | (with_reducible refine LeO.bind ?_ (fun _=>?_))
   | exact ih0 _ _ _ _ _
   | exact impl_FewestColours.mono _ _ _
   | exact laws_eqParty.mono _ _ _ _ _
   | exact laws_toParty.mono _ _ _
   | exact spec_FewestColours.mono _ _ _
   | exact LeO.none _
   | refine LeO.ite ?_ ?_
   | refine LeO.bind ?_ (fun _=>?_)
theorem laws_FnExactFewestColours.mono:∀ a0 a1 k,LeO (laws_FnExactFewestColours.f k a0 a1) (laws_FnExactFewestColours.f (k+1) a0 a1):=by
 intro a0 a1 k
 have ih0:=laws_FnExactFewestColours.mono_l k
 unfold laws_FnExactFewestColours.f
 repeat' first
   | (with_reducible exact ih0 _ _ _ _ _)
   | (with_reducible exact impl_FewestColours.mono _ _ _)
   | (with_reducible exact laws_eqParty.mono _ _ _ _ _)
   | (with_reducible exact laws_toParty.mono _ _ _)
   | (with_reducible exact spec_FewestColours.mono _ _ _)
   | (with_reducible exact LeO.refl _)
   | (with_reducible exact LeO.none _)
   | (with_reducible refine LeO.ite ?_ ?_)
   | (with_reducible refine LeO.bind ?_ (fun _=>?_))
   | exact ih0 _ _ _ _ _
   | exact impl_FewestColours.mono _ _ _
   | exact laws_eqParty.mono _ _ _ _ _
   | exact laws_toParty.mono _ _ _
   | exact spec_FewestColours.mono _ _ _
   | exact LeO.none _
   | refine LeO.ite ?_ ?_
   | refine LeO.bind ?_ (fun _=>?_)
set_option maxHeartbeats 8000000 in
set_option maxRecDepth 100000 in
theorem laws_FnExactFewestColours.calls (k:Nat) (a0_0:Int) (A0_1:Option Addr) (c0_1:Nat) (l0_1:List (S81)) (r:Bool) (w:World) (hr0_1:Kd.C k81 w A0_1 l0_1.length l0_1) (hc0_1:l0_1.length≤c0_1) (h:laws_FnExactFewestColours.f k a0_0 l0_1=some r) :
  Calls Try.prog 5 #[.agg #[.int .i64 a0_0,.slice A0_1 l0_1.length c0_1]] w fun e w'=>e=.returned (.bool r)∧Below w.heap.size w w':=by
 have hu24:=Try.underlying24
 have hu31:=Try.underlying31
 have HR0_1:=zz31 hr0_1
 have HC0_1:=zz31 hc0_1
 clear hr0_1 hc0_1
 have HB:=zz31 (Below.refl w.heap.size w)
 have H:((laws_szParty.f a0_0 l0_1 1048576).bind fun t445=>(if t445 < 0 then (some true) else ((laws_toParty.f k a0_0 l0_1).bind fun bt446=>((spec_FewestColours.f k bt446.1 bt446.2).bind fun bt450=>((laws_toParty.f k a0_0 l0_1).bind fun bt452=>((impl_FewestColours.f k bt452.1 bt452.2).bind fun bt457=>(if bt457.1=bt450.1 then (laws_FnExactFewestColours.j0 k (bt457.2 != bt450.2) a0_0 l0_1 bt452.1 bt452.2) else (laws_FnExactFewestColours.j0 k true a0_0 l0_1 bt452.1 bt452.2))))))))=some r:=h
 clear h
 replace H:=zz30.mp H
 obtain ⟨t445,A20,H⟩:=H
 replace H:(if t445 < 0 then (some true) else ((laws_toParty.f k a0_0 l0_1).bind fun bt446=>((spec_FewestColours.f k bt446.1 bt446.2).bind fun bt450=>((laws_toParty.f k a0_0 l0_1).bind fun bt452=>((impl_FewestColours.f k bt452.1 bt452.2).bind fun bt457=>(if bt457.1=bt450.1 then (laws_FnExactFewestColours.j0 k (bt457.2 != bt450.2) a0_0 l0_1 bt452.1 bt452.2) else (laws_FnExactFewestColours.j0 k true a0_0 l0_1 bt452.1 bt452.2)))))))=some r:=H
 have A2:=zz31 A20
 clear A20
 by_cases c3:t445 < 0
 ·rw [if_pos c3] at H
  have c3b0:decide (t445 < 0)=true:=decide_eq_true c3
  clear c3
  obtain rfl:=Option.some.inj H
  go_enter Try.func5,Try.ntmps5
  go_wp2_with (first | ((with_reducible refine gate_dst (N:=1) rfl ?_);refine box_event ?hg (N:=1) ?hd (cs:=#[.int .i64 a0_0,.slice A0_1 l0_1.length c0_1]) (t:=24) ?hr ?_;(case hd=>rfl);(case hg=>rfl);(case hr=>first | (go_simp;done) | (go_simp;rfl));intro gb444 hg w4 hbox hb;have n0_:=zz31 (zz4 (by repeat first | exact HB.out | apply zz2 | apply zz0 | apply zz1) hb);have n1_:=zz31 (hbox);have n2_:=zz31 ((by rw [hg];exact (zz5 (by repeat first | exact HB.out | apply zz2 | apply zz0 | apply zz1)):w.heap.size≤gb444));have n3_:=zz31 ((by rw [hg];exact (zz5 (by repeat first | exact HB.out | apply zz2 | apply zz0 | apply zz1)):w.heap.size≤gb444));clear HB;have HB:=n0_;have BK444:=n1_;have GW444:=n2_;have GE444:=n3_;clear n0_ n1_ n2_ n3_;clear hb hbox hg;have hcz5_0:w4.cell? ⟨gb444,0,none⟩=some (.int .i64 a0_0):=(zz9 BK444.out 0).trans rfl;have hcz5_1:w4.cell? ⟨gb444,1,none⟩=some (.slice A0_1 l0_1.length c0_1):=(zz9 BK444.out 1).trans rfl;have hfz5_0:=zz10 BK444.out 0;have hfz5_1:=zz10 BK444.out 1) | ((with_reducible refine gate_callee (f:=9) rfl ?_);refine goesL_ (some 11) rfl rfl Try.func9 (by kernel_rfl) rfl #[.agg #[.int .i64 a0_0,.slice A0_1 l0_1.length c0_1],.int .i64 1048576] rfl (by (try simp only [zz26,zz27,zz28]);first | done | rfl | (simp only [zz24,zz25];rfl)) ?_;(with_reducible refine (laws_szParty.calls a0_0 _ _ l0_1 1048576 t445 _ ?side1 ?side2 A2.out).mono ?_);(case side1=>repeat (first | exact (Kd.C_below HR0_1.out HB.out) | (with_reducible refine zz18 ?_ _) | (with_reducible refine zz19 ?_ _) | (with_reducible refine zz20 ?_)));(case side2=>exact HC0_1.out);rintro e w6 ⟨rfl,hb⟩;refine ⟨_,rfl,?_⟩;have n0_:=zz31 (zz11 (g:=gb444) (o:=.cells #[.int .i64 a0_0,.slice A0_1 l0_1.length c0_1] 24 (0,0)) (by (with_reducible repeat (first | refine zz6 ?_ _ | refine zz7 ?_ | refine zz8 ?_ _));exact BK444.out) hb);have n1_:=zz31 (zz4 (by repeat first | exact HB.out | apply zz2 | apply zz0 | apply zz1 | refine zz3 ?_ GE444.out) hb);clear BK444;clear HB;have BK444:=n0_;have HB:=n1_;clear n0_ n1_;(try clear hb);(try clear hb2);(try clear hk);(try clear hi)))
  go_ret
  exact ⟨by first | rfl | (simp [errW_none,errW_some] <;> rfl) | (simp [*,errW_none,errW_some] <;> rfl),by repeat first | exact HB.out | apply zz2 | apply zz0 | apply zz1 | refine zz3 ?_ GE444.out⟩
 ·rw [if_neg c3] at H
  have c3b0:decide (t445 < 0)=false:=decide_eq_false c3
  clear c3
  replace H:=zz30.mp H
  obtain ⟨⟨t446,t447⟩,A70,H⟩:=H
  replace H:((spec_FewestColours.f k t446 t447).bind fun bt450=>((laws_toParty.f k a0_0 l0_1).bind fun bt452=>((impl_FewestColours.f k bt452.1 bt452.2).bind fun bt457=>(if bt457.1=bt450.1 then (laws_FnExactFewestColours.j0 k (bt457.2 != bt450.2) a0_0 l0_1 bt452.1 bt452.2) else (laws_FnExactFewestColours.j0 k true a0_0 l0_1 bt452.1 bt452.2)))))=some r:=H
  have A7:=zz31 A70
  clear A70
  replace H:=zz30.mp H
  obtain ⟨⟨t450,t451⟩,A80,H⟩:=H
  replace H:((laws_toParty.f k a0_0 l0_1).bind fun bt452=>((impl_FewestColours.f k bt452.1 bt452.2).bind fun bt457=>(if bt457.1=t450 then (laws_FnExactFewestColours.j0 k (bt457.2 != t451) a0_0 l0_1 bt452.1 bt452.2) else (laws_FnExactFewestColours.j0 k true a0_0 l0_1 bt452.1 bt452.2))))=some r:=H
  have A8:=zz31 A80
  clear A80
  replace H:=zz30.mp H
  obtain ⟨⟨t452,t453⟩,A90,H⟩:=H
  replace H:((impl_FewestColours.f k t452 t453).bind fun bt457=>(if bt457.1=t450 then (laws_FnExactFewestColours.j0 k (bt457.2 != t451) a0_0 l0_1 t452 t453) else (laws_FnExactFewestColours.j0 k true a0_0 l0_1 t452 t453)))=some r:=H
  have A9:=zz31 A90
  clear A90
  replace H:=zz30.mp H
  obtain ⟨⟨t457,t458⟩,A100,H⟩:=H
  replace H:(if t457=t450 then (laws_FnExactFewestColours.j0 k (t458 != t451) a0_0 l0_1 t452 t453) else (laws_FnExactFewestColours.j0 k true a0_0 l0_1 t452 t453))=some r:=H
  have A10:=zz31 A100
  clear A100
  have HC11:=zz31 H
  clear H
  go_enter Try.func5,Try.ntmps5
  go_upto_region 8 with (first | ((with_reducible refine gate_dst (N:=1) rfl ?_);refine box_event ?hg (N:=1) ?hd (cs:=#[.int .i64 a0_0,.slice A0_1 l0_1.length c0_1]) (t:=24) ?hr ?_;(case hd=>rfl);(case hg=>rfl);(case hr=>first | (go_simp;done) | (go_simp;rfl));intro gb444 hg w12 hbox hb;have n0_:=zz31 (zz4 (by repeat first | exact HB.out | apply zz2 | apply zz0 | apply zz1) hb);have n1_:=zz31 (hbox);have n2_:=zz31 ((by rw [hg];exact (zz5 (by repeat first | exact HB.out | apply zz2 | apply zz0 | apply zz1)):w.heap.size≤gb444));have n3_:=zz31 ((by rw [hg];exact (zz5 (by repeat first | exact HB.out | apply zz2 | apply zz0 | apply zz1)):w.heap.size≤gb444));clear HB;have HB:=n0_;have BK444:=n1_;have GW444:=n2_;have GE444:=n3_;clear n0_ n1_ n2_ n3_;clear hb hbox hg;have hcz13_0:w12.cell? ⟨gb444,0,none⟩=some (.int .i64 a0_0):=(zz9 BK444.out 0).trans rfl;have hcz13_1:w12.cell? ⟨gb444,1,none⟩=some (.slice A0_1 l0_1.length c0_1):=(zz9 BK444.out 1).trans rfl;have hfz13_0:=zz10 BK444.out 0;have hfz13_1:=zz10 BK444.out 1) | ((with_reducible refine gate_callee (f:=9) rfl ?_);refine goesL_ (some 11) rfl rfl Try.func9 (by kernel_rfl) rfl #[.agg #[.int .i64 a0_0,.slice A0_1 l0_1.length c0_1],.int .i64 1048576] rfl (by (try simp only [zz26,zz27,zz28]);first | done | rfl | (simp only [zz24,zz25];rfl)) ?_;(with_reducible refine (laws_szParty.calls a0_0 _ _ l0_1 1048576 t445 _ ?side1 ?side2 A2.out).mono ?_);(case side1=>repeat (first | exact (Kd.C_below HR0_1.out HB.out) | (with_reducible refine zz18 ?_ _) | (with_reducible refine zz19 ?_ _) | (with_reducible refine zz20 ?_)));(case side2=>exact HC0_1.out);rintro e w14 ⟨rfl,hb⟩;refine ⟨_,rfl,?_⟩;have n0_:=zz31 (zz11 (g:=gb444) (o:=.cells #[.int .i64 a0_0,.slice A0_1 l0_1.length c0_1] 24 (0,0)) (by (with_reducible repeat (first | refine zz6 ?_ _ | refine zz7 ?_ | refine zz8 ?_ _));exact BK444.out) hb);have n1_:=zz31 (zz4 (by repeat first | exact HB.out | apply zz2 | apply zz0 | apply zz1 | refine zz3 ?_ GE444.out) hb);clear BK444;clear HB;have BK444:=n0_;have HB:=n1_;clear n0_ n1_;(try clear hb);(try clear hb2);(try clear hk);(try clear hi);have hcz15_0:w14.cell? ⟨gb444,0,none⟩=some (.int .i64 a0_0):=(zz9 BK444.out 0).trans rfl;have hcz15_1:w14.cell? ⟨gb444,1,none⟩=some (.slice A0_1 l0_1.length c0_1):=(zz9 BK444.out 1).trans rfl;have hfz15_0:=zz10 BK444.out 0;have hfz15_1:=zz10 BK444.out 1) | ((with_reducible refine gate_callee (f:=11) rfl ?_);refine goesL_ (some 16) rfl rfl Try.func11 (by kernel_rfl) rfl #[.agg #[.int .i64 a0_0,.slice A0_1 l0_1.length c0_1]] rfl (by (try simp only [zz26,zz27,zz28]);first | done | rfl | (simp only [zz24,zz25];rfl)) ?_;(with_reducible refine (laws_toParty.calls k a0_0 _ _ l0_1 t446 t447 _ ?side1 ?side2 A7.out).mono ?_);(case side1=>repeat (first | exact (Kd.C_below HR0_1.out HB.out) | (with_reducible refine zz18 ?_ _) | (with_reducible refine zz19 ?_ _) | (with_reducible refine zz20 ?_)));(case side2=>exact HC0_1.out);rintro e w16 ⟨v448,rfl,ho0,hb⟩;refine ⟨_,rfl,?_⟩;have n0_:=zz31 (Kd.R_lower ho0 (zz5 (by repeat first | exact HB.out | apply zz2 | apply zz0 | apply zz1 | refine zz3 ?_ GE444.out)));have n1_:=zz31 (zz11 (g:=gb444) (o:=.cells #[.int .i64 a0_0,.slice A0_1 l0_1.length c0_1] 24 (0,0)) (by (with_reducible repeat (first | refine zz6 ?_ _ | refine zz7 ?_ | refine zz8 ?_ _));exact BK444.out) hb);have n2_:=zz31 (zz4 (by repeat first | exact HB.out | apply zz2 | apply zz0 | apply zz1 | refine zz3 ?_ GE444.out) hb);clear BK444;clear HB;have HO449:=n0_;have BK444:=n1_;have HB:=n2_;clear n0_ n1_ n2_;(try clear hb);(try clear hb2);(try clear hk);(try clear hi);(try clear ho0);obtain ⟨Ao17,co17,eo17⟩:=Kd.R_slice HO449.out;subst eo17) | ((with_reducible refine gate_callee (f:=21) rfl ?_);refine goesL_ (some 17) rfl rfl Try.func21 (by kernel_rfl) rfl #[.agg #[.int .i64 t446,.slice Ao17 t447.length co17]] rfl (by (try simp only [zz26,zz27,zz28]);first | done | rfl | (simp only [zz24,zz25];rfl)) ?_;(with_reducible refine (spec_FewestColours.calls k t446 _ _ t447 t450 t451 _ ?side1 ?side2 A8.out).mono ?_);(case side1=>repeat (first | exact (Kd.R_reads' HO449.out).2.2 | (with_reducible refine zz18 ?_ _) | (with_reducible refine zz19 ?_ _) | (with_reducible refine zz20 ?_)));(case side2=>exact (Kd.R_reads' HO449.out).2.1);rintro e w18 ⟨rfl,hb⟩;refine ⟨_,rfl,?_⟩;have n0_:=zz31 (Kd.R_below (by (with_reducible repeat (first | apply zz12 | apply zz13 | apply zz14));exact HO449.out) hb);have n1_:=zz31 (zz11 (g:=gb444) (o:=.cells #[.int .i64 a0_0,.slice A0_1 l0_1.length c0_1] 24 (0,0)) (by (with_reducible repeat (first | refine zz6 ?_ _ | refine zz7 ?_ | refine zz8 ?_ _));exact BK444.out) hb);have n2_:=zz31 (zz4 (by repeat first | exact HB.out | apply zz2 | apply zz0 | apply zz1 | refine zz3 ?_ GE444.out) hb);clear HO449;clear BK444;clear HB;have HO449:=n0_;have BK444:=n1_;have HB:=n2_;clear n0_ n1_ n2_;(try clear hb);(try clear hb2);(try clear hk);(try clear hi);have hcz19_0:w18.cell? ⟨gb444,0,none⟩=some (.int .i64 a0_0):=(zz9 BK444.out 0).trans rfl;have hcz19_1:w18.cell? ⟨gb444,1,none⟩=some (.slice A0_1 l0_1.length c0_1):=(zz9 BK444.out 1).trans rfl;have hfz19_0:=zz10 BK444.out 0;have hfz19_1:=zz10 BK444.out 1) | ((with_reducible refine gate_callee (f:=11) rfl ?_);refine goesL_ (some 21) rfl rfl Try.func11 (by kernel_rfl) rfl #[.agg #[.int .i64 a0_0,.slice A0_1 l0_1.length c0_1]] rfl (by (try simp only [zz26,zz27,zz28]);first | done | rfl | (simp only [zz24,zz25];rfl)) ?_;(with_reducible refine (laws_toParty.calls k a0_0 _ _ l0_1 t452 t453 _ ?side1 ?side2 A9.out).mono ?_);(case side1=>repeat (first | exact (Kd.C_below HR0_1.out HB.out) | (with_reducible refine zz18 ?_ _) | (with_reducible refine zz19 ?_ _) | (with_reducible refine zz20 ?_)));(case side2=>exact HC0_1.out);rintro e w20 ⟨v454,rfl,ho0,hb⟩;refine ⟨_,rfl,?_⟩;have n0_:=zz31 (Kd.R_elder' (by (with_reducible repeat (first | apply zz12 | apply zz13 | apply zz14));exact HO449.out) (Kd.R_base ho0) hb);have n1_:=zz31 (Kd.R_lower (Kd.R_new' ho0 (Kd.R_lt (by (with_reducible repeat (first | apply zz12 | apply zz13 | apply zz14));exact HO449.out))) (zz5 (by repeat first | exact HB.out | apply zz2 | apply zz0 | apply zz1 | refine zz3 ?_ GE444.out)));have n2_:=zz31 (zz11 (g:=gb444) (o:=.cells #[.int .i64 a0_0,.slice A0_1 l0_1.length c0_1] 24 (0,0)) (by (with_reducible repeat (first | refine zz6 ?_ _ | refine zz7 ?_ | refine zz8 ?_ _));exact BK444.out) hb);have n3_:=zz31 (zz4 (by repeat first | exact HB.out | apply zz2 | apply zz0 | apply zz1 | refine zz3 ?_ GE444.out) hb);clear HO449;clear BK444;clear HB;have HO449:=n0_;have HO455:=n1_;have BK444:=n2_;have HB:=n3_;clear n0_ n1_ n2_ n3_;(try clear hb);(try clear hb2);(try clear hk);(try clear hi);(try clear ho0)) | ((with_reducible refine gate_dst (N:=6) rfl ?_);refine box_event ?hg (N:=6) ?hd (cs:=#[.int .i64 0,.slice none 0 0]) (t:=31) ?hr ?_;(case hd=>rfl);(case hg=>rfl);(case hr=>first | (go_simp;done) | (go_simp;rfl));intro gb456 hg w21 hbox hb;have n0_:=zz31 (Kd.R_below (by (with_reducible repeat (first | apply zz12 | apply zz13 | apply zz14));exact HO449.out) hb);have n1_:=zz31 (Kd.R_below (by (with_reducible repeat (first | apply zz12 | apply zz13 | apply zz14));exact HO455.out) hb);have n2_:=zz31 (zz11 (g:=gb444) (o:=.cells #[.int .i64 a0_0,.slice A0_1 l0_1.length c0_1] 24 (0,0)) (by (with_reducible repeat (first | refine zz6 ?_ _ | refine zz7 ?_ | refine zz8 ?_ _));exact BK444.out) hb);have n3_:=zz31 (zz4 (by repeat first | exact HB.out | apply zz2 | apply zz0 | apply zz1 | refine zz3 ?_ GE444.out) hb);have n4_:=zz31 (hbox);have n5_:=zz31 ((by rw [hg];exact (zz5 (by repeat first | exact HB.out | apply zz2 | apply zz0 | apply zz1 | refine zz3 ?_ GE444.out)):w.heap.size≤gb456));have n6_:=zz31 ((by rw [hg];exact (zz5 (by repeat first | exact HB.out | apply zz2 | apply zz0 | apply zz1 | refine zz3 ?_ GE444.out)):w.heap.size≤gb456));have n7_:=zz31 ((by rw [hg];exact Nat.ne_of_lt (blk_lt (g:=gb444) (o:=.cells #[.int .i64 a0_0,.slice A0_1 l0_1.length c0_1] 24 (0,0)) (by (with_reducible repeat (first | refine zz6 ?_ _ | refine zz7 ?_ | refine zz8 ?_ _));exact BK444.out)):gb444 ≠ gb456));have n8_:=zz31 ((by rw [hg];exact Nat.ne_of_gt (blk_lt (g:=gb444) (o:=.cells #[.int .i64 a0_0,.slice A0_1 l0_1.length c0_1] 24 (0,0)) (by (with_reducible repeat (first | refine zz6 ?_ _ | refine zz7 ?_ | refine zz8 ?_ _));exact BK444.out)):gb456 ≠ gb444));clear HO449;clear HO455;clear BK444;clear HB;have HO449:=n0_;have HO455:=n1_;have BK444:=n2_;have HB:=n3_;have BK456:=n4_;have GW456:=n5_;have GE456:=n6_;have NB444_456:=n7_;have NB456_444:=n8_;clear n0_ n1_ n2_ n3_ n4_ n5_ n6_ n7_ n8_;clear hb hbox hg;have hnb22:=NB456_444.out;have hnc22:=NB444_456.out;have hcz23_0:w21.cell? ⟨gb456,0,none⟩=some (.int .i64 0):=(zz9 BK456.out 0).trans rfl;have hcz23_1:w21.cell? ⟨gb456,1,none⟩=some (.slice none 0 0):=(zz9 BK456.out 1).trans rfl;have hfz23_0:=zz10 BK456.out 0;have hfz23_1:=zz10 BK456.out 1;obtain ⟨Ao24,co24,eo24⟩:=Kd.R_slice HO455.out;subst eo24) | ((with_reducible refine gate_callee (f:=22) rfl ?_);refine goesL_ (some 24) rfl rfl Try.func22 (by kernel_rfl) rfl #[.agg #[.int .i64 t452,.slice Ao24 t453.length co24]] rfl (by (try simp only [zz26,zz27,zz28]);first | done | rfl | (simp only [zz24,zz25];rfl)) ?_;(with_reducible refine (impl_FewestColours.calls k t452 _ _ t453 t457 t458 _ ?side1 ?side2 A10.out).mono ?_);(case side1=>refine (Kd.R_reads' (e:=79) (base:=w.heap.size) (ok:=fun k_=>(True∧some k_ ≠ (.slice Ao17 t447.length co17:Value).ownBlock)) (n:=t453.length) (c:=co24) ?_).2.2;exact (by (with_reducible repeat (first | apply zz12 | apply zz13 | apply zz14));exact (Kd.R_mono (Kd.R_far (p:=⟨gb456,1,none⟩) (Kd.R_far (p:=⟨gb456,0,none⟩) (Kd.R_types HO455.out BK456.out (by decide)) (fun _ hk=>hk.2) (.int .i64 t452)) (fun _ hk=>hk.2) (.slice Ao24 t453.length co24)) (fun _ h_=>h_.1))));(case side2=>exact (Kd.R_reads' HO455.out).2.1);rintro e w25 ⟨rfl,hb⟩;refine ⟨_,rfl,?_⟩;have n0_:=zz31 (Kd.R_below (by (with_reducible repeat (first | apply zz12 | apply zz13 | apply zz14));exact (Kd.R_mono (Kd.R_far (p:=⟨gb456,1,none⟩) (Kd.R_far (p:=⟨gb456,0,none⟩) (Kd.R_types HO449.out BK456.out (by decide)) (fun _ hk=>hk.2) (.int .i64 t452)) (fun _ hk=>hk.2) (.slice Ao24 t453.length co24)) (fun _ h_=>h_.1))) hb);have n1_:=zz31 (Kd.R_below (by (with_reducible repeat (first | apply zz12 | apply zz13 | apply zz14));exact (Kd.R_mono (Kd.R_far (p:=⟨gb456,1,none⟩) (Kd.R_far (p:=⟨gb456,0,none⟩) (Kd.R_types HO455.out BK456.out (by decide)) (fun _ hk=>hk.2) (.int .i64 t452)) (fun _ hk=>hk.2) (.slice Ao24 t453.length co24)) (fun _ h_=>h_.1))) hb);have n2_:=zz31 (zz11 (g:=gb444) (o:=.cells #[.int .i64 a0_0,.slice A0_1 l0_1.length c0_1] 24 (0,0)) (by (with_reducible repeat (first | refine zz6 ?_ _ | refine zz7 ?_ | refine zz8 ?_ _));refine blk_far ?_ NB444_456.out _;(with_reducible repeat (first | refine zz6 ?_ _ | refine zz7 ?_ | refine zz8 ?_ _));refine blk_far ?_ NB444_456.out _;(with_reducible repeat (first | refine zz6 ?_ _ | refine zz7 ?_ | refine zz8 ?_ _));exact BK444.out) hb);have n3_:=zz31 (zz11 (g:=gb456) (o:=.cells #[.int .i64 t452,.slice Ao24 t453.length co24] 31 (0,0)) (by (with_reducible repeat (first | refine zz6 ?_ _ | refine zz7 ?_ | refine zz8 ?_ _));refine blk_put (cs:=#[.int .i64 t452,.slice none 0 0]) ?_ 1 _ rfl;(with_reducible repeat (first | refine zz6 ?_ _ | refine zz7 ?_ | refine zz8 ?_ _));refine blk_put (cs:=#[.int .i64 0,.slice none 0 0]) ?_ 0 _ rfl;(with_reducible repeat (first | refine zz6 ?_ _ | refine zz7 ?_ | refine zz8 ?_ _));exact BK456.out) hb);have n4_:=zz31 (zz4 (by repeat first | exact HB.out | apply zz2 | apply zz0 | apply zz1 | refine zz3 ?_ GE444.out | refine zz3 ?_ GE456.out) hb);clear HO449;clear HO455;clear BK444;clear BK456;clear HB;have HO449:=n0_;have HO455:=n1_;have BK444:=n2_;have BK456:=n3_;have HB:=n4_;clear n0_ n1_ n2_ n3_ n4_;(try clear hb);(try clear hb2);(try clear hk);(try clear hi)))
  (try simp only [Act.put,zz21,zz22,zz23])
  go_cut [34] (fun v34 wc=>∃ (kq:Nat) (x34_10:Bool),v34=.bool x34_10∧Aside0 (laws_FnExactFewestColours.j0 kq x34_10 a0_0 l0_1 t452 t453=some r)∧Aside0 (kq≤k)∧Aside0 (Kd.R k79 79 wc w.heap.size (fun _=>True) (.slice Ao24 t453.length co24) t453)∧Aside0 (wc.heap[gb444]?=some (.cells #[.int .i64 a0_0,(.slice A0_1 l0_1.length c0_1)] 24 (0,0)))∧Aside0 (wc.heap[gb456]?=some (.cells #[.int .i64 t452,(.slice Ao24 t453.length co24)] 31 (0,0)))∧Aside0 (Below w.heap.size w wc))
  case first =>
   have H:=HC11.out
   clear HC11
   by_cases c26:t457=t450
   ·rw [if_pos c26] at H
    have c26b0:(t457 == t450)=true:=beq_iff_eq.mpr c26
    have c26b1:(t457 != t450)=false:=bne_eq_false_iff_eq.mpr c26
    clear c26
    (first | rw [c26b0] | (simp only [i64_w,i32_w];rw [c26b0]) | skip)
    have H':=zz31 H
    clear H
    go_wp2
    go_meet
    case rel=>exact ⟨_,((t458 != t451)),(by first | rfl | (simp;done) | (simp [*];done)),H',⟨by first | omega | exact Nat.le_refl _⟩,⟨by (with_reducible repeat (first | apply zz12 | apply zz13 | apply zz14));exact Kd.R_mono HO455.out (fun _ hk=>trivial)⟩,⟨by (with_reducible repeat (first | refine zz6 ?_ _ | refine zz7 ?_ | refine zz8 ?_ _));exact BK444.out⟩,⟨by (with_reducible repeat (first | refine zz6 ?_ _ | refine zz7 ?_ | refine zz8 ?_ _));exact BK456.out⟩,⟨by repeat first | exact HB.out | apply zz2 | apply zz0 | apply zz1 | refine zz3 ?_ GE444.out | refine zz3 ?_ GE456.out⟩⟩
   ·rw [if_neg c26] at H
    have c26b0:(t457 == t450)=false:=beq_eq_false_iff_ne.mpr c26
    have c26b1:(t457 != t450)=true:=bne_iff_ne.mpr c26
    (first | rw [c26b0] | (simp only [i64_w,i32_w];rw [c26b0]) | skip)
    have H':=zz31 H
    clear H
    go_wp2
    go_meet
    case rel=>exact ⟨_,(true),(by first | rfl | (simp;done) | (simp [*];done)),H',⟨by first | omega | exact Nat.le_refl _⟩,⟨by (with_reducible repeat (first | apply zz12 | apply zz13 | apply zz14));exact Kd.R_mono HO455.out (fun _ hk=>trivial)⟩,⟨by (with_reducible repeat (first | refine zz6 ?_ _ | refine zz7 ?_ | refine zz8 ?_ _));exact BK444.out⟩,⟨by (with_reducible repeat (first | refine zz6 ?_ _ | refine zz7 ?_ | refine zz8 ?_ _));exact BK456.out⟩,⟨by repeat first | exact HB.out | apply zz2 | apply zz0 | apply zz1 | refine zz3 ?_ GE444.out | refine zz3 ?_ GE456.out⟩⟩
  case rest =>
   clear HC11
   try clear c1
   try clear c2
   try clear p2
   try clear c3
   try clear c3b0
   try clear c5
   try clear c9
   try clear c11
   try clear c21
   try clear c22
   try clear c26
   try clear c26b0
   try clear c26b1
   try clear hcz13_0
   try clear hcz13_1
   try clear hcz15_0
   try clear hcz15_1
   try clear hcz19_0
   try clear hcz19_1
   try clear hcz23_0
   try clear hcz23_1
   try clear hcz5_0
   try clear hcz5_1
   try clear hfz13_0
   try clear hfz13_1
   try clear hfz15_0
   try clear hfz15_1
   try clear hfz19_0
   try clear hfz19_1
   try clear hfz23_0
   try clear hfz23_1
   try clear hfz5_0
   try clear hfz5_1
   obtain ⟨kq,x34_10,rfl,HA,HJ10,HO_457001,BK444,BK456,HB⟩:=hcut
   cases kq with
   | zero=>exact absurd HA.out (by simp [laws_FnExactFewestColours.j0])
   | succ kj10 =>
    have H:=HA.out
    clear HA
    simp only [laws_FnExactFewestColours.j0] at H
    by_cases c27:x34_10=true
    ·subst c27
     have H1:(some false)=some r:=by rw [if_pos rfl] at H;exact H
     clear H
     have H:=H1
     clear H1
     obtain rfl:=Option.some.inj H
     go_wp2
     go_ret
     exact ⟨by first | rfl | (simp [errW_none,errW_some] <;> rfl) | (simp [*,errW_none,errW_some] <;> rfl),by repeat first | exact HB.out | apply zz2 | apply zz0 | apply zz1 | refine zz3 ?_ GE444.out | refine zz3 ?_ GE456.out⟩
    ·replace c27:=Bool.eq_false_iff.mpr c27
     subst c27
     have H1:((laws_toParty.f kj10 a0_0 l0_1).bind fun bt459=>((laws_eqParty.f kj10 t452 t453 bt459.1 bt459.2).bind fun t463=>(if t463=true then (some true) else (some false))))=some r:=by rw [if_neg (show ¬ (false=true) by decide)] at H;exact H
     clear H
     have H:=H1
     clear H1
     replace H:=zz30.mp H
     obtain ⟨⟨t459,t460⟩,A280,H⟩:=H
     replace H:((laws_eqParty.f kj10 t452 t453 t459 t460).bind fun t463=>(if t463=true then (some true) else (some false)))=some r:=H
     have A28:=zz31 A280
     clear A280
     replace H:=zz30.mp H
     obtain ⟨t463,A290,H⟩:=H
     replace H:(if t463=true then (some true) else (some false))=some r:=H
     have A29:=zz31 A290
     clear A290
     by_cases c30:t463=true
     ·subst c30
      have H1:(some true)=some r:=by rw [if_pos rfl] at H;exact H
      clear H
      have H:=H1
      clear H1
      obtain rfl:=Option.some.inj H
      try go_wp2
      have n0_:=zz31 (zz14 HO_457001.out)
      have n1_:=zz31 (zz7 BK444.out)
      have n2_:=zz31 (zz7 BK456.out)
      have n3_:=zz31 (zz1 HB.out)
      clear HO_457001
      clear BK444
      clear BK456
      clear HB
      have HO_457001:=n0_
      have BK444:=n1_
      have BK456:=n2_
      have HB:=n3_
      clear n0_ n1_ n2_ n3_
      refine start_ (n:=5) (S:=fun w'=>w'.cell? ⟨gb456,0,none⟩=some (.int .i64 t452)∧w'.cell? ⟨gb456,1,none⟩=some (.slice Ao24 t453.length co24)∧w'.cell? ⟨gb444,0,none⟩=some (.int .i64 a0_0)∧w'.cell? ⟨gb444,1,none⟩=some (.slice A0_1 l0_1.length c0_1)) (ds:=[]) #[F,F,F,F,F] (by kernel_rfl) rfl rfl ⟨(zz9 BK456.out 0).trans rfl,(zz9 BK456.out 1).trans rfl,(zz9 BK444.out 0).trans rfl,(zz9 BK444.out 1).trans rfl⟩ (fun hHeld=>?_)
      generalize wc.drew=w31 at HO_457001 BK444 BK456 HB hHeld ⊢
      refine take_ (i:=0) (N:=some 35) (v:=?_) (a':=?_) #[T,F,F,F,F] rfl rfl (by kernel_rfl) (fun _ _ _ h=>h) (Or.inl ⟨by rfl,?_⟩) hHeld ?_ ?_
      rotate_left
      ·rintro w' ⟨s0,s1,s2,s3⟩
       go_simp
       with_reducible rfl
      rotate_left
      ·simp only [Act.put,zz21,zz22,zz23,i64_w,i32_w]
       rfl
      refine take_ (i:=1) (N:=some 36) (v:=?_) (a':=?_) #[T,T,F,F,F] rfl rfl (by kernel_rfl) (fun _ _ _ h=>h) (Or.inl ⟨by rfl,?_⟩) hHeld ?_ ?_
      rotate_left
      ·rintro w' ⟨s0,s1,s2,s3⟩
       go_simp
       with_reducible rfl
      rotate_left
      ·simp only [Act.put,zz21,zz22,zz23,i64_w,i32_w]
       rfl
      refine one_ (i:=2) (N:=some 37) #[T,T,T,F,F] rfl rfl (by kernel_rfl) (by decide) (fun K hK=>?_)
      refine goes_ Try.func11 (by kernel_rfl) rfl #[.agg #[.int .i64 a0_0,.slice A0_1 l0_1.length c0_1]] (by rfl) rfl rfl (by (try simp only [zz26,zz27,zz28]);first | done | rfl | (simp only [zz24,zz25];rfl)) ?_
      with_reducible refine (laws_toParty.calls kj10 a0_0 _ _ l0_1 t459 t460 _ ?side1 ?side2 A28.out).mono ?_
      (case side1=>repeat (first | exact (Kd.C_below HR0_1.out HB.out) | (with_reducible refine zz18 ?_ _) | (with_reducible refine zz19 ?_ _) | (with_reducible refine zz20 ?_)))
      (case side2=>exact HC0_1.out)
      rintro e w32 ⟨v461,rfl,ho0,hb⟩
      refine ⟨_,rfl,?_⟩
      have n0_:=zz31 (Kd.R_elder' (by (with_reducible repeat (first | apply zz12 | apply zz13 | apply zz14));exact HO_457001.out) (Kd.R_base ho0) hb)
      have n1_:=zz31 (Kd.R_lower (Kd.R_new' ho0 (Kd.R_lt (by (with_reducible repeat (first | apply zz12 | apply zz13 | apply zz14));exact HO_457001.out))) (zz5 (by repeat first | exact HB.out | apply zz2 | apply zz0 | apply zz1 | refine zz3 ?_ GE444.out | refine zz3 ?_ GE456.out)))
      have n2_:=zz31 (zz11 (g:=gb444) (o:=.cells #[.int .i64 a0_0,.slice A0_1 l0_1.length c0_1] 24 (0,0)) (by (with_reducible repeat (first | refine zz6 ?_ _ | refine zz7 ?_ | refine zz8 ?_ _));exact BK444.out) hb)
      have n3_:=zz31 (zz11 (g:=gb456) (o:=.cells #[.int .i64 t452,.slice Ao24 t453.length co24] 31 (0,0)) (by (with_reducible repeat (first | refine zz6 ?_ _ | refine zz7 ?_ | refine zz8 ?_ _));exact BK456.out) hb)
      have n4_:=zz31 (zz4 (by repeat first | exact HB.out | apply zz2 | apply zz0 | apply zz1 | refine zz3 ?_ GE444.out | refine zz3 ?_ GE456.out) hb)
      clear HO_457001
      clear BK444
      clear BK456
      clear HB
      have HO_457001:=n0_
      have HO462:=n1_
      have BK444:=n2_
      have BK456:=n3_
      have HB:=n4_
      clear n0_ n1_ n2_ n3_ n4_
      (try clear hb)
      (try clear hb2)
      (try clear hk)
      (try clear hi)
      (try clear ho0)
      obtain ⟨Ao33,co33,eo33⟩:=Kd.R_slice HO462.out
      (first | subst eo33 | (injection eo33 with f1_ f2_ f3_;have f4_:=f1_.symm;have f5_:=f3_.symm;clear f1_ f2_ f3_;subst f4_;subst f5_))
      refine hK.out _ _ ⟨(zz9 BK456.out 0).trans rfl,(zz9 BK456.out 1).trans rfl,(zz9 BK444.out 0).trans rfl,(zz9 BK444.out 1).trans rfl⟩ (fun hHeld=>?_)
      clear hK K
      refine norm_ (a':=?_) ?_ ?_
      rotate_left
      ·show Act.put _ (some 37) _=_
       simp only [Act.put,zz21,zz22,zz23,i64_w,i32_w]
       rfl
      refine one_ (i:=3) (N:=some 38) #[T,T,T,T,F] rfl rfl (by kernel_rfl) (by decide) (fun K hK=>?_)
      refine goes_ Try.func15 (by kernel_rfl) rfl #[.agg #[.int .i64 t452,.slice Ao24 t453.length co24],.agg #[.int .i64 t459,.slice Ao33 t460.length co33]] (by rfl) rfl rfl (by (try simp only [zz26,zz27,zz28]);first | done | rfl | (simp only [zz24,zz25];rfl)) ?_
      with_reducible refine (laws_eqParty.calls kj10 t452 _ _ t453 t459 _ _ t460 true _ ?side1 ?side2 ?side3 ?side4 A29.out).mono ?_
      (case side1=>repeat (first | exact (Kd.R_reads' HO_457001.out).2.2 | (with_reducible refine zz18 ?_ _) | (with_reducible refine zz19 ?_ _) | (with_reducible refine zz20 ?_)))
      (case side2=>exact (Kd.R_reads' HO_457001.out).2.1)
      (case side3=>repeat (first | exact (Kd.R_reads' HO462.out).2.2 | (with_reducible refine zz18 ?_ _) | (with_reducible refine zz19 ?_ _) | (with_reducible refine zz20 ?_)))
      (case side4=>exact (Kd.R_reads' HO462.out).2.1)
      rintro e w34 ⟨rfl,hb⟩
      refine ⟨_,rfl,?_⟩
      have n0_:=zz31 (Kd.R_below (by (with_reducible repeat (first | apply zz12 | apply zz13 | apply zz14));exact HO_457001.out) hb)
      have n1_:=zz31 (Kd.R_below (by (with_reducible repeat (first | apply zz12 | apply zz13 | apply zz14));exact HO462.out) hb)
      have n2_:=zz31 (zz11 (g:=gb444) (o:=.cells #[.int .i64 a0_0,.slice A0_1 l0_1.length c0_1] 24 (0,0)) (by (with_reducible repeat (first | refine zz6 ?_ _ | refine zz7 ?_ | refine zz8 ?_ _));exact BK444.out) hb)
      have n3_:=zz31 (zz11 (g:=gb456) (o:=.cells #[.int .i64 t452,.slice Ao24 t453.length co24] 31 (0,0)) (by (with_reducible repeat (first | refine zz6 ?_ _ | refine zz7 ?_ | refine zz8 ?_ _));exact BK456.out) hb)
      have n4_:=zz31 (zz4 (by repeat first | exact HB.out | apply zz2 | apply zz0 | apply zz1 | refine zz3 ?_ GE444.out | refine zz3 ?_ GE456.out) hb)
      clear HO_457001
      clear HO462
      clear BK444
      clear BK456
      clear HB
      have HO_457001:=n0_
      have HO462:=n1_
      have BK444:=n2_
      have BK456:=n3_
      have HB:=n4_
      clear n0_ n1_ n2_ n3_ n4_
      (try clear hb)
      (try clear hb2)
      (try clear hk)
      (try clear hi)
      refine hK.out _ _ ⟨(zz9 BK456.out 0).trans rfl,(zz9 BK456.out 1).trans rfl,(zz9 BK444.out 0).trans rfl,(zz9 BK444.out 1).trans rfl⟩ (fun hHeld=>?_)
      clear hK K
      refine norm_ (a':=?_) ?_ ?_
      rotate_left
      ·show Act.put _ (some 38) _=_
       simp only [Act.put,zz21,zz22,zz23,i64_w,i32_w]
       rfl
      refine pure_ (i:=4) (N:=some 39) (v:=?_) (a':=?_) #[T,T,T,T,T] rfl rfl (by kernel_rfl) (fun _ _ _ h=>h) (Or.inl ⟨by rfl,?_⟩) ?_ ?_
      rotate_left
      ·intro w'
       go_simp
       with_reducible rfl
      rotate_left
      ·simp only [Act.put,zz21,zz22,zz23,i64_w,i32_w]
       rfl
      refine done_ (by kernel_rfl) ?_
      try go_wp2
      go_ret
      exact ⟨by first | rfl | (simp [errW_none,errW_some] <;> rfl) | (simp [*,errW_none,errW_some] <;> rfl),by repeat first | exact HB.out | apply zz2 | apply zz0 | apply zz1 | refine zz3 ?_ GE444.out | refine zz3 ?_ GE456.out⟩
     ·replace c30:=Bool.eq_false_iff.mpr c30
      subst c30
      have H1:(some false)=some r:=by rw [if_neg (show ¬ (false=true) by decide)] at H;exact H
      clear H
      have H:=H1
      clear H1
      obtain rfl:=Option.some.inj H
      try go_wp2
      have n0_:=zz31 (zz14 HO_457001.out)
      have n1_:=zz31 (zz7 BK444.out)
      have n2_:=zz31 (zz7 BK456.out)
      have n3_:=zz31 (zz1 HB.out)
      clear HO_457001
      clear BK444
      clear BK456
      clear HB
      have HO_457001:=n0_
      have BK444:=n1_
      have BK456:=n2_
      have HB:=n3_
      clear n0_ n1_ n2_ n3_
      refine start_ (n:=5) (S:=fun w'=>w'.cell? ⟨gb456,0,none⟩=some (.int .i64 t452)∧w'.cell? ⟨gb456,1,none⟩=some (.slice Ao24 t453.length co24)∧w'.cell? ⟨gb444,0,none⟩=some (.int .i64 a0_0)∧w'.cell? ⟨gb444,1,none⟩=some (.slice A0_1 l0_1.length c0_1)) (ds:=[]) #[F,F,F,F,F] (by kernel_rfl) rfl rfl ⟨(zz9 BK456.out 0).trans rfl,(zz9 BK456.out 1).trans rfl,(zz9 BK444.out 0).trans rfl,(zz9 BK444.out 1).trans rfl⟩ (fun hHeld=>?_)
      generalize wc.drew=w35 at HO_457001 BK444 BK456 HB hHeld ⊢
      refine take_ (i:=0) (N:=some 35) (v:=?_) (a':=?_) #[T,F,F,F,F] rfl rfl (by kernel_rfl) (fun _ _ _ h=>h) (Or.inl ⟨by rfl,?_⟩) hHeld ?_ ?_
      rotate_left
      ·rintro w' ⟨s0,s1,s2,s3⟩
       go_simp
       with_reducible rfl
      rotate_left
      ·simp only [Act.put,zz21,zz22,zz23,i64_w,i32_w]
       rfl
      refine take_ (i:=1) (N:=some 36) (v:=?_) (a':=?_) #[T,T,F,F,F] rfl rfl (by kernel_rfl) (fun _ _ _ h=>h) (Or.inl ⟨by rfl,?_⟩) hHeld ?_ ?_
      rotate_left
      ·rintro w' ⟨s0,s1,s2,s3⟩
       go_simp
       with_reducible rfl
      rotate_left
      ·simp only [Act.put,zz21,zz22,zz23,i64_w,i32_w]
       rfl
      refine one_ (i:=2) (N:=some 37) #[T,T,T,F,F] rfl rfl (by kernel_rfl) (by decide) (fun K hK=>?_)
      refine goes_ Try.func11 (by kernel_rfl) rfl #[.agg #[.int .i64 a0_0,.slice A0_1 l0_1.length c0_1]] (by rfl) rfl rfl (by (try simp only [zz26,zz27,zz28]);first | done | rfl | (simp only [zz24,zz25];rfl)) ?_
      with_reducible refine (laws_toParty.calls kj10 a0_0 _ _ l0_1 t459 t460 _ ?side1 ?side2 A28.out).mono ?_
      (case side1=>repeat (first | exact (Kd.C_below HR0_1.out HB.out) | (with_reducible refine zz18 ?_ _) | (with_reducible refine zz19 ?_ _) | (with_reducible refine zz20 ?_)))
      (case side2=>exact HC0_1.out)
      rintro e w36 ⟨v461,rfl,ho0,hb⟩
      refine ⟨_,rfl,?_⟩
      have n0_:=zz31 (Kd.R_elder' (by (with_reducible repeat (first | apply zz12 | apply zz13 | apply zz14));exact HO_457001.out) (Kd.R_base ho0) hb)
      have n1_:=zz31 (Kd.R_lower (Kd.R_new' ho0 (Kd.R_lt (by (with_reducible repeat (first | apply zz12 | apply zz13 | apply zz14));exact HO_457001.out))) (zz5 (by repeat first | exact HB.out | apply zz2 | apply zz0 | apply zz1 | refine zz3 ?_ GE444.out | refine zz3 ?_ GE456.out)))
      have n2_:=zz31 (zz11 (g:=gb444) (o:=.cells #[.int .i64 a0_0,.slice A0_1 l0_1.length c0_1] 24 (0,0)) (by (with_reducible repeat (first | refine zz6 ?_ _ | refine zz7 ?_ | refine zz8 ?_ _));exact BK444.out) hb)
      have n3_:=zz31 (zz11 (g:=gb456) (o:=.cells #[.int .i64 t452,.slice Ao24 t453.length co24] 31 (0,0)) (by (with_reducible repeat (first | refine zz6 ?_ _ | refine zz7 ?_ | refine zz8 ?_ _));exact BK456.out) hb)
      have n4_:=zz31 (zz4 (by repeat first | exact HB.out | apply zz2 | apply zz0 | apply zz1 | refine zz3 ?_ GE444.out | refine zz3 ?_ GE456.out) hb)
      clear HO_457001
      clear BK444
      clear BK456
      clear HB
      have HO_457001:=n0_
      have HO462:=n1_
      have BK444:=n2_
      have BK456:=n3_
      have HB:=n4_
      clear n0_ n1_ n2_ n3_ n4_
      (try clear hb)
      (try clear hb2)
      (try clear hk)
      (try clear hi)
      (try clear ho0)
      obtain ⟨Ao37,co37,eo37⟩:=Kd.R_slice HO462.out
      (first | subst eo37 | (injection eo37 with f1_ f2_ f3_;have f4_:=f1_.symm;have f5_:=f3_.symm;clear f1_ f2_ f3_;subst f4_;subst f5_))
      refine hK.out _ _ ⟨(zz9 BK456.out 0).trans rfl,(zz9 BK456.out 1).trans rfl,(zz9 BK444.out 0).trans rfl,(zz9 BK444.out 1).trans rfl⟩ (fun hHeld=>?_)
      clear hK K
      refine norm_ (a':=?_) ?_ ?_
      rotate_left
      ·show Act.put _ (some 37) _=_
       simp only [Act.put,zz21,zz22,zz23,i64_w,i32_w]
       rfl
      refine one_ (i:=3) (N:=some 38) #[T,T,T,T,F] rfl rfl (by kernel_rfl) (by decide) (fun K hK=>?_)
      refine goes_ Try.func15 (by kernel_rfl) rfl #[.agg #[.int .i64 t452,.slice Ao24 t453.length co24],.agg #[.int .i64 t459,.slice Ao37 t460.length co37]] (by rfl) rfl rfl (by (try simp only [zz26,zz27,zz28]);first | done | rfl | (simp only [zz24,zz25];rfl)) ?_
      with_reducible refine (laws_eqParty.calls kj10 t452 _ _ t453 t459 _ _ t460 false _ ?side1 ?side2 ?side3 ?side4 A29.out).mono ?_
      (case side1=>repeat (first | exact (Kd.R_reads' HO_457001.out).2.2 | (with_reducible refine zz18 ?_ _) | (with_reducible refine zz19 ?_ _) | (with_reducible refine zz20 ?_)))
      (case side2=>exact (Kd.R_reads' HO_457001.out).2.1)
      (case side3=>repeat (first | exact (Kd.R_reads' HO462.out).2.2 | (with_reducible refine zz18 ?_ _) | (with_reducible refine zz19 ?_ _) | (with_reducible refine zz20 ?_)))
      (case side4=>exact (Kd.R_reads' HO462.out).2.1)
      rintro e w38 ⟨rfl,hb⟩
      refine ⟨_,rfl,?_⟩
      have n0_:=zz31 (Kd.R_below (by (with_reducible repeat (first | apply zz12 | apply zz13 | apply zz14));exact HO_457001.out) hb)
      have n1_:=zz31 (Kd.R_below (by (with_reducible repeat (first | apply zz12 | apply zz13 | apply zz14));exact HO462.out) hb)
      have n2_:=zz31 (zz11 (g:=gb444) (o:=.cells #[.int .i64 a0_0,.slice A0_1 l0_1.length c0_1] 24 (0,0)) (by (with_reducible repeat (first | refine zz6 ?_ _ | refine zz7 ?_ | refine zz8 ?_ _));exact BK444.out) hb)
      have n3_:=zz31 (zz11 (g:=gb456) (o:=.cells #[.int .i64 t452,.slice Ao24 t453.length co24] 31 (0,0)) (by (with_reducible repeat (first | refine zz6 ?_ _ | refine zz7 ?_ | refine zz8 ?_ _));exact BK456.out) hb)
      have n4_:=zz31 (zz4 (by repeat first | exact HB.out | apply zz2 | apply zz0 | apply zz1 | refine zz3 ?_ GE444.out | refine zz3 ?_ GE456.out) hb)
      clear HO_457001
      clear HO462
      clear BK444
      clear BK456
      clear HB
      have HO_457001:=n0_
      have HO462:=n1_
      have BK444:=n2_
      have BK456:=n3_
      have HB:=n4_
      clear n0_ n1_ n2_ n3_ n4_
      (try clear hb)
      (try clear hb2)
      (try clear hk)
      (try clear hi)
      refine hK.out _ _ ⟨(zz9 BK456.out 0).trans rfl,(zz9 BK456.out 1).trans rfl,(zz9 BK444.out 0).trans rfl,(zz9 BK444.out 1).trans rfl⟩ (fun hHeld=>?_)
      clear hK K
      refine norm_ (a':=?_) ?_ ?_
      rotate_left
      ·show Act.put _ (some 38) _=_
       simp only [Act.put,zz21,zz22,zz23,i64_w,i32_w]
       rfl
      refine pure_ (i:=4) (N:=some 39) (v:=?_) (a':=?_) #[T,T,T,T,T] rfl rfl (by kernel_rfl) (fun _ _ _ h=>h) (Or.inl ⟨by rfl,?_⟩) ?_ ?_
      rotate_left
      ·intro w'
       go_simp
       with_reducible rfl
      rotate_left
      ·simp only [Act.put,zz21,zz22,zz23,i64_w,i32_w]
       rfl
      refine done_ (by kernel_rfl) ?_
      try go_wp2
      go_ret
      exact ⟨by first | rfl | (simp [errW_none,errW_some] <;> rfl) | (simp [*,errW_none,errW_some] <;> rfl),by repeat first | exact HB.out | apply zz2 | apply zz0 | apply zz1 | refine zz3 ?_ GE444.out | refine zz3 ?_ GE456.out⟩

end Go.Proofs.Ytifkaefccghgdaa.P
