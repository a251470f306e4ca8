-- PRINTED by print.py (a twelfth state) out of the translation. Not trusted: Lean checks it.
import Derived.Test.YtifkaefccghgdaaPx0
import Derived.Test.YtifkaefccghgdaaPx1
import Derived.Test.YtifkaefccghgdaaPx5
import Derived.Test.YtifkaefccghgdaaPx6
import Derived.Test.YtifkaefccghgdaaPx7
import Derived.Test.YtifkaefccghgdaaPx9
import Derived.Test.YtifkaefccghgdaaPx11
namespace Go.Proofs.Ytifkaefccghgdaa.P
open Go.RowKit Go.Proofs.YtifkaefccghgdaaW.PrintWords Go.Proofs.YtifkaefccghgdaaW.PrintLast Go.Proofs.YtifkaefccghgdaaW.PrintMore
open Bool renaming true → T, false → F
attribute [local go_sem] max2_int min2_int max_two min_two max_three min_three max_four min_four   -- for this text's walks alone
set_option linter.unusedVariables false
set_option linter.unusedSimpArgs false

/-! ### spec_FirstColouring: function 25 -/
def spec_FirstColouring.f (k:Nat) (a0_0:Int) (l0_1:List (S79)):Option (List Int × Bool):=(spec_grFew.f k a0_0 l0_1).bind fun t548=>(if t548=true then ((spec_grFewest.f k a0_0 l0_1).bind fun bt549=>(some (bt549.1,true))) else (some (([]:List Int),false)))
theorem spec_FirstColouring.mono:∀ a0 a1 k,LeO (spec_FirstColouring.f k a0 a1) (spec_FirstColouring.f (k+1) a0 a1):=by
 intro a0 a1 k
 unfold spec_FirstColouring.f
 repeat' first
   | (with_reducible exact spec_grFew.mono _ _ _)
   | (with_reducible exact spec_grFewest.mono _ _ _)
   | (with_reducible exact LeO.refl _)
   | (with_reducible exact LeO.none _)
   | (with_reducible refine LeO.ite ?_ ?_)
   | (with_reducible refine LeO.bind ?_ (fun _=>?_))
   | exact spec_grFew.mono _ _ _
   | exact spec_grFewest.mono _ _ _
   | exact LeO.none _
   | refine LeO.ite ?_ ?_
   | refine LeO.bind ?_ (fun _=>?_)
set_option maxHeartbeats 8000000 in
set_option maxRecDepth 100000 in
theorem spec_FirstColouring.calls (k:Nat) (a0_0:Int) (A0_1:Option Addr) (c0_1:Nat) (l0_1:List (S79)) (r1:List Int) (r2:Bool) (w:World) (hr0_1:Kd.C k79 w A0_1 l0_1.length l0_1) (hc0_1:l0_1.length≤c0_1) (h:spec_FirstColouring.f k a0_0 l0_1=some (r1,r2)) :
  Calls Try.prog 25 #[.agg #[.int .i64 a0_0,.slice A0_1 l0_1.length c0_1]] w fun e w'=>∃ v0_:Value,e=.returned (.tuple #[v0_,.bool r2])∧Kd.R (Kd.int .i64) 3 w' w.heap.size (fun _=>True) v0_ r1∧Below w.heap.size w w':=by
 have hu31:=Try.underlying31
 have HR0_1:=zz31 hr0_1
 have HC0_1:=zz31 hc0_1
 clear hr0_1 hc0_1
 have HB:=zz31 (Below.refl w.heap.size w)
 have H:((spec_grFew.f k a0_0 l0_1).bind fun t548=>(if t548=true then ((spec_grFewest.f k a0_0 l0_1).bind fun bt549=>(some (bt549.1,true))) else (some (([]:List Int),false))))=some (r1,r2):=h
 clear h
 replace H:=zz30.mp H
 obtain ⟨t548,A20,H⟩:=H
 replace H:(if t548=true then ((spec_grFewest.f k a0_0 l0_1).bind fun bt549=>(some (bt549.1,true))) else (some (([]:List Int),false)))=some (r1,r2):=H
 have A2:=zz31 A20
 clear A20
 by_cases c3:t548=true
 ·subst c3
  have H1:((spec_grFewest.f k a0_0 l0_1).bind fun bt549=>(some (bt549.1,true)))=some (r1,r2):=by rw [if_pos rfl] at H;exact H
  clear H
  have H:=H1
  clear H1
  replace H:=zz30.mp H
  obtain ⟨⟨t549,t552⟩,A40,H⟩:=H
  replace H:(some (t549,true))=some (r1,r2):=H
  have A4:=zz31 A40
  clear A40
  simp only [Option.some.injEq,Prod.mk.injEq] at H
  obtain ⟨rfl,rfl⟩:=H
  go_enter Try.func25,Try.ntmps25
  go_wp2_with (first | ((with_reducible refine gate_dst (N:=1) rfl ?_);refine box_event ?hg (N:=1) ?hd (cs:=#[.int .i64 a0_0,.slice A0_1 l0_1.length c0_1]) (t:=31) ?hr ?_;(case hd=>rfl);(case hg=>rfl);(case hr=>first | (go_simp;done) | (go_simp;rfl));intro gb547 hg w5 hbox hb;have n0_:=zz31 (zz4 (by repeat first | exact HB.out | apply zz2 | apply zz0 | apply zz1) hb);have n1_:=zz31 (hbox);have n2_:=zz31 ((by rw [hg];exact (zz5 (by repeat first | exact HB.out | apply zz2 | apply zz0 | apply zz1)):w.heap.size≤gb547));have n3_:=zz31 ((by rw [hg];exact (zz5 (by repeat first | exact HB.out | apply zz2 | apply zz0 | apply zz1)):w.heap.size≤gb547));clear HB;have HB:=n0_;have BK547:=n1_;have GW547:=n2_;have GE547:=n3_;clear n0_ n1_ n2_ n3_;clear hb hbox hg;have hcz6_0:w5.cell? ⟨gb547,0,none⟩=some (.int .i64 a0_0):=(zz9 BK547.out 0).trans rfl;have hcz6_1:w5.cell? ⟨gb547,1,none⟩=some (.slice A0_1 l0_1.length c0_1):=(zz9 BK547.out 1).trans rfl;have hfz6_0:=zz10 BK547.out 0;have hfz6_1:=zz10 BK547.out 1) | ((with_reducible refine gate_callee (f:=48) rfl ?_);refine goesL_ (some 7) rfl rfl Try.func48 (by kernel_rfl) rfl #[.agg #[.int .i64 a0_0,.slice A0_1 l0_1.length c0_1]] rfl (by (try simp only [zz26,zz27,zz28]);first | done | rfl | (simp only [zz24,zz25];rfl)) ?_;(with_reducible refine (spec_grFew.calls k a0_0 _ _ l0_1 true _ ?side1 ?side2 A2.out).mono ?_);(case side1=>repeat (first | exact (Kd.C_below HR0_1.out HB.out) | (with_reducible refine zz18 ?_ _) | (with_reducible refine zz19 ?_ _) | (with_reducible refine zz20 ?_)));(case side2=>exact HC0_1.out);rintro e w7 ⟨rfl,hb⟩;refine ⟨_,rfl,?_⟩;have n0_:=zz31 (zz11 (g:=gb547) (o:=.cells #[.int .i64 a0_0,.slice A0_1 l0_1.length c0_1] 31 (0,0)) (by (with_reducible repeat (first | refine zz6 ?_ _ | refine zz7 ?_ | refine zz8 ?_ _));exact BK547.out) hb);have n1_:=zz31 (zz4 (by repeat first | exact HB.out | apply zz2 | apply zz0 | apply zz1 | refine zz3 ?_ GE547.out) hb);clear BK547;clear HB;have BK547:=n0_;have HB:=n1_;clear n0_ n1_;(try clear hb);(try clear hb2);(try clear hk);(try clear hi);have hcz8_0:w7.cell? ⟨gb547,0,none⟩=some (.int .i64 a0_0):=(zz9 BK547.out 0).trans rfl;have hcz8_1:w7.cell? ⟨gb547,1,none⟩=some (.slice A0_1 l0_1.length c0_1):=(zz9 BK547.out 1).trans rfl;have hfz8_0:=zz10 BK547.out 0;have hfz8_1:=zz10 BK547.out 1) | ((with_reducible refine gate_callee (f:=55) rfl ?_);refine goesL_ (some 11) rfl rfl Try.func55 (by kernel_rfl) rfl #[.agg #[.int .i64 a0_0,.slice A0_1 l0_1.length c0_1]] rfl (by (try simp only [zz26,zz27,zz28]);first | done | rfl | (simp only [zz24,zz25];rfl)) ?_;(with_reducible refine (spec_grFewest.calls k a0_0 _ _ l0_1 t549 t552 _ ?side1 ?side2 A4.out).mono ?_);(case side1=>repeat (first | exact (Kd.C_below HR0_1.out HB.out) | (with_reducible refine zz18 ?_ _) | (with_reducible refine zz19 ?_ _) | (with_reducible refine zz20 ?_)));(case side2=>exact HC0_1.out);rintro e w9 ⟨v550,rfl,ho0,hb⟩;refine ⟨_,rfl,?_⟩;have n0_:=zz31 (Kd.R_lower ho0 (zz5 (by repeat first | exact HB.out | apply zz2 | apply zz0 | apply zz1 | refine zz3 ?_ GE547.out)));have n1_:=zz31 (zz11 (g:=gb547) (o:=.cells #[.int .i64 a0_0,.slice A0_1 l0_1.length c0_1] 31 (0,0)) (by (with_reducible repeat (first | refine zz6 ?_ _ | refine zz7 ?_ | refine zz8 ?_ _));exact BK547.out) hb);have n2_:=zz31 (zz4 (by repeat first | exact HB.out | apply zz2 | apply zz0 | apply zz1 | refine zz3 ?_ GE547.out) hb);clear BK547;clear HB;have HO551:=n0_;have BK547:=n1_;have HB:=n2_;clear n0_ n1_ n2_;(try clear hb);(try clear hb2);(try clear hk);(try clear hi);(try clear ho0)))
  go_ret2
  exact ⟨_,by first | rfl | (simp [errW_none,errW_some] <;> rfl) | (simp [*,errW_none,errW_some] <;> rfl),by (with_reducible repeat (first | apply zz12 | apply zz13 | apply zz14));exact HO551.out,by repeat first | exact HB.out | apply zz2 | apply zz0 | apply zz1 | refine zz3 ?_ GE547.out⟩
 ·replace c3:=Bool.eq_false_iff.mpr c3
  subst c3
  have H1:(some (([]:List Int),false))=some (r1,r2):=by rw [if_neg (show ¬ (false=true) by decide)] at H;exact H
  clear H
  have H:=H1
  clear H1
  simp only [Option.some.injEq,Prod.mk.injEq] at H
  obtain ⟨rfl,rfl⟩:=H
  go_enter Try.func25,Try.ntmps25
  go_wp2_with (first | ((with_reducible refine gate_dst (N:=1) rfl ?_);refine box_event ?hg (N:=1) ?hd (cs:=#[.int .i64 a0_0,.slice A0_1 l0_1.length c0_1]) (t:=31) ?hr ?_;(case hd=>rfl);(case hg=>rfl);(case hr=>first | (go_simp;done) | (go_simp;rfl));intro gb547 hg w10 hbox hb;have n0_:=zz31 (zz4 (by repeat first | exact HB.out | apply zz2 | apply zz0 | apply zz1) hb);have n1_:=zz31 (hbox);have n2_:=zz31 ((by rw [hg];exact (zz5 (by repeat first | exact HB.out | apply zz2 | apply zz0 | apply zz1)):w.heap.size≤gb547));have n3_:=zz31 ((by rw [hg];exact (zz5 (by repeat first | exact HB.out | apply zz2 | apply zz0 | apply zz1)):w.heap.size≤gb547));clear HB;have HB:=n0_;have BK547:=n1_;have GW547:=n2_;have GE547:=n3_;clear n0_ n1_ n2_ n3_;clear hb hbox hg;have hcz11_0:w10.cell? ⟨gb547,0,none⟩=some (.int .i64 a0_0):=(zz9 BK547.out 0).trans rfl;have hcz11_1:w10.cell? ⟨gb547,1,none⟩=some (.slice A0_1 l0_1.length c0_1):=(zz9 BK547.out 1).trans rfl;have hfz11_0:=zz10 BK547.out 0;have hfz11_1:=zz10 BK547.out 1) | ((with_reducible refine gate_callee (f:=48) rfl ?_);refine goesL_ (some 7) rfl rfl Try.func48 (by kernel_rfl) rfl #[.agg #[.int .i64 a0_0,.slice A0_1 l0_1.length c0_1]] rfl (by (try simp only [zz26,zz27,zz28]);first | done | rfl | (simp only [zz24,zz25];rfl)) ?_;(with_reducible refine (spec_grFew.calls k a0_0 _ _ l0_1 false _ ?side1 ?side2 A2.out).mono ?_);(case side1=>repeat (first | exact (Kd.C_below HR0_1.out HB.out) | (with_reducible refine zz18 ?_ _) | (with_reducible refine zz19 ?_ _) | (with_reducible refine zz20 ?_)));(case side2=>exact HC0_1.out);rintro e w12 ⟨rfl,hb⟩;refine ⟨_,rfl,?_⟩;have n0_:=zz31 (zz11 (g:=gb547) (o:=.cells #[.int .i64 a0_0,.slice A0_1 l0_1.length c0_1] 31 (0,0)) (by (with_reducible repeat (first | refine zz6 ?_ _ | refine zz7 ?_ | refine zz8 ?_ _));exact BK547.out) hb);have n1_:=zz31 (zz4 (by repeat first | exact HB.out | apply zz2 | apply zz0 | apply zz1 | refine zz3 ?_ GE547.out) hb);clear BK547;clear HB;have BK547:=n0_;have HB:=n1_;clear n0_ n1_;(try clear hb);(try clear hb2);(try clear hk);(try clear hi)))
  go_ret2
  exact ⟨_,by first | rfl | (simp [errW_none,errW_some] <;> rfl) | (simp [*,errW_none,errW_some] <;> rfl),by first | exact Kd.R_nil _ _ _ _ _ | exact Kd.N_nil _ _ _ _ _ | exact Kd.V_nil _ _ _ _ _ | exact Kd.Q_nil _ _ _ _ _ | exact Kd.S_nil _ _ _ _ _,by repeat first | exact HB.out | apply zz2 | apply zz0 | apply zz1 | refine zz3 ?_ GE547.out⟩

/-! ### impl_FirstColouring: function 26 -/
def impl_FirstColouring.f (k:Nat) (a0_0:Int) (l0_1:List (S79)):Option (List Int × Bool):=(impl_isFewColoured.f k a0_0 l0_1).bind fun t554=>(if t554=true then ((impl_Party_table.f k a0_0 l0_1).bind fun t555=>((impl_table_fewest.f t555).bind fun bt558=>(some (bt558.1,true)))) else (some (([]:List Int),false)))
theorem impl_FirstColouring.mono:∀ a0 a1 k,LeO (impl_FirstColouring.f k a0 a1) (impl_FirstColouring.f (k+1) a0 a1):=by
 intro a0 a1 k
 unfold impl_FirstColouring.f
 repeat' first
   | (with_reducible exact impl_Party_table.mono _ _ _)
   | (with_reducible exact impl_isFewColoured.mono _ _ _)
   | (with_reducible exact LeO.refl _)
   | (with_reducible exact LeO.none _)
   | (with_reducible refine LeO.ite ?_ ?_)
   | (with_reducible refine LeO.bind ?_ (fun _=>?_))
   | exact impl_Party_table.mono _ _ _
   | exact impl_isFewColoured.mono _ _ _
   | exact LeO.none _
   | refine LeO.ite ?_ ?_
   | refine LeO.bind ?_ (fun _=>?_)
set_option maxHeartbeats 8000000 in
set_option maxRecDepth 100000 in
theorem impl_FirstColouring.calls (k:Nat) (a0_0:Int) (A0_1:Option Addr) (c0_1:Nat) (l0_1:List (S79)) (r1:List Int) (r2:Bool) (w:World) (hr0_1:Kd.C k79 w A0_1 l0_1.length l0_1) (hc0_1:l0_1.length≤c0_1) (h:impl_FirstColouring.f k a0_0 l0_1=some (r1,r2)) :
  Calls Try.prog 26 #[.agg #[.int .i64 a0_0,.slice A0_1 l0_1.length c0_1]] w fun e w'=>∃ v0_:Value,e=.returned (.tuple #[v0_,.bool r2])∧Kd.R (Kd.int .i64) 3 w' w.heap.size (fun _=>True) v0_ r1∧Below w.heap.size w w':=by
 have hu31:=Try.underlying31
 have HR0_1:=zz31 hr0_1
 have HC0_1:=zz31 hc0_1
 clear hr0_1 hc0_1
 have HB:=zz31 (Below.refl w.heap.size w)
 have H:((impl_isFewColoured.f k a0_0 l0_1).bind fun t554=>(if t554=true then ((impl_Party_table.f k a0_0 l0_1).bind fun t555=>((impl_table_fewest.f t555).bind fun bt558=>(some (bt558.1,true)))) else (some (([]:List Int),false))))=some (r1,r2):=h
 clear h
 replace H:=zz30.mp H
 obtain ⟨t554,A20,H⟩:=H
 replace H:(if t554=true then ((impl_Party_table.f k a0_0 l0_1).bind fun t555=>((impl_table_fewest.f t555).bind fun bt558=>(some (bt558.1,true)))) else (some (([]:List Int),false)))=some (r1,r2):=H
 have A2:=zz31 A20
 clear A20
 by_cases c3:t554=true
 ·subst c3
  have H1:((impl_Party_table.f k a0_0 l0_1).bind fun t555=>((impl_table_fewest.f t555).bind fun bt558=>(some (bt558.1,true))))=some (r1,r2):=by rw [if_pos rfl] at H;exact H
  clear H
  have H:=H1
  clear H1
  replace H:=zz30.mp H
  obtain ⟨t555,A40,H⟩:=H
  replace H:((impl_table_fewest.f t555).bind fun bt558=>(some (bt558.1,true)))=some (r1,r2):=H
  have A4:=zz31 A40
  clear A40
  replace H:=zz30.mp H
  obtain ⟨⟨t558,t559⟩,A50,H⟩:=H
  replace H:(some (t558,true))=some (r1,r2):=H
  have A5:=zz31 A50
  clear A50
  simp only [Option.some.injEq,Prod.mk.injEq] at H
  obtain ⟨rfl,rfl⟩:=H
  go_enter Try.func26,Try.ntmps26
  go_wp2_with (first | ((with_reducible refine gate_dst (N:=1) rfl ?_);refine box_event ?hg (N:=1) ?hd (cs:=#[.int .i64 a0_0,.slice A0_1 l0_1.length c0_1]) (t:=31) ?hr ?_;(case hd=>rfl);(case hg=>rfl);(case hr=>first | (go_simp;done) | (go_simp;rfl));intro gb553 hg w6 hbox hb;have n0_:=zz31 (zz4 (by repeat first | exact HB.out | apply zz2 | apply zz0 | apply zz1) hb);have n1_:=zz31 (hbox);have n2_:=zz31 ((by rw [hg];exact (zz5 (by repeat first | exact HB.out | apply zz2 | apply zz0 | apply zz1)):w.heap.size≤gb553));have n3_:=zz31 ((by rw [hg];exact (zz5 (by repeat first | exact HB.out | apply zz2 | apply zz0 | apply zz1)):w.heap.size≤gb553));clear HB;have HB:=n0_;have BK553:=n1_;have GW553:=n2_;have GE553:=n3_;clear n0_ n1_ n2_ n3_;clear hb hbox hg;have hcz7_0:w6.cell? ⟨gb553,0,none⟩=some (.int .i64 a0_0):=(zz9 BK553.out 0).trans rfl;have hcz7_1:w6.cell? ⟨gb553,1,none⟩=some (.slice A0_1 l0_1.length c0_1):=(zz9 BK553.out 1).trans rfl;have hfz7_0:=zz10 BK553.out 0;have hfz7_1:=zz10 BK553.out 1) | ((with_reducible refine gate_callee (f:=51) rfl ?_);refine goesL_ (some 7) rfl rfl Try.func51 (by kernel_rfl) rfl #[.agg #[.int .i64 a0_0,.slice A0_1 l0_1.length c0_1]] rfl (by (try simp only [zz26,zz27,zz28]);first | done | rfl | (simp only [zz24,zz25];rfl)) ?_;(with_reducible refine (impl_isFewColoured.calls k a0_0 _ _ l0_1 true _ ?side1 ?side2 A2.out).mono ?_);(case side1=>repeat (first | exact (Kd.C_below HR0_1.out HB.out) | (with_reducible refine zz18 ?_ _) | (with_reducible refine zz19 ?_ _) | (with_reducible refine zz20 ?_)));(case side2=>exact HC0_1.out);rintro e w8 ⟨rfl,hb⟩;refine ⟨_,rfl,?_⟩;have n0_:=zz31 (zz11 (g:=gb553) (o:=.cells #[.int .i64 a0_0,.slice A0_1 l0_1.length c0_1] 31 (0,0)) (by (with_reducible repeat (first | refine zz6 ?_ _ | refine zz7 ?_ | refine zz8 ?_ _));exact BK553.out) hb);have n1_:=zz31 (zz4 (by repeat first | exact HB.out | apply zz2 | apply zz0 | apply zz1 | refine zz3 ?_ GE553.out) hb);clear BK553;clear HB;have BK553:=n0_;have HB:=n1_;clear n0_ n1_;(try clear hb);(try clear hb2);(try clear hk);(try clear hi);have hcz9_0:w8.cell? ⟨gb553,0,none⟩=some (.int .i64 a0_0):=(zz9 BK553.out 0).trans rfl;have hcz9_1:w8.cell? ⟨gb553,1,none⟩=some (.slice A0_1 l0_1.length c0_1):=(zz9 BK553.out 1).trans rfl;have hfz9_0:=zz10 BK553.out 0;have hfz9_1:=zz10 BK553.out 1) | ((with_reducible refine gate_callee (f:=41) rfl ?_);refine goesL_ (some 11) rfl rfl Try.func41 (by kernel_rfl) rfl #[.agg #[.int .i64 a0_0,.slice A0_1 l0_1.length c0_1]] rfl (by (try simp only [zz26,zz27,zz28]);first | done | rfl | (simp only [zz24,zz25];rfl)) ?_;(with_reducible refine (impl_Party_table.calls k a0_0 _ _ l0_1 t555 _ ?side1 ?side2 A4.out).mono ?_);(case side1=>repeat (first | exact (Kd.C_below HR0_1.out HB.out) | (with_reducible refine zz18 ?_ _) | (with_reducible refine zz19 ?_ _) | (with_reducible refine zz20 ?_)));(case side2=>exact HC0_1.out);rintro e w10 ⟨v556,rfl,ho0,hb⟩;refine ⟨_,rfl,?_⟩;have n0_:=zz31 (Kd.R_lower ho0 (zz5 (by repeat first | exact HB.out | apply zz2 | apply zz0 | apply zz1 | refine zz3 ?_ GE553.out)));have n1_:=zz31 (zz11 (g:=gb553) (o:=.cells #[.int .i64 a0_0,.slice A0_1 l0_1.length c0_1] 31 (0,0)) (by (with_reducible repeat (first | refine zz6 ?_ _ | refine zz7 ?_ | refine zz8 ?_ _));exact BK553.out) hb);have n2_:=zz31 (zz4 (by repeat first | exact HB.out | apply zz2 | apply zz0 | apply zz1 | refine zz3 ?_ GE553.out) hb);clear BK553;clear HB;have HO557:=n0_;have BK553:=n1_;have HB:=n2_;clear n0_ n1_ n2_;(try clear hb);(try clear hb2);(try clear hk);(try clear hi);(try clear ho0);obtain ⟨Ao11,co11,eo11⟩:=Kd.R_slice HO557.out;subst eo11) | ((with_reducible refine gate_callee (f:=56) rfl ?_);refine goesL_ (some 12) rfl rfl Try.func56 (by kernel_rfl) rfl #[.slice Ao11 t555.length co11] rfl (by (try simp only [zz26,zz27,zz28]);first | done | rfl | (simp only [zz24,zz25];rfl)) ?_;(with_reducible refine (impl_table_fewest.calls _ _ t555 t558 t559 _ ?side1 ?side2 A5.out).mono ?_);(case side1=>repeat (first | exact (Kd.R_reads' HO557.out).2.2 | (with_reducible refine zz18 ?_ _) | (with_reducible refine zz19 ?_ _) | (with_reducible refine zz20 ?_)));(case side2=>exact (Kd.R_reads' HO557.out).2.1);rintro e w12 ⟨v560,rfl,ho0,hb⟩;refine ⟨_,rfl,?_⟩;have n0_:=zz31 (Kd.R_below (by (with_reducible repeat (first | apply zz12 | apply zz13 | apply zz14));exact HO557.out) hb);have n1_:=zz31 (Kd.R_lower ho0 (zz5 (by repeat first | exact HB.out | apply zz2 | apply zz0 | apply zz1 | refine zz3 ?_ GE553.out)));have n2_:=zz31 (zz11 (g:=gb553) (o:=.cells #[.int .i64 a0_0,.slice A0_1 l0_1.length c0_1] 31 (0,0)) (by (with_reducible repeat (first | refine zz6 ?_ _ | refine zz7 ?_ | refine zz8 ?_ _));exact BK553.out) hb);have n3_:=zz31 (zz4 (by repeat first | exact HB.out | apply zz2 | apply zz0 | apply zz1 | refine zz3 ?_ GE553.out) hb);clear HO557;clear BK553;clear HB;have HO557:=n0_;have HO561:=n1_;have BK553:=n2_;have HB:=n3_;clear n0_ n1_ n2_ n3_;(try clear hb);(try clear hb2);(try clear hk);(try clear hi);(try clear ho0)))
  go_ret2
  exact ⟨_,by first | rfl | (simp [errW_none,errW_some] <;> rfl) | (simp [*,errW_none,errW_some] <;> rfl),by (with_reducible repeat (first | apply zz12 | apply zz13 | apply zz14));exact HO561.out,by repeat first | exact HB.out | apply zz2 | apply zz0 | apply zz1 | refine zz3 ?_ GE553.out⟩
 ·replace c3:=Bool.eq_false_iff.mpr c3
  subst c3
  have H1:(some (([]:List Int),false))=some (r1,r2):=by rw [if_neg (show ¬ (false=true) by decide)] at H;exact H
  clear H
  have H:=H1
  clear H1
  simp only [Option.some.injEq,Prod.mk.injEq] at H
  obtain ⟨rfl,rfl⟩:=H
  go_enter Try.func26,Try.ntmps26
  go_wp2_with (first | ((with_reducible refine gate_dst (N:=1) rfl ?_);refine box_event ?hg (N:=1) ?hd (cs:=#[.int .i64 a0_0,.slice A0_1 l0_1.length c0_1]) (t:=31) ?hr ?_;(case hd=>rfl);(case hg=>rfl);(case hr=>first | (go_simp;done) | (go_simp;rfl));intro gb553 hg w13 hbox hb;have n0_:=zz31 (zz4 (by repeat first | exact HB.out | apply zz2 | apply zz0 | apply zz1) hb);have n1_:=zz31 (hbox);have n2_:=zz31 ((by rw [hg];exact (zz5 (by repeat first | exact HB.out | apply zz2 | apply zz0 | apply zz1)):w.heap.size≤gb553));have n3_:=zz31 ((by rw [hg];exact (zz5 (by repeat first | exact HB.out | apply zz2 | apply zz0 | apply zz1)):w.heap.size≤gb553));clear HB;have HB:=n0_;have BK553:=n1_;have GW553:=n2_;have GE553:=n3_;clear n0_ n1_ n2_ n3_;clear hb hbox hg;have hcz14_0:w13.cell? ⟨gb553,0,none⟩=some (.int .i64 a0_0):=(zz9 BK553.out 0).trans rfl;have hcz14_1:w13.cell? ⟨gb553,1,none⟩=some (.slice A0_1 l0_1.length c0_1):=(zz9 BK553.out 1).trans rfl;have hfz14_0:=zz10 BK553.out 0;have hfz14_1:=zz10 BK553.out 1) | ((with_reducible refine gate_callee (f:=51) rfl ?_);refine goesL_ (some 7) rfl rfl Try.func51 (by kernel_rfl) rfl #[.agg #[.int .i64 a0_0,.slice A0_1 l0_1.length c0_1]] rfl (by (try simp only [zz26,zz27,zz28]);first | done | rfl | (simp only [zz24,zz25];rfl)) ?_;(with_reducible refine (impl_isFewColoured.calls k a0_0 _ _ l0_1 false _ ?side1 ?side2 A2.out).mono ?_);(case side1=>repeat (first | exact (Kd.C_below HR0_1.out HB.out) | (with_reducible refine zz18 ?_ _) | (with_reducible refine zz19 ?_ _) | (with_reducible refine zz20 ?_)));(case side2=>exact HC0_1.out);rintro e w15 ⟨rfl,hb⟩;refine ⟨_,rfl,?_⟩;have n0_:=zz31 (zz11 (g:=gb553) (o:=.cells #[.int .i64 a0_0,.slice A0_1 l0_1.length c0_1] 31 (0,0)) (by (with_reducible repeat (first | refine zz6 ?_ _ | refine zz7 ?_ | refine zz8 ?_ _));exact BK553.out) hb);have n1_:=zz31 (zz4 (by repeat first | exact HB.out | apply zz2 | apply zz0 | apply zz1 | refine zz3 ?_ GE553.out) hb);clear BK553;clear HB;have BK553:=n0_;have HB:=n1_;clear n0_ n1_;(try clear hb);(try clear hb2);(try clear hk);(try clear hi)))
  go_ret2
  exact ⟨_,by first | rfl | (simp [errW_none,errW_some] <;> rfl) | (simp [*,errW_none,errW_some] <;> rfl),by first | exact Kd.R_nil _ _ _ _ _ | exact Kd.N_nil _ _ _ _ _ | exact Kd.V_nil _ _ _ _ _ | exact Kd.Q_nil _ _ _ _ _ | exact Kd.S_nil _ _ _ _ _,by repeat first | exact HB.out | apply zz2 | apply zz0 | apply zz1 | refine zz3 ?_ GE553.out⟩

/-! ### laws_FnExactFirstColouring: function 7 -/
mutual
def laws_FnExactFirstColouring.j0:Nat→List Int→Bool→List Int→Bool→Bool→Int→List (S81)→Int→List (S79)→Option (Bool)
 | 0,_,_,_,_,_,_,_,_,_=>none
 | k+1,x4,x5,x7,x8,x40,x563000,x563001,x577000,x577001=>if x40=true then (some false) else ((laws_toParty.f k x563000 x563001).bind fun bt582=>((laws_eqParty.f k x577000 x577001 bt582.1 bt582.2).bind fun t586=>(if t586=true then ((laws_markParty.f k x577000 x577001 1).bind fun bt587=>(if bt587.1 < 0 then (laws_FnExactFirstColouring.j1 k x4 x5 x7 true x563000 x563001) else ((laws_eqIntS.f k x7 x4).bind fun t589=>(if t589=true then (laws_FnExactFirstColouring.j1 k x4 x5 x7 (x8 != x5) x563000 x563001) else (laws_FnExactFirstColouring.j1 k x4 x5 x7 true x563000 x563001))))) else (some false))))
def laws_FnExactFirstColouring.j1:Nat→List Int→Bool→List Int→Bool→Int→List (S81)→Option (Bool)
 | 0,_,_,_,_,_,_=>none
 | k+1,x4,x5,x7,x61,x563000,x563001=>if x61=true then (some false) else ((laws_markIntS.f k x7 1).bind fun bt590=>((laws_heldIntS.f k bt590.2 1).bind fun t592=>(if t592 < 0 then (some false) else (if t592=bt590.1 then ((laws_toParty.f k x563000 x563001).bind fun bt593=>((impl_FirstColouring.f k bt593.1 bt593.2).bind fun bt597=>((laws_eqIntS.f k bt597.1 x4).bind fun t601=>(if t601=true then (laws_FnExactFirstColouring.j2 k bt590.2 bt590.1 (bt597.2 != x5)) else (laws_FnExactFirstColouring.j2 k bt590.2 bt590.1 true))))) else (some false)))))
def laws_FnExactFirstColouring.j2:Nat→List Int→Int→Bool→Option (Bool)
 | 0,_,_,_=>none
 | k+1,x7,x10,x87=>if x87=true then (some false) else ((laws_heldIntS.f k x7 1).bind fun t602=>(if t602 < 0 then (some false) else (if t602=x10 then (some true) else (some false))))
end
def laws_FnExactFirstColouring.f (k:Nat) (a0_0:Int) (l0_1:List (S81)):Option (Bool):=(laws_szParty.f a0_0 l0_1 1048576).bind fun t563=>(if t563 < 0 then (some true) else ((laws_toParty.f k a0_0 l0_1).bind fun bt564=>((spec_FirstColouring.f k bt564.1 bt564.2).bind fun bt568=>((laws_toParty.f k a0_0 l0_1).bind fun bt572=>((impl_FirstColouring.f k bt572.1 bt572.2).bind fun bt577=>((laws_eqIntS.f k bt577.1 bt568.1).bind fun t581=>(if t581=true then (laws_FnExactFirstColouring.j0 k bt568.1 bt568.2 bt577.1 bt577.2 (bt577.2 != bt568.2) a0_0 l0_1 bt572.1 bt572.2) else (laws_FnExactFirstColouring.j0 k bt568.1 bt568.2 bt577.1 bt577.2 true a0_0 l0_1 bt572.1 bt572.2))))))))
theorem laws_FnExactFirstColouring.mono_l:∀ k,(∀ y0 y1 y2 y3 y4 y5 y6 y7 y8,LeO (laws_FnExactFirstColouring.j0 k y0 y1 y2 y3 y4 y5 y6 y7 y8) (laws_FnExactFirstColouring.j0 (k+1) y0 y1 y2 y3 y4 y5 y6 y7 y8))∧(∀ y0 y1 y2 y3 y4 y5,LeO (laws_FnExactFirstColouring.j1 k y0 y1 y2 y3 y4 y5) (laws_FnExactFirstColouring.j1 (k+1) y0 y1 y2 y3 y4 y5))∧(∀ y0 y1 y2,LeO (laws_FnExactFirstColouring.j2 k y0 y1 y2) (laws_FnExactFirstColouring.j2 (k+1) y0 y1 y2))
 | 0=>⟨fun _ _ _ _ _ _ _ _ _ r h=>by simp [laws_FnExactFirstColouring.j0] at h,fun _ _ _ _ _ _ r h=>by simp [laws_FnExactFirstColouring.j1] at h,fun _ _ _ r h=>by simp [laws_FnExactFirstColouring.j2] at h⟩
 | k+1=>by
  obtain ⟨ih0,ih1,ih2⟩:=laws_FnExactFirstColouring.mono_l k
  refine ⟨?_,?_,?_⟩
  ·intro y0 y1 y2 y3 y4 y5 y6 y7 y8
   unfold laws_FnExactFirstColouring.j0
   repeat' first
   | (with_reducible exact ih0 _ _ _ _ _ _ _ _ _)
   | (with_reducible exact ih1 _ _ _ _ _ _)
   | (with_reducible exact ih2 _ _ _)
   | (with_reducible exact impl_FirstColouring.mono _ _ _)
   | (with_reducible exact laws_eqIntS.mono _ _ _)
   | (with_reducible exact laws_eqParty.mono _ _ _ _ _)
   | (with_reducible exact laws_heldIntS.mono _ _ _)
   | (with_reducible exact laws_markIntS.mono _ _ _)
   | (with_reducible exact laws_markParty.mono _ _ _ _)
   | (with_reducible exact laws_toParty.mono _ _ _)
   | (with_reducible exact spec_FirstColouring.mono _ _ _)
   | (with_reducible exact LeO.refl _)
   | (with_reducible exact LeO.none _)
   | (with_reducible refine LeO.ite ?_ ?_)
   | (with_reducible refine LeO.bind ?_ (fun _=>?_))
   | exact ih0 _ _ _ _ _ _ _ _ _
   | exact ih1 _ _ _ _ _ _
   | exact ih2 _ _ _
   | exact impl_FirstColouring.mono _ _ _
   | exact laws_eqIntS.mono _ _ _
   | exact laws_eqParty.mono _ _ _ _ _
   | exact laws_heldIntS.mono _ _ _
   | exact laws_markIntS.mono _ _ _
   | exact laws_markParty.mono _ _ _ _
   | exact laws_toParty.mono _ _ _
   | exact spec_FirstColouring.mono _ _ _
   | exact LeO.none _
   | refine LeO.ite ?_ ?_
   | refine LeO.bind ?_ (fun _=>?_)
  ·intro y0 y1 y2 y3 y4 y5
   unfold laws_FnExactFirstColouring.j1
   repeat' first
   | (with_reducible exact ih0 _ _ _ _ _ _ _ _ _)
   | (with_reducible exact ih1 _ _ _ _ _ _)
   | (with_reducible exact ih2 _ _ _)
   | (with_reducible exact impl_FirstColouring.mono _ _ _)
   | (with_reducible exact laws_eqIntS.mono _ _ _)
   | (with_reducible exact laws_eqParty.mono _ _ _ _ _)
   | (with_reducible exact laws_heldIntS.mono _ _ _)
   | (with_reducible exact laws_markIntS.mono _ _ _)
   | (with_reducible exact laws_markParty.mono _ _ _ _)
   | (with_reducible exact laws_toParty.mono _ _ _)
   | (with_reducible exact spec_FirstColouring.mono _ _ _)
   | (with_reducible exact LeO.refl _)
   | (with_reducible exact LeO.none _)
   | (with_reducible refine LeO.ite ?_ ?_)
   | (with_reducible refine LeO.bind ?_ (fun _=>?_))
   | exact ih0 _ _ _ _ _ _ _ _ _
   | exact ih1 _ _ _ _ _ _
   | exact ih2 _ _ _
   | exact impl_FirstColouring.mono _ _ _
   | exact laws_eqIntS.mono _ _ _
   | exact laws_eqParty.mono _ _ _ _ _
   | exact laws_heldIntS.mono _ _ _
   | exact laws_markIntS.mono _ _ _
   | exact laws_markParty.mono _ _ _ _
   | exact laws_toParty.mono _ _ _
   | exact spec_FirstColouring.mono _ _ _
   | exact LeO.none _
   | refine LeO.ite ?_ ?_
   | refine LeO.bind ?_ (fun _=>?_)
  ·intro y0 y1 y2
   unfold laws_FnExactFirstColouring.j2
   repeat' first
   | (with_reducible exact ih0 _ _ _ _ _ _ _ _ _)
   | (with_reducible exact ih1 _ _ _ _ _ _)
   | (with_reducible exact ih2 _ _ _)
   | (with_reducible exact impl_FirstColouring.mono _ _ _)
   | (with_reducible exact laws_eqIntS.mono _ _ _)
   | (with_reducible exact laws_eqParty.mono _ _ _ _ _)
   | (with_reducible exact laws_heldIntS.mono _ _ _)
   | (with_reducible exact laws_markIntS.mono _ _ _)
   | (with_reducible exact laws_markParty.mono _ _ _ _)
   | (with_reducible exact laws_toParty.mono _ _ _)
   | (with_reducible exact spec_FirstColouring.mono _ _ _)
   | (with_reducible exact LeO.refl _)
   | (with_reducible exact LeO.none _)
   | (with_reducible refine LeO.ite ?_ ?_)
   | (with_reducible refine LeO.bind ?_ (fun _=>?_))
   | exact ih0 _ _ _ _ _ _ _ _ _
   | exact ih1 _ _ _ _ _ _
   | exact ih2 _ _ _
   | exact impl_FirstColouring.mono _ _ _
   | exact laws_eqIntS.mono _ _ _
   | exact laws_eqParty.mono _ _ _ _ _
   | exact laws_heldIntS.mono _ _ _
   | exact laws_markIntS.mono _ _ _
   | exact laws_markParty.mono _ _ _ _
   | exact laws_toParty.mono _ _ _
   | exact spec_FirstColouring.mono _ _ _
   | exact LeO.none _
   | refine LeO.ite ?_ ?_
   | refine LeO.bind ?_ (fun _=>?_)
theorem laws_FnExactFirstColouring.mono:∀ a0 a1 k,LeO (laws_FnExactFirstColouring.f k a0 a1) (laws_FnExactFirstColouring.f (k+1) a0 a1):=by
 intro a0 a1 k
 obtain ⟨ih0,ih1,ih2⟩:=laws_FnExactFirstColouring.mono_l k
 unfold laws_FnExactFirstColouring.f
 repeat' first
   | (with_reducible exact ih0 _ _ _ _ _ _ _ _ _)
   | (with_reducible exact ih1 _ _ _ _ _ _)
   | (with_reducible exact ih2 _ _ _)
   | (with_reducible exact impl_FirstColouring.mono _ _ _)
   | (with_reducible exact laws_eqIntS.mono _ _ _)
   | (with_reducible exact laws_eqParty.mono _ _ _ _ _)
   | (with_reducible exact laws_heldIntS.mono _ _ _)
   | (with_reducible exact laws_markIntS.mono _ _ _)
   | (with_reducible exact laws_markParty.mono _ _ _ _)
   | (with_reducible exact laws_toParty.mono _ _ _)
   | (with_reducible exact spec_FirstColouring.mono _ _ _)
   | (with_reducible exact LeO.refl _)
   | (with_reducible exact LeO.none _)
   | (with_reducible refine LeO.ite ?_ ?_)
   | (with_reducible refine LeO.bind ?_ (fun _=>?_))
   | exact ih0 _ _ _ _ _ _ _ _ _
   | exact ih1 _ _ _ _ _ _
   | exact ih2 _ _ _
   | exact impl_FirstColouring.mono _ _ _
   | exact laws_eqIntS.mono _ _ _
   | exact laws_eqParty.mono _ _ _ _ _
   | exact laws_heldIntS.mono _ _ _
   | exact laws_markIntS.mono _ _ _
   | exact laws_markParty.mono _ _ _ _
   | exact laws_toParty.mono _ _ _
   | exact spec_FirstColouring.mono _ _ _
   | exact LeO.none _
   | refine LeO.ite ?_ ?_
   | refine LeO.bind ?_ (fun _=>?_)
set_option maxHeartbeats 8000000 in
set_option maxRecDepth 100000 in
theorem laws_FnExactFirstColouring.calls (k:Nat) (a0_0:Int) (A0_1:Option Addr) (c0_1:Nat) (l0_1:List (S81)) (r:Bool) (w:World) (hr0_1:Kd.C k81 w A0_1 l0_1.length l0_1) (hc0_1:l0_1.length≤c0_1) (h:laws_FnExactFirstColouring.f k a0_0 l0_1=some r) :
  Calls Try.prog 7 #[.agg #[.int .i64 a0_0,.slice A0_1 l0_1.length c0_1]] w fun e w'=>e=.returned (.bool r)∧Below w.heap.size w w':=by
 have hu24:=Try.underlying24
 have hu31:=Try.underlying31
 have HR0_1:=zz31 hr0_1
 have HC0_1:=zz31 hc0_1
 clear hr0_1 hc0_1
 have HB:=zz31 (Below.refl w.heap.size w)
 have H:((laws_szParty.f a0_0 l0_1 1048576).bind fun t563=>(if t563 < 0 then (some true) else ((laws_toParty.f k a0_0 l0_1).bind fun bt564=>((spec_FirstColouring.f k bt564.1 bt564.2).bind fun bt568=>((laws_toParty.f k a0_0 l0_1).bind fun bt572=>((impl_FirstColouring.f k bt572.1 bt572.2).bind fun bt577=>((laws_eqIntS.f k bt577.1 bt568.1).bind fun t581=>(if t581=true then (laws_FnExactFirstColouring.j0 k bt568.1 bt568.2 bt577.1 bt577.2 (bt577.2 != bt568.2) a0_0 l0_1 bt572.1 bt572.2) else (laws_FnExactFirstColouring.j0 k bt568.1 bt568.2 bt577.1 bt577.2 true a0_0 l0_1 bt572.1 bt572.2)))))))))=some r:=h
 clear h
 replace H:=zz30.mp H
 obtain ⟨t563,A20,H⟩:=H
 replace H:(if t563 < 0 then (some true) else ((laws_toParty.f k a0_0 l0_1).bind fun bt564=>((spec_FirstColouring.f k bt564.1 bt564.2).bind fun bt568=>((laws_toParty.f k a0_0 l0_1).bind fun bt572=>((impl_FirstColouring.f k bt572.1 bt572.2).bind fun bt577=>((laws_eqIntS.f k bt577.1 bt568.1).bind fun t581=>(if t581=true then (laws_FnExactFirstColouring.j0 k bt568.1 bt568.2 bt577.1 bt577.2 (bt577.2 != bt568.2) a0_0 l0_1 bt572.1 bt572.2) else (laws_FnExactFirstColouring.j0 k bt568.1 bt568.2 bt577.1 bt577.2 true a0_0 l0_1 bt572.1 bt572.2))))))))=some r:=H
 have A2:=zz31 A20
 clear A20
 by_cases c3:t563 < 0
 ·rw [if_pos c3] at H
  have c3b0:decide (t563 < 0)=true:=decide_eq_true c3
  clear c3
  obtain rfl:=Option.some.inj H
  go_enter Try.func7,Try.ntmps7
  go_wp2_with (first | ((with_reducible refine gate_dst (N:=1) rfl ?_);refine box_event ?hg (N:=1) ?hd (cs:=#[.int .i64 a0_0,.slice A0_1 l0_1.length c0_1]) (t:=24) ?hr ?_;(case hd=>rfl);(case hg=>rfl);(case hr=>first | (go_simp;done) | (go_simp;rfl));intro gb562 hg w4 hbox hb;have n0_:=zz31 (zz4 (by repeat first | exact HB.out | apply zz2 | apply zz0 | apply zz1) hb);have n1_:=zz31 (hbox);have n2_:=zz31 ((by rw [hg];exact (zz5 (by repeat first | exact HB.out | apply zz2 | apply zz0 | apply zz1)):w.heap.size≤gb562));have n3_:=zz31 ((by rw [hg];exact (zz5 (by repeat first | exact HB.out | apply zz2 | apply zz0 | apply zz1)):w.heap.size≤gb562));clear HB;have HB:=n0_;have BK562:=n1_;have GW562:=n2_;have GE562:=n3_;clear n0_ n1_ n2_ n3_;clear hb hbox hg;have hcz5_0:w4.cell? ⟨gb562,0,none⟩=some (.int .i64 a0_0):=(zz9 BK562.out 0).trans rfl;have hcz5_1:w4.cell? ⟨gb562,1,none⟩=some (.slice A0_1 l0_1.length c0_1):=(zz9 BK562.out 1).trans rfl;have hfz5_0:=zz10 BK562.out 0;have hfz5_1:=zz10 BK562.out 1) | ((with_reducible refine gate_callee (f:=9) rfl ?_);refine goesL_ (some 16) rfl rfl Try.func9 (by kernel_rfl) rfl #[.agg #[.int .i64 a0_0,.slice A0_1 l0_1.length c0_1],.int .i64 1048576] rfl (by (try simp only [zz26,zz27,zz28]);first | done | rfl | (simp only [zz24,zz25];rfl)) ?_;(with_reducible refine (laws_szParty.calls a0_0 _ _ l0_1 1048576 t563 _ ?side1 ?side2 A2.out).mono ?_);(case side1=>repeat (first | exact (Kd.C_below HR0_1.out HB.out) | (with_reducible refine zz18 ?_ _) | (with_reducible refine zz19 ?_ _) | (with_reducible refine zz20 ?_)));(case side2=>exact HC0_1.out);rintro e w6 ⟨rfl,hb⟩;refine ⟨_,rfl,?_⟩;have n0_:=zz31 (zz11 (g:=gb562) (o:=.cells #[.int .i64 a0_0,.slice A0_1 l0_1.length c0_1] 24 (0,0)) (by (with_reducible repeat (first | refine zz6 ?_ _ | refine zz7 ?_ | refine zz8 ?_ _));exact BK562.out) hb);have n1_:=zz31 (zz4 (by repeat first | exact HB.out | apply zz2 | apply zz0 | apply zz1 | refine zz3 ?_ GE562.out) hb);clear BK562;clear HB;have BK562:=n0_;have HB:=n1_;clear n0_ n1_;(try clear hb);(try clear hb2);(try clear hk);(try clear hi)))
  go_ret
  exact ⟨by first | rfl | (simp [errW_none,errW_some] <;> rfl) | (simp [*,errW_none,errW_some] <;> rfl),by repeat first | exact HB.out | apply zz2 | apply zz0 | apply zz1 | refine zz3 ?_ GE562.out⟩
 ·rw [if_neg c3] at H
  have c3b0:decide (t563 < 0)=false:=decide_eq_false c3
  clear c3
  replace H:=zz30.mp H
  obtain ⟨⟨t564,t565⟩,A70,H⟩:=H
  replace H:((spec_FirstColouring.f k t564 t565).bind fun bt568=>((laws_toParty.f k a0_0 l0_1).bind fun bt572=>((impl_FirstColouring.f k bt572.1 bt572.2).bind fun bt577=>((laws_eqIntS.f k bt577.1 bt568.1).bind fun t581=>(if t581=true then (laws_FnExactFirstColouring.j0 k bt568.1 bt568.2 bt577.1 bt577.2 (bt577.2 != bt568.2) a0_0 l0_1 bt572.1 bt572.2) else (laws_FnExactFirstColouring.j0 k bt568.1 bt568.2 bt577.1 bt577.2 true a0_0 l0_1 bt572.1 bt572.2))))))=some r:=H
  have A7:=zz31 A70
  clear A70
  replace H:=zz30.mp H
  obtain ⟨⟨t568,t571⟩,A80,H⟩:=H
  replace H:((laws_toParty.f k a0_0 l0_1).bind fun bt572=>((impl_FirstColouring.f k bt572.1 bt572.2).bind fun bt577=>((laws_eqIntS.f k bt577.1 t568).bind fun t581=>(if t581=true then (laws_FnExactFirstColouring.j0 k t568 t571 bt577.1 bt577.2 (bt577.2 != t571) a0_0 l0_1 bt572.1 bt572.2) else (laws_FnExactFirstColouring.j0 k t568 t571 bt577.1 bt577.2 true a0_0 l0_1 bt572.1 bt572.2)))))=some r:=H
  have A8:=zz31 A80
  clear A80
  replace H:=zz30.mp H
  obtain ⟨⟨t572,t573⟩,A90,H⟩:=H
  replace H:((impl_FirstColouring.f k t572 t573).bind fun bt577=>((laws_eqIntS.f k bt577.1 t568).bind fun t581=>(if t581=true then (laws_FnExactFirstColouring.j0 k t568 t571 bt577.1 bt577.2 (bt577.2 != t571) a0_0 l0_1 t572 t573) else (laws_FnExactFirstColouring.j0 k t568 t571 bt577.1 bt577.2 true a0_0 l0_1 t572 t573))))=some r:=H
  have A9:=zz31 A90
  clear A90
  replace H:=zz30.mp H
  obtain ⟨⟨t577,t580⟩,A100,H⟩:=H
  replace H:((laws_eqIntS.f k t577 t568).bind fun t581=>(if t581=true then (laws_FnExactFirstColouring.j0 k t568 t571 t577 t580 (t580 != t571) a0_0 l0_1 t572 t573) else (laws_FnExactFirstColouring.j0 k t568 t571 t577 t580 true a0_0 l0_1 t572 t573)))=some r:=H
  have A10:=zz31 A100
  clear A100
  have HC11:=zz31 H
  clear H
  go_enter Try.func7,Try.ntmps7
  go_upto_region 8 with (first | ((with_reducible refine gate_dst (N:=1) rfl ?_);refine box_event ?hg (N:=1) ?hd (cs:=#[.int .i64 a0_0,.slice A0_1 l0_1.length c0_1]) (t:=24) ?hr ?_;(case hd=>rfl);(case hg=>rfl);(case hr=>first | (go_simp;done) | (go_simp;rfl));intro gb562 hg w12 hbox hb;have n0_:=zz31 (zz4 (by repeat first | exact HB.out | apply zz2 | apply zz0 | apply zz1) hb);have n1_:=zz31 (hbox);have n2_:=zz31 ((by rw [hg];exact (zz5 (by repeat first | exact HB.out | apply zz2 | apply zz0 | apply zz1)):w.heap.size≤gb562));have n3_:=zz31 ((by rw [hg];exact (zz5 (by repeat first | exact HB.out | apply zz2 | apply zz0 | apply zz1)):w.heap.size≤gb562));clear HB;have HB:=n0_;have BK562:=n1_;have GW562:=n2_;have GE562:=n3_;clear n0_ n1_ n2_ n3_;clear hb hbox hg;have hcz13_0:w12.cell? ⟨gb562,0,none⟩=some (.int .i64 a0_0):=(zz9 BK562.out 0).trans rfl;have hcz13_1:w12.cell? ⟨gb562,1,none⟩=some (.slice A0_1 l0_1.length c0_1):=(zz9 BK562.out 1).trans rfl;have hfz13_0:=zz10 BK562.out 0;have hfz13_1:=zz10 BK562.out 1) | ((with_reducible refine gate_callee (f:=9) rfl ?_);refine goesL_ (some 16) rfl rfl Try.func9 (by kernel_rfl) rfl #[.agg #[.int .i64 a0_0,.slice A0_1 l0_1.length c0_1],.int .i64 1048576] rfl (by (try simp only [zz26,zz27,zz28]);first | done | rfl | (simp only [zz24,zz25];rfl)) ?_;(with_reducible refine (laws_szParty.calls a0_0 _ _ l0_1 1048576 t563 _ ?side1 ?side2 A2.out).mono ?_);(case side1=>repeat (first | exact (Kd.C_below HR0_1.out HB.out) | (with_reducible refine zz18 ?_ _) | (with_reducible refine zz19 ?_ _) | (with_reducible refine zz20 ?_)));(case side2=>exact HC0_1.out);rintro e w14 ⟨rfl,hb⟩;refine ⟨_,rfl,?_⟩;have n0_:=zz31 (zz11 (g:=gb562) (o:=.cells #[.int .i64 a0_0,.slice A0_1 l0_1.length c0_1] 24 (0,0)) (by (with_reducible repeat (first | refine zz6 ?_ _ | refine zz7 ?_ | refine zz8 ?_ _));exact BK562.out) hb);have n1_:=zz31 (zz4 (by repeat first | exact HB.out | apply zz2 | apply zz0 | apply zz1 | refine zz3 ?_ GE562.out) hb);clear BK562;clear HB;have BK562:=n0_;have HB:=n1_;clear n0_ n1_;(try clear hb);(try clear hb2);(try clear hk);(try clear hi);have hcz15_0:w14.cell? ⟨gb562,0,none⟩=some (.int .i64 a0_0):=(zz9 BK562.out 0).trans rfl;have hcz15_1:w14.cell? ⟨gb562,1,none⟩=some (.slice A0_1 l0_1.length c0_1):=(zz9 BK562.out 1).trans rfl;have hfz15_0:=zz10 BK562.out 0;have hfz15_1:=zz10 BK562.out 1) | ((with_reducible refine gate_callee (f:=11) rfl ?_);refine goesL_ (some 21) rfl rfl Try.func11 (by kernel_rfl) rfl #[.agg #[.int .i64 a0_0,.slice A0_1 l0_1.length c0_1]] rfl (by (try simp only [zz26,zz27,zz28]);first | done | rfl | (simp only [zz24,zz25];rfl)) ?_;(with_reducible refine (laws_toParty.calls k a0_0 _ _ l0_1 t564 t565 _ ?side1 ?side2 A7.out).mono ?_);(case side1=>repeat (first | exact (Kd.C_below HR0_1.out HB.out) | (with_reducible refine zz18 ?_ _) | (with_reducible refine zz19 ?_ _) | (with_reducible refine zz20 ?_)));(case side2=>exact HC0_1.out);rintro e w16 ⟨v566,rfl,ho0,hb⟩;refine ⟨_,rfl,?_⟩;have n0_:=zz31 (Kd.R_lower ho0 (zz5 (by repeat first | exact HB.out | apply zz2 | apply zz0 | apply zz1 | refine zz3 ?_ GE562.out)));have n1_:=zz31 (zz11 (g:=gb562) (o:=.cells #[.int .i64 a0_0,.slice A0_1 l0_1.length c0_1] 24 (0,0)) (by (with_reducible repeat (first | refine zz6 ?_ _ | refine zz7 ?_ | refine zz8 ?_ _));exact BK562.out) hb);have n2_:=zz31 (zz4 (by repeat first | exact HB.out | apply zz2 | apply zz0 | apply zz1 | refine zz3 ?_ GE562.out) hb);clear BK562;clear HB;have HO567:=n0_;have BK562:=n1_;have HB:=n2_;clear n0_ n1_ n2_;(try clear hb);(try clear hb2);(try clear hk);(try clear hi);(try clear ho0);obtain ⟨Ao17,co17,eo17⟩:=Kd.R_slice HO567.out;subst eo17) | ((with_reducible refine gate_callee (f:=25) rfl ?_);refine goesL_ (some 22) rfl rfl Try.func25 (by kernel_rfl) rfl #[.agg #[.int .i64 t564,.slice Ao17 t565.length co17]] rfl (by (try simp only [zz26,zz27,zz28]);first | done | rfl | (simp only [zz24,zz25];rfl)) ?_;(with_reducible refine (spec_FirstColouring.calls k t564 _ _ t565 t568 t571 _ ?side1 ?side2 A8.out).mono ?_);(case side1=>repeat (first | exact (Kd.R_reads' HO567.out).2.2 | (with_reducible refine zz18 ?_ _) | (with_reducible refine zz19 ?_ _) | (with_reducible refine zz20 ?_)));(case side2=>exact (Kd.R_reads' HO567.out).2.1);rintro e w18 ⟨v569,rfl,ho0,hb⟩;refine ⟨_,rfl,?_⟩;have n0_:=zz31 (Kd.R_below (by (with_reducible repeat (first | apply zz12 | apply zz13 | apply zz14));exact HO567.out) hb);have n1_:=zz31 (Kd.R_lower ho0 (zz5 (by repeat first | exact HB.out | apply zz2 | apply zz0 | apply zz1 | refine zz3 ?_ GE562.out)));have n2_:=zz31 (zz11 (g:=gb562) (o:=.cells #[.int .i64 a0_0,.slice A0_1 l0_1.length c0_1] 24 (0,0)) (by (with_reducible repeat (first | refine zz6 ?_ _ | refine zz7 ?_ | refine zz8 ?_ _));exact BK562.out) hb);have n3_:=zz31 (zz4 (by repeat first | exact HB.out | apply zz2 | apply zz0 | apply zz1 | refine zz3 ?_ GE562.out) hb);clear HO567;clear BK562;clear HB;have HO567:=n0_;have HO570:=n1_;have BK562:=n2_;have HB:=n3_;clear n0_ n1_ n2_ n3_;(try clear hb);(try clear hb2);(try clear hk);(try clear hi);(try clear ho0);have hcz19_0:w18.cell? ⟨gb562,0,none⟩=some (.int .i64 a0_0):=(zz9 BK562.out 0).trans rfl;have hcz19_1:w18.cell? ⟨gb562,1,none⟩=some (.slice A0_1 l0_1.length c0_1):=(zz9 BK562.out 1).trans rfl;have hfz19_0:=zz10 BK562.out 0;have hfz19_1:=zz10 BK562.out 1) | ((with_reducible refine gate_callee (f:=11) rfl ?_);refine goesL_ (some 26) rfl rfl Try.func11 (by kernel_rfl) rfl #[.agg #[.int .i64 a0_0,.slice A0_1 l0_1.length c0_1]] rfl (by (try simp only [zz26,zz27,zz28]);first | done | rfl | (simp only [zz24,zz25];rfl)) ?_;(with_reducible refine (laws_toParty.calls k a0_0 _ _ l0_1 t572 t573 _ ?side1 ?side2 A9.out).mono ?_);(case side1=>repeat (first | exact (Kd.C_below HR0_1.out HB.out) | (with_reducible refine zz18 ?_ _) | (with_reducible refine zz19 ?_ _) | (with_reducible refine zz20 ?_)));(case side2=>exact HC0_1.out);rintro e w20 ⟨v574,rfl,ho0,hb⟩;refine ⟨_,rfl,?_⟩;have n0_:=zz31 (Kd.R_elder' (by (with_reducible repeat (first | apply zz12 | apply zz13 | apply zz14));exact HO567.out) (Kd.R_base ho0) hb);have n1_:=zz31 (Kd.R_below (by (with_reducible repeat (first | apply zz12 | apply zz13 | apply zz14));exact HO570.out) hb);have n2_:=zz31 (Kd.R_lower (Kd.R_new' ho0 (Kd.R_lt (by (with_reducible repeat (first | apply zz12 | apply zz13 | apply zz14));exact HO567.out))) (zz5 (by repeat first | exact HB.out | apply zz2 | apply zz0 | apply zz1 | refine zz3 ?_ GE562.out)));have n3_:=zz31 (zz11 (g:=gb562) (o:=.cells #[.int .i64 a0_0,.slice A0_1 l0_1.length c0_1] 24 (0,0)) (by (with_reducible repeat (first | refine zz6 ?_ _ | refine zz7 ?_ | refine zz8 ?_ _));exact BK562.out) hb);have n4_:=zz31 (zz4 (by repeat first | exact HB.out | apply zz2 | apply zz0 | apply zz1 | refine zz3 ?_ GE562.out) hb);clear HO567;clear HO570;clear BK562;clear HB;have HO567:=n0_;have HO570:=n1_;have HO575:=n2_;have BK562:=n3_;have HB:=n4_;clear n0_ n1_ n2_ n3_ n4_;(try clear hb);(try clear hb2);(try clear hk);(try clear hi);(try clear ho0)) | ((with_reducible refine gate_dst (N:=6) rfl ?_);refine box_event ?hg (N:=6) ?hd (cs:=#[.int .i64 0,.slice none 0 0]) (t:=31) ?hr ?_;(case hd=>rfl);(case hg=>rfl);(case hr=>first | (go_simp;done) | (go_simp;rfl));intro gb576 hg w21 hbox hb;have n0_:=zz31 (Kd.R_below (by (with_reducible repeat (first | apply zz12 | apply zz13 | apply zz14));exact HO567.out) hb);have n1_:=zz31 (Kd.R_below (by (with_reducible repeat (first | apply zz12 | apply zz13 | apply zz14));exact HO570.out) hb);have n2_:=zz31 (Kd.R_below (by (with_reducible repeat (first | apply zz12 | apply zz13 | apply zz14));exact HO575.out) hb);have n3_:=zz31 (zz11 (g:=gb562) (o:=.cells #[.int .i64 a0_0,.slice A0_1 l0_1.length c0_1] 24 (0,0)) (by (with_reducible repeat (first | refine zz6 ?_ _ | refine zz7 ?_ | refine zz8 ?_ _));exact BK562.out) hb);have n4_:=zz31 (zz4 (by repeat first | exact HB.out | apply zz2 | apply zz0 | apply zz1 | refine zz3 ?_ GE562.out) hb);have n5_:=zz31 (hbox);have n6_:=zz31 ((by rw [hg];exact (zz5 (by repeat first | exact HB.out | apply zz2 | apply zz0 | apply zz1 | refine zz3 ?_ GE562.out)):w.heap.size≤gb576));have n7_:=zz31 ((by rw [hg];exact (zz5 (by repeat first | exact HB.out | apply zz2 | apply zz0 | apply zz1 | refine zz3 ?_ GE562.out)):w.heap.size≤gb576));have n8_:=zz31 ((by rw [hg];exact Nat.ne_of_lt (blk_lt (g:=gb562) (o:=.cells #[.int .i64 a0_0,.slice A0_1 l0_1.length c0_1] 24 (0,0)) (by (with_reducible repeat (first | refine zz6 ?_ _ | refine zz7 ?_ | refine zz8 ?_ _));exact BK562.out)):gb562 ≠ gb576));have n9_:=zz31 ((by rw [hg];exact Nat.ne_of_gt (blk_lt (g:=gb562) (o:=.cells #[.int .i64 a0_0,.slice A0_1 l0_1.length c0_1] 24 (0,0)) (by (with_reducible repeat (first | refine zz6 ?_ _ | refine zz7 ?_ | refine zz8 ?_ _));exact BK562.out)):gb576 ≠ gb562));clear HO567;clear HO570;clear HO575;clear BK562;clear HB;have HO567:=n0_;have HO570:=n1_;have HO575:=n2_;have BK562:=n3_;have HB:=n4_;have BK576:=n5_;have GW576:=n6_;have GE576:=n7_;have NB562_576:=n8_;have NB576_562:=n9_;clear n0_ n1_ n2_ n3_ n4_ n5_ n6_ n7_ n8_ n9_;clear hb hbox hg;have hnb22:=NB576_562.out;have hnc22:=NB562_576.out;have hcz23_0:w21.cell? ⟨gb576,0,none⟩=some (.int .i64 0):=(zz9 BK576.out 0).trans rfl;have hcz23_1:w21.cell? ⟨gb576,1,none⟩=some (.slice none 0 0):=(zz9 BK576.out 1).trans rfl;have hfz23_0:=zz10 BK576.out 0;have hfz23_1:=zz10 BK576.out 1;obtain ⟨Ao24,co24,eo24⟩:=Kd.R_slice HO575.out;subst eo24) | ((with_reducible refine gate_callee (f:=26) rfl ?_);refine goesL_ (some 29) rfl rfl Try.func26 (by kernel_rfl) rfl #[.agg #[.int .i64 t572,.slice Ao24 t573.length co24]] rfl (by (try simp only [zz26,zz27,zz28]);first | done | rfl | (simp only [zz24,zz25];rfl)) ?_;(with_reducible refine (impl_FirstColouring.calls k t572 _ _ t573 t577 t580 _ ?side1 ?side2 A10.out).mono ?_);(case side1=>refine (Kd.R_reads' (e:=79) (base:=w.heap.size) (ok:=fun k_=>(True∧some k_ ≠ (.slice Ao17 t565.length co17:Value).ownBlock)) (n:=t573.length) (c:=co24) ?_).2.2;exact (by (with_reducible repeat (first | apply zz12 | apply zz13 | apply zz14));exact (Kd.R_mono (Kd.R_far (p:=⟨gb576,1,none⟩) (Kd.R_far (p:=⟨gb576,0,none⟩) (Kd.R_types HO575.out BK576.out (by decide)) (fun _ hk=>hk.2) (.int .i64 t572)) (fun _ hk=>hk.2) (.slice Ao24 t573.length co24)) (fun _ h_=>h_.1))));(case side2=>exact (Kd.R_reads' HO575.out).2.1);rintro e w25 ⟨v578,rfl,ho0,hb⟩;refine ⟨_,rfl,?_⟩;have n0_:=zz31 (Kd.R_below (by (with_reducible repeat (first | apply zz12 | apply zz13 | apply zz14));exact (Kd.R_mono (Kd.R_far (p:=⟨gb576,1,none⟩) (Kd.R_far (p:=⟨gb576,0,none⟩) (Kd.R_types HO567.out BK576.out (by decide)) (fun _ hk=>hk.2) (.int .i64 t572)) (fun _ hk=>hk.2) (.slice Ao24 t573.length co24)) (fun _ h_=>h_.1))) hb);have n1_:=zz31 (Kd.R_elder' (by (with_reducible repeat (first | apply zz12 | apply zz13 | apply zz14));exact (Kd.R_mono (Kd.R_far (p:=⟨gb576,1,none⟩) (Kd.R_far (p:=⟨gb576,0,none⟩) (Kd.R_types HO570.out BK576.out (by decide)) (fun _ hk=>hk.2) (.int .i64 t572)) (fun _ hk=>hk.2) (.slice Ao24 t573.length co24)) (fun _ h_=>h_.1))) (Kd.R_base ho0) hb);have n2_:=zz31 (Kd.R_below (by (with_reducible repeat (first | apply zz12 | apply zz13 | apply zz14));exact (Kd.R_mono (Kd.R_far (p:=⟨gb576,1,none⟩) (Kd.R_far (p:=⟨gb576,0,none⟩) (Kd.R_types HO575.out BK576.out (by decide)) (fun _ hk=>hk.2) (.int .i64 t572)) (fun _ hk=>hk.2) (.slice Ao24 t573.length co24)) (fun _ h_=>h_.1))) hb);have n3_:=zz31 (Kd.R_lower (Kd.R_new' ho0 (Kd.R_lt (by (with_reducible repeat (first | apply zz12 | apply zz13 | apply zz14));exact (Kd.R_mono (Kd.R_far (p:=⟨gb576,1,none⟩) (Kd.R_far (p:=⟨gb576,0,none⟩) (Kd.R_types HO570.out BK576.out (by decide)) (fun _ hk=>hk.2) (.int .i64 t572)) (fun _ hk=>hk.2) (.slice Ao24 t573.length co24)) (fun _ h_=>h_.1))))) (zz5 (by repeat first | exact HB.out | apply zz2 | apply zz0 | apply zz1 | refine zz3 ?_ GE562.out | refine zz3 ?_ GE576.out)));have n4_:=zz31 (zz11 (g:=gb562) (o:=.cells #[.int .i64 a0_0,.slice A0_1 l0_1.length c0_1] 24 (0,0)) (by (with_reducible repeat (first | refine zz6 ?_ _ | refine zz7 ?_ | refine zz8 ?_ _));refine blk_far ?_ NB562_576.out _;(with_reducible repeat (first | refine zz6 ?_ _ | refine zz7 ?_ | refine zz8 ?_ _));refine blk_far ?_ NB562_576.out _;(with_reducible repeat (first | refine zz6 ?_ _ | refine zz7 ?_ | refine zz8 ?_ _));exact BK562.out) hb);have n5_:=zz31 (zz11 (g:=gb576) (o:=.cells #[.int .i64 t572,.slice Ao24 t573.length co24] 31 (0,0)) (by (with_reducible repeat (first | refine zz6 ?_ _ | refine zz7 ?_ | refine zz8 ?_ _));refine blk_put (cs:=#[.int .i64 t572,.slice none 0 0]) ?_ 1 _ rfl;(with_reducible repeat (first | refine zz6 ?_ _ | refine zz7 ?_ | refine zz8 ?_ _));refine blk_put (cs:=#[.int .i64 0,.slice none 0 0]) ?_ 0 _ rfl;(with_reducible repeat (first | refine zz6 ?_ _ | refine zz7 ?_ | refine zz8 ?_ _));exact BK576.out) hb);have n6_:=zz31 (zz4 (by repeat first | exact HB.out | apply zz2 | apply zz0 | apply zz1 | refine zz3 ?_ GE562.out | refine zz3 ?_ GE576.out) hb);clear HO567;clear HO570;clear HO575;clear BK562;clear BK576;clear HB;have HO567:=n0_;have HO570:=n1_;have HO575:=n2_;have HO579:=n3_;have BK562:=n4_;have BK576:=n5_;have HB:=n6_;clear n0_ n1_ n2_ n3_ n4_ n5_ n6_;(try clear hb);(try clear hb2);(try clear hk);(try clear hi);(try clear ho0)))
  (try simp only [Act.put,zz21,zz22,zz23])
  go_cut [40] (fun v40 wc=>∃ (kq:Nat) (x40_10:Bool),v40=.bool x40_10∧Aside0 (laws_FnExactFirstColouring.j0 kq t568 t571 t577 t580 x40_10 a0_0 l0_1 t572 t573=some r)∧Aside0 (kq≤k)∧Aside0 (Kd.R (Kd.int .i64) 3 wc w.heap.size (fun k_=>some k_ ≠ (v578:Value).ownBlock) v569 t568)∧Aside0 (Kd.R (Kd.int .i64) 3 wc w.heap.size (fun k_=>some k_ ≠ (v569:Value).ownBlock) v578 t577)∧Aside0 (Kd.R k79 79 wc w.heap.size (fun _=>True) (.slice Ao24 t573.length co24) t573)∧Aside0 (wc.heap[gb562]?=some (.cells #[.int .i64 a0_0,(.slice A0_1 l0_1.length c0_1)] 24 (0,0)))∧Aside0 (wc.heap[gb576]?=some (.cells #[.int .i64 t572,(.slice Ao24 t573.length co24)] 31 (0,0)))∧Aside0 (Below w.heap.size w wc))
  case first =>
   have H:=HC11.out
   clear HC11
   replace H:=zz30.mp H
   obtain ⟨t581,A260,H⟩:=H
   replace H:(if t581=true then (laws_FnExactFirstColouring.j0 k t568 t571 t577 t580 (t580 != t571) a0_0 l0_1 t572 t573) else (laws_FnExactFirstColouring.j0 k t568 t571 t577 t580 true a0_0 l0_1 t572 t573))=some r:=H
   have A26:=zz31 A260
   clear A260
   by_cases c27:t581=true
   ·subst c27
    have H1:(laws_FnExactFirstColouring.j0 k t568 t571 t577 t580 (t580 != t571) a0_0 l0_1 t572 t573)=some r:=by rw [if_pos rfl] at H;exact H
    clear H
    have H:=H1
    clear H1
    have H':=zz31 H
    clear H
    obtain ⟨Ao28,co28,eo28⟩:=Kd.R_slice HO579.out
    subst eo28
    obtain ⟨Ao29,co29,eo29⟩:=Kd.R_slice HO570.out
    subst eo29
    go_wp2_with (first | ((with_reducible refine gate_callee (f:=14) rfl ?_);refine goesL_ (some 34) rfl rfl Try.func14 (by kernel_rfl) rfl #[.slice Ao28 t577.length co28,.slice Ao29 t568.length co29] rfl (by (try simp only [zz26,zz27,zz28]);first | done | rfl | (simp only [zz24,zz25];rfl)) ?_;(with_reducible refine (laws_eqIntS.calls k _ _ t577 _ _ t568 true _ ?side1 ?side2 ?side3 ?side4 A26.out).mono ?_);(case side1=>repeat (first | exact (Kd.R_reads' HO579.out).2.2 | (with_reducible refine zz18 ?_ _) | (with_reducible refine zz19 ?_ _) | (with_reducible refine zz20 ?_)));(case side2=>exact (Kd.R_reads' HO579.out).2.1);(case side3=>repeat (first | exact (Kd.R_reads' HO570.out).2.2 | (with_reducible refine zz18 ?_ _) | (with_reducible refine zz19 ?_ _) | (with_reducible refine zz20 ?_)));(case side4=>exact (Kd.R_reads' HO570.out).2.1);rintro e w' ⟨rfl,⟨nd,rfl⟩⟩;refine ⟨_,rfl,?_⟩))
    go_meet
    case rel=>exact ⟨_,((t580 != t571)),(by first | rfl | (simp;done) | (simp [*];done)),H',⟨by first | omega | exact Nat.le_refl _⟩,⟨by (with_reducible repeat (first | apply zz12 | apply zz13 | apply zz14));exact Kd.R_mono HO570.out (fun _ hk=>hk.2)⟩,⟨by (with_reducible repeat (first | apply zz12 | apply zz13 | apply zz14));exact Kd.R_mono HO579.out (fun _ hk=>hk.2)⟩,⟨by (with_reducible repeat (first | apply zz12 | apply zz13 | apply zz14));exact Kd.R_mono HO575.out (fun _ hk=>trivial)⟩,⟨by (with_reducible repeat (first | refine zz6 ?_ _ | refine zz7 ?_ | refine zz8 ?_ _));exact BK562.out⟩,⟨by (with_reducible repeat (first | refine zz6 ?_ _ | refine zz7 ?_ | refine zz8 ?_ _));exact BK576.out⟩,⟨by repeat first | exact HB.out | apply zz2 | apply zz0 | apply zz1 | refine zz3 ?_ GE562.out | refine zz3 ?_ GE576.out⟩⟩
   ·replace c27:=Bool.eq_false_iff.mpr c27
    subst c27
    have H1:(laws_FnExactFirstColouring.j0 k t568 t571 t577 t580 true a0_0 l0_1 t572 t573)=some r:=by rw [if_neg (show ¬ (false=true) by decide)] at H;exact H
    clear H
    have H:=H1
    clear H1
    have H':=zz31 H
    clear H
    obtain ⟨Ao30,co30,eo30⟩:=Kd.R_slice HO579.out
    subst eo30
    obtain ⟨Ao31,co31,eo31⟩:=Kd.R_slice HO570.out
    subst eo31
    go_wp2_with (first | ((with_reducible refine gate_callee (f:=14) rfl ?_);refine goesL_ (some 34) rfl rfl Try.func14 (by kernel_rfl) rfl #[.slice Ao30 t577.length co30,.slice Ao31 t568.length co31] rfl (by (try simp only [zz26,zz27,zz28]);first | done | rfl | (simp only [zz24,zz25];rfl)) ?_;(with_reducible refine (laws_eqIntS.calls k _ _ t577 _ _ t568 false _ ?side1 ?side2 ?side3 ?side4 A26.out).mono ?_);(case side1=>repeat (first | exact (Kd.R_reads' HO579.out).2.2 | (with_reducible refine zz18 ?_ _) | (with_reducible refine zz19 ?_ _) | (with_reducible refine zz20 ?_)));(case side2=>exact (Kd.R_reads' HO579.out).2.1);(case side3=>repeat (first | exact (Kd.R_reads' HO570.out).2.2 | (with_reducible refine zz18 ?_ _) | (with_reducible refine zz19 ?_ _) | (with_reducible refine zz20 ?_)));(case side4=>exact (Kd.R_reads' HO570.out).2.1);rintro e w' ⟨rfl,⟨nd,rfl⟩⟩;refine ⟨_,rfl,?_⟩))
    go_meet
    case rel=>exact ⟨_,(true),(by first | rfl | (simp;done) | (simp [*];done)),H',⟨by first | omega | exact Nat.le_refl _⟩,⟨by (with_reducible repeat (first | apply zz12 | apply zz13 | apply zz14));exact Kd.R_mono HO570.out (fun _ hk=>hk.2)⟩,⟨by (with_reducible repeat (first | apply zz12 | apply zz13 | apply zz14));exact Kd.R_mono HO579.out (fun _ hk=>hk.2)⟩,⟨by (with_reducible repeat (first | apply zz12 | apply zz13 | apply zz14));exact Kd.R_mono HO575.out (fun _ hk=>trivial)⟩,⟨by (with_reducible repeat (first | refine zz6 ?_ _ | refine zz7 ?_ | refine zz8 ?_ _));exact BK562.out⟩,⟨by (with_reducible repeat (first | refine zz6 ?_ _ | refine zz7 ?_ | refine zz8 ?_ _));exact BK576.out⟩,⟨by repeat first | exact HB.out | apply zz2 | apply zz0 | apply zz1 | refine zz3 ?_ GE562.out | refine zz3 ?_ GE576.out⟩⟩
  case rest =>
   clear HC11
   try clear c1
   try clear c2
   try clear p2
   try clear c3
   try clear c3b0
   try clear c7
   try clear c9
   try clear c11
   try clear c14
   try clear c22
   try clear c25
   try clear c26
   try clear c27
   try clear hcz13_0
   try clear hcz13_1
   try clear hcz15_0
   try clear hcz15_1
   try clear hcz19_0
   try clear hcz19_1
   try clear hcz23_0
   try clear hcz23_1
   try clear hcz5_0
   try clear hcz5_1
   try clear hfz13_0
   try clear hfz13_1
   try clear hfz15_0
   try clear hfz15_1
   try clear hfz19_0
   try clear hfz19_1
   try clear hfz23_0
   try clear hfz23_1
   try clear hfz5_0
   try clear hfz5_1
   obtain ⟨kq,x40_10,rfl,HA,HJ10,HO_4,HO_7,HO_577001,BK562,BK576,HB⟩:=hcut
   cases kq with
   | zero=>exact absurd HA.out (by simp [laws_FnExactFirstColouring.j0])
   | succ kj10 =>
    have H:=HA.out
    clear HA
    simp only [laws_FnExactFirstColouring.j0] at H
    by_cases c32:x40_10=true
    ·subst c32
     have H1:(some false)=some r:=by rw [if_pos rfl] at H;exact H
     clear H
     have H:=H1
     clear H1
     obtain rfl:=Option.some.inj H
     go_wp2
     go_ret
     exact ⟨by first | rfl | (simp [errW_none,errW_some] <;> rfl) | (simp [*,errW_none,errW_some] <;> rfl),by repeat first | exact HB.out | apply zz2 | apply zz0 | apply zz1 | refine zz3 ?_ GE562.out | refine zz3 ?_ GE576.out⟩
    ·replace c32:=Bool.eq_false_iff.mpr c32
     subst c32
     have H1:((laws_toParty.f kj10 a0_0 l0_1).bind fun bt582=>((laws_eqParty.f kj10 t572 t573 bt582.1 bt582.2).bind fun t586=>(if t586=true then ((laws_markParty.f kj10 t572 t573 1).bind fun bt587=>(if bt587.1 < 0 then (laws_FnExactFirstColouring.j1 kj10 t568 t571 t577 true a0_0 l0_1) else ((laws_eqIntS.f kj10 t577 t568).bind fun t589=>(if t589=true then (laws_FnExactFirstColouring.j1 kj10 t568 t571 t577 (t580 != t571) a0_0 l0_1) else (laws_FnExactFirstColouring.j1 kj10 t568 t571 t577 true a0_0 l0_1))))) else (some false))))=some r:=by rw [if_neg (show ¬ (false=true) by decide)] at H;exact H
     clear H
     have H:=H1
     clear H1
     replace H:=zz30.mp H
     obtain ⟨⟨t582,t583⟩,A330,H⟩:=H
     replace H:((laws_eqParty.f kj10 t572 t573 t582 t583).bind fun t586=>(if t586=true then ((laws_markParty.f kj10 t572 t573 1).bind fun bt587=>(if bt587.1 < 0 then (laws_FnExactFirstColouring.j1 kj10 t568 t571 t577 true a0_0 l0_1) else ((laws_eqIntS.f kj10 t577 t568).bind fun t589=>(if t589=true then (laws_FnExactFirstColouring.j1 kj10 t568 t571 t577 (t580 != t571) a0_0 l0_1) else (laws_FnExactFirstColouring.j1 kj10 t568 t571 t577 true a0_0 l0_1))))) else (some false)))=some r:=H
     have A33:=zz31 A330
     clear A330
     replace H:=zz30.mp H
     obtain ⟨t586,A340,H⟩:=H
     replace H:(if t586=true then ((laws_markParty.f kj10 t572 t573 1).bind fun bt587=>(if bt587.1 < 0 then (laws_FnExactFirstColouring.j1 kj10 t568 t571 t577 true a0_0 l0_1) else ((laws_eqIntS.f kj10 t577 t568).bind fun t589=>(if t589=true then (laws_FnExactFirstColouring.j1 kj10 t568 t571 t577 (t580 != t571) a0_0 l0_1) else (laws_FnExactFirstColouring.j1 kj10 t568 t571 t577 true a0_0 l0_1))))) else (some false))=some r:=H
     have A34:=zz31 A340
     clear A340
     by_cases c35:t586=true
     ·subst c35
      have H1:((laws_markParty.f kj10 t572 t573 1).bind fun bt587=>(if bt587.1 < 0 then (laws_FnExactFirstColouring.j1 kj10 t568 t571 t577 true a0_0 l0_1) else ((laws_eqIntS.f kj10 t577 t568).bind fun t589=>(if t589=true then (laws_FnExactFirstColouring.j1 kj10 t568 t571 t577 (t580 != t571) a0_0 l0_1) else (laws_FnExactFirstColouring.j1 kj10 t568 t571 t577 true a0_0 l0_1)))))=some r:=by rw [if_pos rfl] at H;exact H
      clear H
      have H:=H1
      clear H1
      replace H:=zz30.mp H
      obtain ⟨⟨t587,t588⟩,A360,H⟩:=H
      replace H:(if t587 < 0 then (laws_FnExactFirstColouring.j1 kj10 t568 t571 t577 true a0_0 l0_1) else ((laws_eqIntS.f kj10 t577 t568).bind fun t589=>(if t589=true then (laws_FnExactFirstColouring.j1 kj10 t568 t571 t577 (t580 != t571) a0_0 l0_1) else (laws_FnExactFirstColouring.j1 kj10 t568 t571 t577 true a0_0 l0_1))))=some r:=H
      have A36:=zz31 A360
      clear A360
      have HC37:=zz31 H
      clear H
      try go_wp2
      have n0_:=zz31 (zz14 HO_4.out)
      have n1_:=zz31 (zz14 HO_7.out)
      have n2_:=zz31 (zz14 HO_577001.out)
      have n3_:=zz31 (zz7 BK562.out)
      have n4_:=zz31 (zz7 BK576.out)
      have n5_:=zz31 (zz1 HB.out)
      clear HO_4
      clear HO_7
      clear HO_577001
      clear BK562
      clear BK576
      clear HB
      have HO_4:=n0_
      have HO_7:=n1_
      have HO_577001:=n2_
      have BK562:=n3_
      have BK576:=n4_
      have HB:=n5_
      clear n0_ n1_ n2_ n3_ n4_ n5_
      refine start_ (n:=5) (S:=fun w'=>w'.cell? ⟨gb576,0,none⟩=some (.int .i64 t572)∧w'.cell? ⟨gb576,1,none⟩=some (.slice Ao24 t573.length co24)∧w'.cell? ⟨gb562,0,none⟩=some (.int .i64 a0_0)∧w'.cell? ⟨gb562,1,none⟩=some (.slice A0_1 l0_1.length c0_1)) (ds:=[]) #[F,F,F,F,F] (by kernel_rfl) rfl rfl ⟨(zz9 BK576.out 0).trans rfl,(zz9 BK576.out 1).trans rfl,(zz9 BK562.out 0).trans rfl,(zz9 BK562.out 1).trans rfl⟩ (fun hHeld=>?_)
      generalize wc.drew=w38 at HO_4 HO_7 HO_577001 BK562 BK576 HB hHeld ⊢
      refine take_ (i:=0) (N:=some 41) (v:=?_) (a':=?_) #[T,F,F,F,F] rfl rfl (by kernel_rfl) (fun _ _ _ h=>h) (Or.inl ⟨by rfl,?_⟩) hHeld ?_ ?_
      rotate_left
      ·rintro w' ⟨s0,s1,s2,s3⟩
       go_simp
       with_reducible rfl
      rotate_left
      ·simp only [Act.put,zz21,zz22,zz23,i64_w,i32_w]
       rfl
      refine take_ (i:=1) (N:=some 42) (v:=?_) (a':=?_) #[T,T,F,F,F] rfl rfl (by kernel_rfl) (fun _ _ _ h=>h) (Or.inl ⟨by rfl,?_⟩) hHeld ?_ ?_
      rotate_left
      ·rintro w' ⟨s0,s1,s2,s3⟩
       go_simp
       with_reducible rfl
      rotate_left
      ·simp only [Act.put,zz21,zz22,zz23,i64_w,i32_w]
       rfl
      refine one_ (i:=2) (N:=some 43) #[T,T,T,F,F] rfl rfl (by kernel_rfl) (by decide) (fun K hK=>?_)
      refine goes_ Try.func11 (by kernel_rfl) rfl #[.agg #[.int .i64 a0_0,.slice A0_1 l0_1.length c0_1]] (by rfl) rfl rfl (by (try simp only [zz26,zz27,zz28]);first | done | rfl | (simp only [zz24,zz25];rfl)) ?_
      with_reducible refine (laws_toParty.calls kj10 a0_0 _ _ l0_1 t582 t583 _ ?side1 ?side2 A33.out).mono ?_
      (case side1=>repeat (first | exact (Kd.C_below HR0_1.out HB.out) | (with_reducible refine zz18 ?_ _) | (with_reducible refine zz19 ?_ _) | (with_reducible refine zz20 ?_)))
      (case side2=>exact HC0_1.out)
      rintro e w39 ⟨v584,rfl,ho0,hb⟩
      refine ⟨_,rfl,?_⟩
      have n0_:=zz31 (Kd.R_below (by (with_reducible repeat (first | apply zz12 | apply zz13 | apply zz14));exact HO_4.out) hb)
      have n1_:=zz31 (Kd.R_below (by (with_reducible repeat (first | apply zz12 | apply zz13 | apply zz14));exact HO_7.out) hb)
      have n2_:=zz31 (Kd.R_elder' (by (with_reducible repeat (first | apply zz12 | apply zz13 | apply zz14));exact HO_577001.out) (Kd.R_base ho0) hb)
      have n3_:=zz31 (Kd.R_lower (Kd.R_new' ho0 (Kd.R_lt (by (with_reducible repeat (first | apply zz12 | apply zz13 | apply zz14));exact HO_577001.out))) (zz5 (by repeat first | exact HB.out | apply zz2 | apply zz0 | apply zz1 | refine zz3 ?_ GE562.out | refine zz3 ?_ GE576.out)))
      have n4_:=zz31 (zz11 (g:=gb562) (o:=.cells #[.int .i64 a0_0,.slice A0_1 l0_1.length c0_1] 24 (0,0)) (by (with_reducible repeat (first | refine zz6 ?_ _ | refine zz7 ?_ | refine zz8 ?_ _));exact BK562.out) hb)
      have n5_:=zz31 (zz11 (g:=gb576) (o:=.cells #[.int .i64 t572,.slice Ao24 t573.length co24] 31 (0,0)) (by (with_reducible repeat (first | refine zz6 ?_ _ | refine zz7 ?_ | refine zz8 ?_ _));exact BK576.out) hb)
      have n6_:=zz31 (zz4 (by repeat first | exact HB.out | apply zz2 | apply zz0 | apply zz1 | refine zz3 ?_ GE562.out | refine zz3 ?_ GE576.out) hb)
      clear HO_4
      clear HO_7
      clear HO_577001
      clear BK562
      clear BK576
      clear HB
      have HO_4:=n0_
      have HO_7:=n1_
      have HO_577001:=n2_
      have HO585:=n3_
      have BK562:=n4_
      have BK576:=n5_
      have HB:=n6_
      clear n0_ n1_ n2_ n3_ n4_ n5_ n6_
      (try clear hb)
      (try clear hb2)
      (try clear hk)
      (try clear hi)
      (try clear ho0)
      obtain ⟨Ao40,co40,eo40⟩:=Kd.R_slice HO585.out
      (first | subst eo40 | (injection eo40 with f1_ f2_ f3_;have f4_:=f1_.symm;have f5_:=f3_.symm;clear f1_ f2_ f3_;subst f4_;subst f5_))
      refine hK.out _ _ ⟨(zz9 BK576.out 0).trans rfl,(zz9 BK576.out 1).trans rfl,(zz9 BK562.out 0).trans rfl,(zz9 BK562.out 1).trans rfl⟩ (fun hHeld=>?_)
      clear hK K
      refine norm_ (a':=?_) ?_ ?_
      rotate_left
      ·show Act.put _ (some 43) _=_
       simp only [Act.put,zz21,zz22,zz23,i64_w,i32_w]
       rfl
      refine one_ (i:=3) (N:=some 44) #[T,T,T,T,F] rfl rfl (by kernel_rfl) (by decide) (fun K hK=>?_)
      refine goes_ Try.func15 (by kernel_rfl) rfl #[.agg #[.int .i64 t572,.slice Ao24 t573.length co24],.agg #[.int .i64 t582,.slice Ao40 t583.length co40]] (by rfl) rfl rfl (by (try simp only [zz26,zz27,zz28]);first | done | rfl | (simp only [zz24,zz25];rfl)) ?_
      with_reducible refine (laws_eqParty.calls kj10 t572 _ _ t573 t582 _ _ t583 true _ ?side1 ?side2 ?side3 ?side4 A34.out).mono ?_
      (case side1=>repeat (first | exact (Kd.R_reads' HO_577001.out).2.2 | (with_reducible refine zz18 ?_ _) | (with_reducible refine zz19 ?_ _) | (with_reducible refine zz20 ?_)))
      (case side2=>exact (Kd.R_reads' HO_577001.out).2.1)
      (case side3=>repeat (first | exact (Kd.R_reads' HO585.out).2.2 | (with_reducible refine zz18 ?_ _) | (with_reducible refine zz19 ?_ _) | (with_reducible refine zz20 ?_)))
      (case side4=>exact (Kd.R_reads' HO585.out).2.1)
      rintro e w41 ⟨rfl,hb⟩
      refine ⟨_,rfl,?_⟩
      have n0_:=zz31 (Kd.R_below (by (with_reducible repeat (first | apply zz12 | apply zz13 | apply zz14));exact HO_4.out) hb)
      have n1_:=zz31 (Kd.R_below (by (with_reducible repeat (first | apply zz12 | apply zz13 | apply zz14));exact HO_7.out) hb)
      have n2_:=zz31 (Kd.R_below (by (with_reducible repeat (first | apply zz12 | apply zz13 | apply zz14));exact HO_577001.out) hb)
      have n3_:=zz31 (Kd.R_below (by (with_reducible repeat (first | apply zz12 | apply zz13 | apply zz14));exact HO585.out) hb)
      have n4_:=zz31 (zz11 (g:=gb562) (o:=.cells #[.int .i64 a0_0,.slice A0_1 l0_1.length c0_1] 24 (0,0)) (by (with_reducible repeat (first | refine zz6 ?_ _ | refine zz7 ?_ | refine zz8 ?_ _));exact BK562.out) hb)
      have n5_:=zz31 (zz11 (g:=gb576) (o:=.cells #[.int .i64 t572,.slice Ao24 t573.length co24] 31 (0,0)) (by (with_reducible repeat (first | refine zz6 ?_ _ | refine zz7 ?_ | refine zz8 ?_ _));exact BK576.out) hb)
      have n6_:=zz31 (zz4 (by repeat first | exact HB.out | apply zz2 | apply zz0 | apply zz1 | refine zz3 ?_ GE562.out | refine zz3 ?_ GE576.out) hb)
      clear HO_4
      clear HO_7
      clear HO_577001
      clear HO585
      clear BK562
      clear BK576
      clear HB
      have HO_4:=n0_
      have HO_7:=n1_
      have HO_577001:=n2_
      have HO585:=n3_
      have BK562:=n4_
      have BK576:=n5_
      have HB:=n6_
      clear n0_ n1_ n2_ n3_ n4_ n5_ n6_
      (try clear hb)
      (try clear hb2)
      (try clear hk)
      (try clear hi)
      refine hK.out _ _ ⟨(zz9 BK576.out 0).trans rfl,(zz9 BK576.out 1).trans rfl,(zz9 BK562.out 0).trans rfl,(zz9 BK562.out 1).trans rfl⟩ (fun hHeld=>?_)
      clear hK K
      refine norm_ (a':=?_) ?_ ?_
      rotate_left
      ·show Act.put _ (some 44) _=_
       simp only [Act.put,zz21,zz22,zz23,i64_w,i32_w]
       rfl
      refine pure_ (i:=4) (N:=some 45) (v:=?_) (a':=?_) #[T,T,T,T,T] rfl rfl (by kernel_rfl) (fun _ _ _ h=>h) (Or.inl ⟨by rfl,?_⟩) ?_ ?_
      rotate_left
      ·intro w'
       go_simp
       with_reducible rfl
      rotate_left
      ·simp only [Act.put,zz21,zz22,zz23,i64_w,i32_w]
       rfl
      refine done_ (by kernel_rfl) ?_
      have hnb42:=NB576_562.out
      have hnc42:=NB562_576.out
      have hcz43_0:w41.cell? ⟨gb576,0,none⟩=some (.int .i64 t572):=(zz9 BK576.out 0).trans rfl
      have hcz43_1:w41.cell? ⟨gb576,1,none⟩=some (.slice Ao24 t573.length co24):=(zz9 BK576.out 1).trans rfl
      have hfz43_0:=zz10 BK576.out 0
      have hfz43_1:=zz10 BK576.out 1
      go_upto_region 14 with (first | ((with_reducible refine gate_callee (f:=16) rfl ?_);refine goesL_ (some 48) rfl rfl Try.func16 (by kernel_rfl) rfl #[.agg #[.int .i64 t572,.slice Ao24 t573.length co24],.int .i64 1] rfl (by (try simp only [zz26,zz27,zz28]);first | done | rfl | (simp only [zz24,zz25];rfl)) ?_;(with_reducible refine (laws_markParty.calls kj10 t572 (fun k_=>some k_=(.slice Ao24 t573.length co24:Value).ownBlock) (.slice Ao24 t573.length co24) t573 1 t587 t588 w _ ?side1 ?side2 A36.out).mono ?_);(case side1=>repeat first | exact HB.out | apply zz2 | apply zz0 | apply zz1 | refine zz3 ?_ GE562.out | refine zz3 ?_ GE576.out);(case side2=>exact Kd.R_tight rfl HO_577001.out);rintro e w44 ⟨rfl,hy0,hb,hkp⟩;refine ⟨_,rfl,?_⟩;have n0_:=zz31 (Kd.R_mono (ok':=fun k_=>some k_ ≠ (v578:Value).ownBlock) (Kd.R_keptB ((Kd.R_apart' HO_4.out (Kd.R_typed HO_577001.out) (by decide))) hkp (fun k_ hk_ hs_=>(hk_.2) hs_)) (fun k_ hk_=>hk_.1.1));have n1_:=zz31 (Kd.R_mono (ok':=fun k_=>some k_ ≠ (v569:Value).ownBlock) (Kd.R_keptB ((Kd.R_apart' HO_7.out (Kd.R_typed HO_577001.out) (by decide))) hkp (fun k_ hk_ hs_=>(hk_.2) hs_)) (fun k_ hk_=>hk_.1.1));have n2_:=zz31 (Kd.R_reok rfl hy0 (fun k_ e_=>HO_577001.out.1 k_ e_));have n3_:=zz31 (blk_kept (by (with_reducible repeat (first | refine zz6 ?_ _ | refine zz7 ?_ | refine zz8 ?_ _));exact BK562.out) hkp (fun hs_=>(fun e_=>(Kd.R_ne HO_577001.out BK562.out (by decide)) e_) hs_));have n4_:=zz31 (blk_kept (by (with_reducible repeat (first | refine zz6 ?_ _ | refine zz7 ?_ | refine zz8 ?_ _));exact BK576.out) hkp (fun hs_=>(fun e_=>(Kd.R_ne HO_577001.out BK576.out (by decide)) e_) hs_));have n5_:=zz31 (Kd.R_mono (ok':=fun k_=>some k_ ≠ (.slice Ao24 t573.length co24:Value).ownBlock) (Kd.R_keptB (HO585.out) hkp (fun k_ hk_ hs_=>(hk_.2) hs_)) (fun k_ hk_=>hk_.1.2));have n6_:=zz31 (hb);clear HO_4;clear HO_7;clear HO_577001;clear BK562;clear BK576;clear HO585;clear HB;have HO_4:=n0_;have HO_7:=n1_;have HO_577001:=n2_;have BK562:=n3_;have BK576:=n4_;have HO585:=n5_;have HB:=n6_;clear n0_ n1_ n2_ n3_ n4_ n5_ n6_;(try clear hb);(try clear hkp);(try clear hy0)))
      (try simp only [Act.put,zz21,zz22,zz23])
      go_cut [61] (fun v61 wc=>∃ (kq:Nat) (x61_36:Bool),v61=.bool x61_36∧Aside0 (laws_FnExactFirstColouring.j1 kq t568 t571 t577 x61_36 a0_0 l0_1=some r)∧Aside0 (kq≤kj10)∧Aside0 (Kd.R (Kd.int .i64) 3 wc w.heap.size (fun k_=>some k_ ≠ (v578:Value).ownBlock) v569 t568)∧Aside0 (Kd.R (Kd.int .i64) 3 wc w.heap.size (fun k_=>some k_ ≠ (v569:Value).ownBlock) v578 t577)∧Aside0 (Kd.R k79 79 wc w.heap.size (fun _=>True) (.slice Ao24 t573.length co24) t588)∧Aside0 (wc.heap[gb562]?=some (.cells #[.int .i64 a0_0,(.slice A0_1 l0_1.length c0_1)] 24 (0,0)))∧Aside0 (wc.heap[gb576]?=some (.cells #[.int .i64 t572,(.slice Ao24 t573.length co24)] 31 (0,0)))∧Aside0 (Below w.heap.size w wc))
      case first =>
       have H:=HC37.out
       clear HC37
       by_cases c45:t587 < 0
       ·rw [if_pos c45] at H
        have c45b0:decide (t587 < 0)=true:=decide_eq_true c45
        clear c45
        (first | rw [c45b0] | (simp only [i64_w,i32_w];rw [c45b0]) | skip)
        have H':=zz31 H
        clear H
        go_wp2
        go_meet
        case rel=>exact ⟨_,(true),(by first | rfl | (simp;done) | (simp [*];done)),H',⟨by have:=HJ10.out;first | omega | exact Nat.le_refl _⟩,⟨by (with_reducible repeat (first | apply zz12 | apply zz13 | apply zz14));exact HO_4.out⟩,⟨by (with_reducible repeat (first | apply zz12 | apply zz13 | apply zz14));exact HO_7.out⟩,⟨by (with_reducible repeat (first | apply zz12 | apply zz13 | apply zz14));exact Kd.R_mono HO_577001.out (fun _ hk=>trivial)⟩,⟨by (with_reducible repeat (first | refine zz6 ?_ _ | refine zz7 ?_ | refine zz8 ?_ _));exact BK562.out⟩,⟨by (with_reducible repeat (first | refine zz6 ?_ _ | refine zz7 ?_ | refine zz8 ?_ _));exact BK576.out⟩,⟨by repeat first | exact HB.out | apply zz2 | apply zz0 | apply zz1 | refine zz3 ?_ GE562.out | refine zz3 ?_ GE576.out⟩⟩
       ·rw [if_neg c45] at H
        have c45b0:decide (t587 < 0)=false:=decide_eq_false c45
        clear c45
        (first | rw [c45b0] | (simp only [i64_w,i32_w];rw [c45b0]) | skip)
        replace H:=zz30.mp H
        obtain ⟨t589,A460,H⟩:=H
        replace H:(if t589=true then (laws_FnExactFirstColouring.j1 kj10 t568 t571 t577 (t580 != t571) a0_0 l0_1) else (laws_FnExactFirstColouring.j1 kj10 t568 t571 t577 true a0_0 l0_1))=some r:=H
        have A46:=zz31 A460
        clear A460
        by_cases c47:t589=true
        ·subst c47
         have H1:(laws_FnExactFirstColouring.j1 kj10 t568 t571 t577 (t580 != t571) a0_0 l0_1)=some r:=by rw [if_pos rfl] at H;exact H
         clear H
         have H:=H1
         clear H1
         have H':=zz31 H
         clear H
         obtain ⟨Ao48,co48,eo48⟩:=Kd.R_slice HO_7.out
         subst eo48
         obtain ⟨Ao49,co49,eo49⟩:=Kd.R_slice HO_4.out
         subst eo49
         go_wp2_with (first | (go_at_call 14;(with_reducible refine (laws_eqIntS.calls kj10 _ _ t577 _ _ t568 true _ ?side1 ?side2 ?side3 ?side4 A46.out).mono ?_);(case side1=>repeat (first | exact (Kd.R_reads' HO_7.out).2.2 | (with_reducible refine zz18 ?_ _) | (with_reducible refine zz19 ?_ _) | (with_reducible refine zz20 ?_)));(case side2=>exact (Kd.R_reads' HO_7.out).2.1);(case side3=>repeat (first | exact (Kd.R_reads' HO_4.out).2.2 | (with_reducible refine zz18 ?_ _) | (with_reducible refine zz19 ?_ _) | (with_reducible refine zz20 ?_)));(case side4=>exact (Kd.R_reads' HO_4.out).2.1);rintro e w' ⟨rfl,⟨nd,rfl⟩⟩))
         go_meet
         case rel=>exact ⟨_,((t580 != t571)),(by first | rfl | (simp;done) | (simp [*];done)),H',⟨by have:=HJ10.out;first | omega | exact Nat.le_refl _⟩,⟨by (with_reducible repeat (first | apply zz12 | apply zz13 | apply zz14));exact HO_4.out⟩,⟨by (with_reducible repeat (first | apply zz12 | apply zz13 | apply zz14));exact HO_7.out⟩,⟨by (with_reducible repeat (first | apply zz12 | apply zz13 | apply zz14));exact Kd.R_mono HO_577001.out (fun _ hk=>trivial)⟩,⟨by (with_reducible repeat (first | refine zz6 ?_ _ | refine zz7 ?_ | refine zz8 ?_ _));exact BK562.out⟩,⟨by (with_reducible repeat (first | refine zz6 ?_ _ | refine zz7 ?_ | refine zz8 ?_ _));exact BK576.out⟩,⟨by repeat first | exact HB.out | apply zz2 | apply zz0 | apply zz1 | refine zz3 ?_ GE562.out | refine zz3 ?_ GE576.out⟩⟩
        ·replace c47:=Bool.eq_false_iff.mpr c47
         subst c47
         have H1:(laws_FnExactFirstColouring.j1 kj10 t568 t571 t577 true a0_0 l0_1)=some r:=by rw [if_neg (show ¬ (false=true) by decide)] at H;exact H
         clear H
         have H:=H1
         clear H1
         have H':=zz31 H
         clear H
         obtain ⟨Ao50,co50,eo50⟩:=Kd.R_slice HO_7.out
         subst eo50
         obtain ⟨Ao51,co51,eo51⟩:=Kd.R_slice HO_4.out
         subst eo51
         go_wp2_with (first | (go_at_call 14;(with_reducible refine (laws_eqIntS.calls kj10 _ _ t577 _ _ t568 false _ ?side1 ?side2 ?side3 ?side4 A46.out).mono ?_);(case side1=>repeat (first | exact (Kd.R_reads' HO_7.out).2.2 | (with_reducible refine zz18 ?_ _) | (with_reducible refine zz19 ?_ _) | (with_reducible refine zz20 ?_)));(case side2=>exact (Kd.R_reads' HO_7.out).2.1);(case side3=>repeat (first | exact (Kd.R_reads' HO_4.out).2.2 | (with_reducible refine zz18 ?_ _) | (with_reducible refine zz19 ?_ _) | (with_reducible refine zz20 ?_)));(case side4=>exact (Kd.R_reads' HO_4.out).2.1);rintro e w' ⟨rfl,⟨nd,rfl⟩⟩))
         go_meet
         case rel=>exact ⟨_,(true),(by first | rfl | (simp;done) | (simp [*];done)),H',⟨by have:=HJ10.out;first | omega | exact Nat.le_refl _⟩,⟨by (with_reducible repeat (first | apply zz12 | apply zz13 | apply zz14));exact HO_4.out⟩,⟨by (with_reducible repeat (first | apply zz12 | apply zz13 | apply zz14));exact HO_7.out⟩,⟨by (with_reducible repeat (first | apply zz12 | apply zz13 | apply zz14));exact Kd.R_mono HO_577001.out (fun _ hk=>trivial)⟩,⟨by (with_reducible repeat (first | refine zz6 ?_ _ | refine zz7 ?_ | refine zz8 ?_ _));exact BK562.out⟩,⟨by (with_reducible repeat (first | refine zz6 ?_ _ | refine zz7 ?_ | refine zz8 ?_ _));exact BK576.out⟩,⟨by repeat first | exact HB.out | apply zz2 | apply zz0 | apply zz1 | refine zz3 ?_ GE562.out | refine zz3 ?_ GE576.out⟩⟩
      case rest =>
       clear HC37
       try clear c1
       try clear c2
       try clear p2
       try clear c3
       try clear c3b0
       try clear c4
       try clear c7
       try clear c9
       try clear c11
       try clear c14
       try clear c15
       try clear c16
       try clear c22
       try clear c25
       try clear c26
       try clear c27
       try clear c32
       try clear c35
       try clear c42
       try clear c45
       try clear c45b0
       try clear c47
       try clear hcz13_0
       try clear hcz13_1
       try clear hcz15_0
       try clear hcz15_1
       try clear hcz19_0
       try clear hcz19_1
       try clear hcz23_0
       try clear hcz23_1
       try clear hcz43_0
       try clear hcz43_1
       try clear hcz5_0
       try clear hcz5_1
       try clear hfz13_0
       try clear hfz13_1
       try clear hfz15_0
       try clear hfz15_1
       try clear hfz19_0
       try clear hfz19_1
       try clear hfz23_0
       try clear hfz23_1
       try clear hfz43_0
       try clear hfz43_1
       try clear hfz5_0
       try clear hfz5_1
       try clear p2
       obtain ⟨kq,x61_36,rfl,HA,HJ36,HO_4,HO_7,HO_577001,BK562,BK576,HB⟩:=hcut
       have hl577001_36:=(Kd.R_reads' HO_577001.out).1
       rw [hl577001_36] at HO_577001
       (try simp only [hl577001_36])
       (try simp only [hl577001_36] at BK562)
       (try simp only [hl577001_36] at BK576)
       (try simp only [hl577001_36] at HO_4)
       (try simp only [hl577001_36] at HO_7)
       cases kq with
       | zero=>exact absurd HA.out (by simp [laws_FnExactFirstColouring.j1])
       | succ kj36 =>
        have H:=HA.out
        clear HA
        simp only [laws_FnExactFirstColouring.j1] at H
        by_cases c52:x61_36=true
        ·subst c52
         have H1:(some false)=some r:=by rw [if_pos rfl] at H;exact H
         clear H
         have H:=H1
         clear H1
         obtain rfl:=Option.some.inj H
         go_wp2
         go_ret
         exact ⟨by first | rfl | (simp [errW_none,errW_some] <;> rfl) | (simp [*,errW_none,errW_some] <;> rfl),by repeat first | exact HB.out | apply zz2 | apply zz0 | apply zz1 | refine zz3 ?_ GE562.out | refine zz3 ?_ GE576.out⟩
        ·replace c52:=Bool.eq_false_iff.mpr c52
         subst c52
         have H1:((laws_markIntS.f kj36 t577 1).bind fun bt590=>((laws_heldIntS.f kj36 bt590.2 1).bind fun t592=>(if t592 < 0 then (some false) else (if t592=bt590.1 then ((laws_toParty.f kj36 a0_0 l0_1).bind fun bt593=>((impl_FirstColouring.f kj36 bt593.1 bt593.2).bind fun bt597=>((laws_eqIntS.f kj36 bt597.1 t568).bind fun t601=>(if t601=true then (laws_FnExactFirstColouring.j2 kj36 bt590.2 bt590.1 (bt597.2 != t571)) else (laws_FnExactFirstColouring.j2 kj36 bt590.2 bt590.1 true))))) else (some false)))))=some r:=by rw [if_neg (show ¬ (false=true) by decide)] at H;exact H
         clear H
         have H:=H1
         clear H1
         replace H:=zz30.mp H
         obtain ⟨⟨t590,t591⟩,A530,H⟩:=H
         replace H:((laws_heldIntS.f kj36 t591 1).bind fun t592=>(if t592 < 0 then (some false) else (if t592=t590 then ((laws_toParty.f kj36 a0_0 l0_1).bind fun bt593=>((impl_FirstColouring.f kj36 bt593.1 bt593.2).bind fun bt597=>((laws_eqIntS.f kj36 bt597.1 t568).bind fun t601=>(if t601=true then (laws_FnExactFirstColouring.j2 kj36 t591 t590 (bt597.2 != t571)) else (laws_FnExactFirstColouring.j2 kj36 t591 t590 true))))) else (some false))))=some r:=H
         have A53:=zz31 A530
         clear A530
         replace H:=zz30.mp H
         obtain ⟨t592,A540,H⟩:=H
         replace H:(if t592 < 0 then (some false) else (if t592=t590 then ((laws_toParty.f kj36 a0_0 l0_1).bind fun bt593=>((impl_FirstColouring.f kj36 bt593.1 bt593.2).bind fun bt597=>((laws_eqIntS.f kj36 bt597.1 t568).bind fun t601=>(if t601=true then (laws_FnExactFirstColouring.j2 kj36 t591 t590 (bt597.2 != t571)) else (laws_FnExactFirstColouring.j2 kj36 t591 t590 true))))) else (some false)))=some r:=H
         have A54:=zz31 A540
         clear A540
         by_cases c55:t592 < 0
         ·rw [if_pos c55] at H
          have c55b0:decide (t592 < 0)=true:=decide_eq_true c55
          clear c55
          obtain rfl:=Option.some.inj H
          obtain ⟨Ao56,co56,eo56⟩:=Kd.R_slice HO_7.out
          subst eo56
          go_wp2_with (first | ((with_reducible refine gate_callee (f:=17) rfl ?_);refine goesL_ (some 64) rfl rfl Try.func17 (by kernel_rfl) rfl #[.slice Ao56 t577.length co56,.int .i64 1] rfl (by (try simp only [zz26,zz27,zz28]);first | done | rfl | (simp only [zz24,zz25];rfl)) ?_;(with_reducible refine (laws_markIntS.calls kj36 (fun k_=>some k_=(.slice Ao56 t577.length co56:Value).ownBlock) (.slice Ao56 t577.length co56) t577 1 t590 t591 w _ ?side1 ?side2 A53.out).mono ?_);(case side1=>repeat first | exact HB.out | apply zz2 | apply zz0 | apply zz1 | refine zz3 ?_ GE562.out | refine zz3 ?_ GE576.out);(case side2=>exact Kd.R_tight rfl HO_7.out);rintro e w57 ⟨rfl,hy0,hb,hkp⟩;refine ⟨_,rfl,?_⟩;have n0_:=zz31 (Kd.R_mono (ok':=fun k_=>some k_ ≠ (.slice Ao56 t577.length co56:Value).ownBlock) (Kd.R_keptB (HO_4.out) hkp (fun k_ hk_ hs_=>(hk_) hs_)) (fun k_ hk_=>hk_.1));have n1_:=zz31 (Kd.R_reok rfl hy0 (fun k_ e_=>HO_7.out.1 k_ e_));have n2_:=zz31 (Kd.R_mono (ok':=fun k_=>True) (Kd.R_keptB ((Kd.R_apart' HO_577001.out (Kd.R_typed HO_7.out) (by decide))) hkp (fun k_ hk_ hs_=>(hk_.2) hs_)) (fun k_ hk_=>trivial));have n3_:=zz31 (blk_kept (by (with_reducible repeat (first | refine zz6 ?_ _ | refine zz7 ?_ | refine zz8 ?_ _));exact BK562.out) hkp (fun hs_=>(fun e_=>(Kd.R_ne HO_7.out BK562.out (by decide)) e_) hs_));have n4_:=zz31 (blk_kept (by (with_reducible repeat (first | refine zz6 ?_ _ | refine zz7 ?_ | refine zz8 ?_ _));exact BK576.out) hkp (fun hs_=>(fun e_=>(Kd.R_ne HO_7.out BK576.out (by decide)) e_) hs_));have n5_:=zz31 (hb);clear HO_4;clear HO_7;clear HO_577001;clear BK562;clear BK576;clear HB;have HO_4:=n0_;have HO_7:=n1_;have HO_577001:=n2_;have BK562:=n3_;have BK576:=n4_;have HB:=n5_;clear n0_ n1_ n2_ n3_ n4_ n5_;(try clear hb);(try clear hkp);(try clear hy0)) | ((with_reducible refine gate_callee (f:=18) rfl ?_);refine goesL_ (some 67) rfl rfl Try.func18 (by kernel_rfl) rfl #[.slice Ao56 t591.length co56,.int .i64 1] rfl (by (try simp only [zz26,zz27,zz28]);first | done | (rw [show t591.length=t577.length from (Kd.R_reads' HO_7.out).1.symm] <;> rfl) | rfl | (simp only [zz24,zz25];rfl)) ?_;(with_reducible refine (laws_heldIntS.calls kj36 _ _ t591 1 t592 _ ?side1 ?side2 A54.out).mono ?_);(case side1=>repeat (first | exact (Kd.R_reads' HO_7.out).2.2 | (with_reducible refine zz18 ?_ _) | (with_reducible refine zz19 ?_ _) | (with_reducible refine zz20 ?_)));(case side2=>rw [show t591.length=t577.length from (Kd.R_reads' HO_7.out).1.symm];exact (Kd.R_reads' HO_7.out).2.1);rintro e w' ⟨rfl,⟨nd,rfl⟩⟩;refine ⟨_,rfl,?_⟩))
          go_ret
          exact ⟨by first | rfl | (simp [errW_none,errW_some] <;> rfl) | (simp [*,errW_none,errW_some] <;> rfl),by repeat first | exact HB.out | apply zz2 | apply zz0 | apply zz1 | refine zz3 ?_ GE562.out | refine zz3 ?_ GE576.out⟩
         ·rw [if_neg c55] at H
          have c55b0:decide (t592 < 0)=false:=decide_eq_false c55
          clear c55
          by_cases c58:t592=t590
          ·rw [if_pos c58] at H
           have c58b0:(t592 == t590)=true:=beq_iff_eq.mpr c58
           have c58b1:(t592 != t590)=false:=bne_eq_false_iff_eq.mpr c58
           clear c58
           replace H:=zz30.mp H
           obtain ⟨⟨t593,t594⟩,A590,H⟩:=H
           replace H:((impl_FirstColouring.f kj36 t593 t594).bind fun bt597=>((laws_eqIntS.f kj36 bt597.1 t568).bind fun t601=>(if t601=true then (laws_FnExactFirstColouring.j2 kj36 t591 t590 (bt597.2 != t571)) else (laws_FnExactFirstColouring.j2 kj36 t591 t590 true))))=some r:=H
           have A59:=zz31 A590
           clear A590
           replace H:=zz30.mp H
           obtain ⟨⟨t597,t600⟩,A600,H⟩:=H
           replace H:((laws_eqIntS.f kj36 t597 t568).bind fun t601=>(if t601=true then (laws_FnExactFirstColouring.j2 kj36 t591 t590 (t600 != t571)) else (laws_FnExactFirstColouring.j2 kj36 t591 t590 true)))=some r:=H
           have A60:=zz31 A600
           clear A600
           have HC61:=zz31 H
           clear H
           obtain ⟨Ao62,co62,eo62⟩:=Kd.R_slice HO_7.out
           subst eo62
           go_upto_region 25 with (first | ((with_reducible refine gate_callee (f:=17) rfl ?_);refine goesL_ (some 64) rfl rfl Try.func17 (by kernel_rfl) rfl #[.slice Ao62 t577.length co62,.int .i64 1] rfl (by (try simp only [zz26,zz27,zz28]);first | done | rfl | (simp only [zz24,zz25];rfl)) ?_;(with_reducible refine (laws_markIntS.calls kj36 (fun k_=>some k_=(.slice Ao62 t577.length co62:Value).ownBlock) (.slice Ao62 t577.length co62) t577 1 t590 t591 w _ ?side1 ?side2 A53.out).mono ?_);(case side1=>repeat first | exact HB.out | apply zz2 | apply zz0 | apply zz1 | refine zz3 ?_ GE562.out | refine zz3 ?_ GE576.out);(case side2=>exact Kd.R_tight rfl HO_7.out);rintro e w63 ⟨rfl,hy0,hb,hkp⟩;refine ⟨_,rfl,?_⟩;have n0_:=zz31 (Kd.R_mono (ok':=fun k_=>some k_ ≠ (.slice Ao62 t577.length co62:Value).ownBlock) (Kd.R_keptB (HO_4.out) hkp (fun k_ hk_ hs_=>(hk_) hs_)) (fun k_ hk_=>hk_.1));have n1_:=zz31 (Kd.R_reok rfl hy0 (fun k_ e_=>HO_7.out.1 k_ e_));have n2_:=zz31 (Kd.R_mono (ok':=fun k_=>True) (Kd.R_keptB ((Kd.R_apart' HO_577001.out (Kd.R_typed HO_7.out) (by decide))) hkp (fun k_ hk_ hs_=>(hk_.2) hs_)) (fun k_ hk_=>trivial));have n3_:=zz31 (blk_kept (by (with_reducible repeat (first | refine zz6 ?_ _ | refine zz7 ?_ | refine zz8 ?_ _));exact BK562.out) hkp (fun hs_=>(fun e_=>(Kd.R_ne HO_7.out BK562.out (by decide)) e_) hs_));have n4_:=zz31 (blk_kept (by (with_reducible repeat (first | refine zz6 ?_ _ | refine zz7 ?_ | refine zz8 ?_ _));exact BK576.out) hkp (fun hs_=>(fun e_=>(Kd.R_ne HO_7.out BK576.out (by decide)) e_) hs_));have n5_:=zz31 (hb);clear HO_4;clear HO_7;clear HO_577001;clear BK562;clear BK576;clear HB;have HO_4:=n0_;have HO_7:=n1_;have HO_577001:=n2_;have BK562:=n3_;have BK576:=n4_;have HB:=n5_;clear n0_ n1_ n2_ n3_ n4_ n5_;(try clear hb);(try clear hkp);(try clear hy0)) | ((with_reducible refine gate_callee (f:=18) rfl ?_);refine goesL_ (some 67) rfl rfl Try.func18 (by kernel_rfl) rfl #[.slice Ao62 t591.length co62,.int .i64 1] rfl (by (try simp only [zz26,zz27,zz28]);first | done | (rw [show t591.length=t577.length from (Kd.R_reads' HO_7.out).1.symm] <;> rfl) | rfl | (simp only [zz24,zz25];rfl)) ?_;(with_reducible refine (laws_heldIntS.calls kj36 _ _ t591 1 t592 _ ?side1 ?side2 A54.out).mono ?_);(case side1=>repeat (first | exact (Kd.R_reads' HO_7.out).2.2 | (with_reducible refine zz18 ?_ _) | (with_reducible refine zz19 ?_ _) | (with_reducible refine zz20 ?_)));(case side2=>rw [show t591.length=t577.length from (Kd.R_reads' HO_7.out).1.symm];exact (Kd.R_reads' HO_7.out).2.1);rintro e w' ⟨rfl,⟨nd,rfl⟩⟩;refine ⟨_,rfl,?_⟩;have hnb64:=NB562_576.out;have hnc64:=NB576_562.out;have hcz65_0:w63.cell? ⟨gb562,0,none⟩=some (.int .i64 a0_0):=(zz9 BK562.out 0).trans rfl;have hcz65_1:w63.cell? ⟨gb562,1,none⟩=some (.slice A0_1 l0_1.length c0_1):=(zz9 BK562.out 1).trans rfl;have hfz65_0:=zz10 BK562.out 0;have hfz65_1:=zz10 BK562.out 1) | ((with_reducible refine gate_callee (f:=11) rfl ?_);refine goesL_ (some 75) rfl rfl Try.func11 (by kernel_rfl) rfl #[.agg #[.int .i64 a0_0,.slice A0_1 l0_1.length c0_1]] rfl (by (try simp only [zz26,zz27,zz28]);first | done | rfl | (simp only [zz24,zz25];rfl)) ?_;(with_reducible refine (laws_toParty.calls kj36 a0_0 _ _ l0_1 t593 t594 _ ?side1 ?side2 A59.out).mono ?_);(case side1=>repeat (first | exact (Kd.C_below HR0_1.out (by repeat first | exact HB.out | apply zz2 | apply zz0 | apply zz1 | refine zz3 ?_ GE562.out | refine zz3 ?_ GE576.out)) | (with_reducible refine zz18 ?_ _) | (with_reducible refine zz19 ?_ _) | (with_reducible refine zz20 ?_)));(case side2=>exact HC0_1.out);rintro e w66 ⟨v595,rfl,ho0,hb⟩;refine ⟨_,rfl,?_⟩;have n0_:=zz31 (Kd.R_below (by (with_reducible repeat (first | apply zz12 | apply zz13 | apply zz14));exact HO_4.out) hb);have n1_:=zz31 (Kd.R_below (by (with_reducible repeat (first | apply zz12 | apply zz13 | apply zz14));exact HO_7.out) hb);have n2_:=zz31 (Kd.R_elder' (by (with_reducible repeat (first | apply zz12 | apply zz13 | apply zz14));exact HO_577001.out) (Kd.R_base ho0) hb);have n3_:=zz31 (Kd.R_lower (Kd.R_new' ho0 (Kd.R_lt (by (with_reducible repeat (first | apply zz12 | apply zz13 | apply zz14));exact HO_577001.out))) (zz5 (by repeat first | exact HB.out | apply zz2 | apply zz0 | apply zz1 | refine zz3 ?_ GE562.out | refine zz3 ?_ GE576.out)));have n4_:=zz31 (zz11 (g:=gb562) (o:=.cells #[.int .i64 a0_0,.slice A0_1 l0_1.length c0_1] 24 (0,0)) (by (with_reducible repeat (first | refine zz6 ?_ _ | refine zz7 ?_ | refine zz8 ?_ _));exact BK562.out) hb);have n5_:=zz31 (zz11 (g:=gb576) (o:=.cells #[.int .i64 t572,.slice Ao24 t588.length co24] 31 (0,0)) (by (with_reducible repeat (first | refine zz6 ?_ _ | refine zz7 ?_ | refine zz8 ?_ _));exact BK576.out) hb);have n6_:=zz31 (zz4 (by repeat first | exact HB.out | apply zz2 | apply zz0 | apply zz1 | refine zz3 ?_ GE562.out | refine zz3 ?_ GE576.out) hb);clear HO_4;clear HO_7;clear HO_577001;clear BK562;clear BK576;clear HB;have HO_4:=n0_;have HO_7:=n1_;have HO_577001:=n2_;have HO596:=n3_;have BK562:=n4_;have BK576:=n5_;have HB:=n6_;clear n0_ n1_ n2_ n3_ n4_ n5_ n6_;(try clear hb);(try clear hb2);(try clear hk);(try clear hi);(try clear ho0);obtain ⟨Ao67,co67,eo67⟩:=Kd.R_slice HO596.out;subst eo67) | ((with_reducible refine gate_callee (f:=26) rfl ?_);refine goesL_ (some 76) rfl rfl Try.func26 (by kernel_rfl) rfl #[.agg #[.int .i64 t593,.slice Ao67 t594.length co67]] rfl (by (try simp only [zz26,zz27,zz28]);first | done | rfl | (simp only [zz24,zz25];rfl)) ?_;(with_reducible refine (impl_FirstColouring.calls kj36 t593 _ _ t594 t597 t600 _ ?side1 ?side2 A60.out).mono ?_);(case side1=>repeat (first | exact (Kd.R_reads' HO596.out).2.2 | (with_reducible refine zz18 ?_ _) | (with_reducible refine zz19 ?_ _) | (with_reducible refine zz20 ?_)));(case side2=>exact (Kd.R_reads' HO596.out).2.1);rintro e w68 ⟨v598,rfl,ho0,hb⟩;refine ⟨_,rfl,?_⟩;have n0_:=zz31 (Kd.R_elder' (by (with_reducible repeat (first | apply zz12 | apply zz13 | apply zz14));exact HO_4.out) (Kd.R_base ho0) hb);have n1_:=zz31 (Kd.R_elder' (by (with_reducible repeat (first | apply zz12 | apply zz13 | apply zz14));exact HO_7.out) (Kd.R_base ho0) hb);have n2_:=zz31 (Kd.R_below (by (with_reducible repeat (first | apply zz12 | apply zz13 | apply zz14));exact HO_577001.out) hb);have n3_:=zz31 (Kd.R_below (by (with_reducible repeat (first | apply zz12 | apply zz13 | apply zz14));exact HO596.out) hb);have n4_:=zz31 (Kd.R_lower (Kd.R_new' (Kd.R_new' ho0 (Kd.R_lt (by (with_reducible repeat (first | apply zz12 | apply zz13 | apply zz14));exact HO_4.out))) (Kd.R_lt (by (with_reducible repeat (first | apply zz12 | apply zz13 | apply zz14));exact HO_7.out))) (zz5 (by repeat first | exact HB.out | apply zz2 | apply zz0 | apply zz1 | refine zz3 ?_ GE562.out | refine zz3 ?_ GE576.out)));have n5_:=zz31 (zz11 (g:=gb562) (o:=.cells #[.int .i64 a0_0,.slice A0_1 l0_1.length c0_1] 24 (0,0)) (by (with_reducible repeat (first | refine zz6 ?_ _ | refine zz7 ?_ | refine zz8 ?_ _));exact BK562.out) hb);have n6_:=zz31 (zz11 (g:=gb576) (o:=.cells #[.int .i64 t572,.slice Ao24 t588.length co24] 31 (0,0)) (by (with_reducible repeat (first | refine zz6 ?_ _ | refine zz7 ?_ | refine zz8 ?_ _));exact BK576.out) hb);have n7_:=zz31 (zz4 (by repeat first | exact HB.out | apply zz2 | apply zz0 | apply zz1 | refine zz3 ?_ GE562.out | refine zz3 ?_ GE576.out) hb);clear HO_4;clear HO_7;clear HO_577001;clear HO596;clear BK562;clear BK576;clear HB;have HO_4:=n0_;have HO_7:=n1_;have HO_577001:=n2_;have HO596:=n3_;have HO599:=n4_;have BK562:=n5_;have BK576:=n6_;have HB:=n7_;clear n0_ n1_ n2_ n3_ n4_ n5_ n6_ n7_;(try clear hb);(try clear hb2);(try clear hk);(try clear hi);(try clear ho0)))
           (try simp only [Act.put,zz21,zz22,zz23])
           go_cut [87] (fun v87 wc=>∃ (kq:Nat) (x87_60:Bool),v87=.bool x87_60∧Aside0 (laws_FnExactFirstColouring.j2 kq t591 t590 x87_60=some r)∧Aside0 (kq≤kj36)∧Aside0 (Kd.R (Kd.int .i64) 3 wc w.heap.size (fun _=>True) (.slice Ao62 t577.length co62) t591)∧Aside0 (Kd.R k79 79 wc w.heap.size (fun _=>True) (.slice Ao24 t588.length co24) t588)∧Aside0 (wc.heap[gb562]?=some (.cells #[.int .i64 a0_0,(.slice A0_1 l0_1.length c0_1)] 24 (0,0)))∧Aside0 (wc.heap[gb576]?=some (.cells #[.int .i64 t572,(.slice Ao24 t588.length co24)] 31 (0,0)))∧Aside0 (Below w.heap.size w wc))
           case first =>
            have H:=HC61.out
            clear HC61
            replace H:=zz30.mp H
            obtain ⟨t601,A690,H⟩:=H
            replace H:(if t601=true then (laws_FnExactFirstColouring.j2 kj36 t591 t590 (t600 != t571)) else (laws_FnExactFirstColouring.j2 kj36 t591 t590 true))=some r:=H
            have A69:=zz31 A690
            clear A690
            by_cases c70:t601=true
            ·subst c70
             have H1:(laws_FnExactFirstColouring.j2 kj36 t591 t590 (t600 != t571))=some r:=by rw [if_pos rfl] at H;exact H
             clear H
             have H:=H1
             clear H1
             have H':=zz31 H
             clear H
             obtain ⟨Ao71,co71,eo71⟩:=Kd.R_slice HO599.out
             subst eo71
             obtain ⟨Ao72,co72,eo72⟩:=Kd.R_slice HO_4.out
             subst eo72
             go_wp2_with (first | ((with_reducible refine gate_callee (f:=14) rfl ?_);refine goesL_ (some 81) rfl rfl Try.func14 (by kernel_rfl) rfl #[.slice Ao71 t597.length co71,.slice Ao72 t568.length co72] rfl (by (try simp only [zz26,zz27,zz28]);first | done | rfl | (simp only [zz24,zz25];rfl)) ?_;(with_reducible refine (laws_eqIntS.calls kj36 _ _ t597 _ _ t568 true _ ?side1 ?side2 ?side3 ?side4 A69.out).mono ?_);(case side1=>repeat (first | exact (Kd.R_reads' HO599.out).2.2 | (with_reducible refine zz18 ?_ _) | (with_reducible refine zz19 ?_ _) | (with_reducible refine zz20 ?_)));(case side2=>exact (Kd.R_reads' HO599.out).2.1);(case side3=>repeat (first | exact (Kd.R_reads' HO_4.out).2.2 | (with_reducible refine zz18 ?_ _) | (with_reducible refine zz19 ?_ _) | (with_reducible refine zz20 ?_)));(case side4=>exact (Kd.R_reads' HO_4.out).2.1);rintro e w' ⟨rfl,⟨nd,rfl⟩⟩;refine ⟨_,rfl,?_⟩))
             go_meet
             case rel=>exact ⟨_,((t600 != t571)),(by first | rfl | (simp;done) | (simp [*];done)),H',⟨by have:=HJ10.out;have:=HJ36.out;first | omega | exact Nat.le_refl _⟩,⟨by (try simp only [hl577001_36]);(with_reducible repeat (first | apply zz12 | apply zz13 | apply zz14));exact Kd.R_mono HO_7.out (fun _ hk=>trivial)⟩,⟨by (try simp only [hl577001_36]);(with_reducible repeat (first | apply zz12 | apply zz13 | apply zz14));exact Kd.R_mono HO_577001.out (fun _ hk=>trivial)⟩,⟨by (try simp only [hl577001_36]);(with_reducible repeat (first | refine zz6 ?_ _ | refine zz7 ?_ | refine zz8 ?_ _));exact BK562.out⟩,⟨by (try simp only [hl577001_36]);(with_reducible repeat (first | refine zz6 ?_ _ | refine zz7 ?_ | refine zz8 ?_ _));exact BK576.out⟩,⟨by repeat first | exact HB.out | apply zz2 | apply zz0 | apply zz1 | refine zz3 ?_ GE562.out | refine zz3 ?_ GE576.out⟩⟩
            ·replace c70:=Bool.eq_false_iff.mpr c70
             subst c70
             have H1:(laws_FnExactFirstColouring.j2 kj36 t591 t590 true)=some r:=by rw [if_neg (show ¬ (false=true) by decide)] at H;exact H
             clear H
             have H:=H1
             clear H1
             have H':=zz31 H
             clear H
             obtain ⟨Ao73,co73,eo73⟩:=Kd.R_slice HO599.out
             subst eo73
             obtain ⟨Ao74,co74,eo74⟩:=Kd.R_slice HO_4.out
             subst eo74
             go_wp2_with (first | ((with_reducible refine gate_callee (f:=14) rfl ?_);refine goesL_ (some 81) rfl rfl Try.func14 (by kernel_rfl) rfl #[.slice Ao73 t597.length co73,.slice Ao74 t568.length co74] rfl (by (try simp only [zz26,zz27,zz28]);first | done | rfl | (simp only [zz24,zz25];rfl)) ?_;(with_reducible refine (laws_eqIntS.calls kj36 _ _ t597 _ _ t568 false _ ?side1 ?side2 ?side3 ?side4 A69.out).mono ?_);(case side1=>repeat (first | exact (Kd.R_reads' HO599.out).2.2 | (with_reducible refine zz18 ?_ _) | (with_reducible refine zz19 ?_ _) | (with_reducible refine zz20 ?_)));(case side2=>exact (Kd.R_reads' HO599.out).2.1);(case side3=>repeat (first | exact (Kd.R_reads' HO_4.out).2.2 | (with_reducible refine zz18 ?_ _) | (with_reducible refine zz19 ?_ _) | (with_reducible refine zz20 ?_)));(case side4=>exact (Kd.R_reads' HO_4.out).2.1);rintro e w' ⟨rfl,⟨nd,rfl⟩⟩;refine ⟨_,rfl,?_⟩))
             go_meet
             case rel=>exact ⟨_,(true),(by first | rfl | (simp;done) | (simp [*];done)),H',⟨by have:=HJ10.out;have:=HJ36.out;first | omega | exact Nat.le_refl _⟩,⟨by (try simp only [hl577001_36]);(with_reducible repeat (first | apply zz12 | apply zz13 | apply zz14));exact Kd.R_mono HO_7.out (fun _ hk=>trivial)⟩,⟨by (try simp only [hl577001_36]);(with_reducible repeat (first | apply zz12 | apply zz13 | apply zz14));exact Kd.R_mono HO_577001.out (fun _ hk=>trivial)⟩,⟨by (try simp only [hl577001_36]);(with_reducible repeat (first | refine zz6 ?_ _ | refine zz7 ?_ | refine zz8 ?_ _));exact BK562.out⟩,⟨by (try simp only [hl577001_36]);(with_reducible repeat (first | refine zz6 ?_ _ | refine zz7 ?_ | refine zz8 ?_ _));exact BK576.out⟩,⟨by repeat first | exact HB.out | apply zz2 | apply zz0 | apply zz1 | refine zz3 ?_ GE562.out | refine zz3 ?_ GE576.out⟩⟩
           case rest =>
            clear HC61
            try clear c1
            try clear c2
            try clear p2
            try clear c3
            try clear c3b0
            try clear c4
            try clear c5
            try clear c6
            try clear c7
            try clear c9
            try clear c11
            try clear c14
            try clear c15
            try clear c16
            try clear c17
            try clear c18
            try clear c22
            try clear c25
            try clear c26
            try clear c27
            try clear c32
            try clear c35
            try clear c42
            try clear c45
            try clear c45b0
            try clear c47
            try clear c52
            try clear c55
            try clear c55b0
            try clear c58
            try clear c58b0
            try clear c58b1
            try clear c64
            try clear c70
            try clear hcz13_0
            try clear hcz13_1
            try clear hcz15_0
            try clear hcz15_1
            try clear hcz19_0
            try clear hcz19_1
            try clear hcz23_0
            try clear hcz23_1
            try clear hcz43_0
            try clear hcz43_1
            try clear hcz5_0
            try clear hcz5_1
            try clear hcz65_0
            try clear hcz65_1
            try clear hfz13_0
            try clear hfz13_1
            try clear hfz15_0
            try clear hfz15_1
            try clear hfz19_0
            try clear hfz19_1
            try clear hfz23_0
            try clear hfz23_1
            try clear hfz43_0
            try clear hfz43_1
            try clear hfz5_0
            try clear hfz5_1
            try clear hfz65_0
            try clear hfz65_1
            try clear p2
            obtain ⟨kq,x87_60,rfl,HA,HJ60,HO_7,HO_577001,BK562,BK576,HB⟩:=hcut
            have hl7_60:=(Kd.R_reads' HO_7.out).1
            rw [hl7_60] at HO_7
            (try simp only [hl7_60])
            (try simp only [hl7_60] at BK562)
            (try simp only [hl7_60] at BK576)
            (try simp only [hl7_60] at HO_577001)
            cases kq with
            | zero=>exact absurd HA.out (by simp [laws_FnExactFirstColouring.j2])
            | succ kj60 =>
             have H:=HA.out
             clear HA
             simp only [laws_FnExactFirstColouring.j2] at H
             by_cases c75:x87_60=true
             ·subst c75
              have H1:(some false)=some r:=by rw [if_pos rfl] at H;exact H
              clear H
              have H:=H1
              clear H1
              obtain rfl:=Option.some.inj H
              go_wp2
              go_ret
              exact ⟨by first | rfl | (simp [errW_none,errW_some] <;> rfl) | (simp [*,errW_none,errW_some] <;> rfl),by repeat first | exact HB.out | apply zz2 | apply zz0 | apply zz1 | refine zz3 ?_ GE562.out | refine zz3 ?_ GE576.out⟩
             ·replace c75:=Bool.eq_false_iff.mpr c75
              subst c75
              have H1:((laws_heldIntS.f kj60 t591 1).bind fun t602=>(if t602 < 0 then (some false) else (if t602=t590 then (some true) else (some false))))=some r:=by rw [if_neg (show ¬ (false=true) by decide)] at H;exact H
              clear H
              have H:=H1
              clear H1
              replace H:=zz30.mp H
              obtain ⟨t602,A760,H⟩:=H
              replace H:(if t602 < 0 then (some false) else (if t602=t590 then (some true) else (some false)))=some r:=H
              have A76:=zz31 A760
              clear A760
              by_cases c77:t602 < 0
              ·rw [if_pos c77] at H
               have c77b0:decide (t602 < 0)=true:=decide_eq_true c77
               clear c77
               obtain rfl:=Option.some.inj H
               go_wp2_with (first | ((with_reducible refine gate_callee (f:=18) rfl ?_);refine goesL_ (some 90) rfl rfl Try.func18 (by kernel_rfl) rfl #[.slice Ao62 t591.length co62,.int .i64 1] rfl (by (try simp only [zz26,zz27,zz28]);first | done | rfl | (simp only [zz24,zz25];rfl)) ?_;(with_reducible refine (laws_heldIntS.calls kj60 _ _ t591 1 t602 _ ?side1 ?side2 A76.out).mono ?_);(case side1=>repeat (first | exact (Kd.R_reads' HO_7.out).2.2 | (with_reducible refine zz18 ?_ _) | (with_reducible refine zz19 ?_ _) | (with_reducible refine zz20 ?_)));(case side2=>exact (Kd.R_reads' HO_7.out).2.1);rintro e w' ⟨rfl,⟨nd,rfl⟩⟩;refine ⟨_,rfl,?_⟩))
               go_ret
               exact ⟨by first | rfl | (simp [errW_none,errW_some] <;> rfl) | (simp [*,errW_none,errW_some] <;> rfl),by repeat first | exact HB.out | apply zz2 | apply zz0 | apply zz1 | refine zz3 ?_ GE562.out | refine zz3 ?_ GE576.out⟩
              ·rw [if_neg c77] at H
               have c77b0:decide (t602 < 0)=false:=decide_eq_false c77
               clear c77
               by_cases c78:t602=t590
               ·rw [if_pos c78] at H
                have c78b0:(t602 == t590)=true:=beq_iff_eq.mpr c78
                have c78b1:(t602 != t590)=false:=bne_eq_false_iff_eq.mpr c78
                clear c78
                obtain rfl:=Option.some.inj H
                go_wp2_with (first | ((with_reducible refine gate_callee (f:=18) rfl ?_);refine goesL_ (some 90) rfl rfl Try.func18 (by kernel_rfl) rfl #[.slice Ao62 t591.length co62,.int .i64 1] rfl (by (try simp only [zz26,zz27,zz28]);first | done | rfl | (simp only [zz24,zz25];rfl)) ?_;(with_reducible refine (laws_heldIntS.calls kj60 _ _ t591 1 t602 _ ?side1 ?side2 A76.out).mono ?_);(case side1=>repeat (first | exact (Kd.R_reads' HO_7.out).2.2 | (with_reducible refine zz18 ?_ _) | (with_reducible refine zz19 ?_ _) | (with_reducible refine zz20 ?_)));(case side2=>exact (Kd.R_reads' HO_7.out).2.1);rintro e w' ⟨rfl,⟨nd,rfl⟩⟩;refine ⟨_,rfl,?_⟩))
                go_ret
                exact ⟨by first | rfl | (simp [errW_none,errW_some] <;> rfl) | (simp [*,errW_none,errW_some] <;> rfl),by repeat first | exact HB.out | apply zz2 | apply zz0 | apply zz1 | refine zz3 ?_ GE562.out | refine zz3 ?_ GE576.out⟩
               ·rw [if_neg c78] at H
                have c78b0:(t602 == t590)=false:=beq_eq_false_iff_ne.mpr c78
                have c78b1:(t602 != t590)=true:=bne_iff_ne.mpr c78
                obtain rfl:=Option.some.inj H
                go_wp2_with (first | ((with_reducible refine gate_callee (f:=18) rfl ?_);refine goesL_ (some 90) rfl rfl Try.func18 (by kernel_rfl) rfl #[.slice Ao62 t591.length co62,.int .i64 1] rfl (by (try simp only [zz26,zz27,zz28]);first | done | rfl | (simp only [zz24,zz25];rfl)) ?_;(with_reducible refine (laws_heldIntS.calls kj60 _ _ t591 1 t602 _ ?side1 ?side2 A76.out).mono ?_);(case side1=>repeat (first | exact (Kd.R_reads' HO_7.out).2.2 | (with_reducible refine zz18 ?_ _) | (with_reducible refine zz19 ?_ _) | (with_reducible refine zz20 ?_)));(case side2=>exact (Kd.R_reads' HO_7.out).2.1);rintro e w' ⟨rfl,⟨nd,rfl⟩⟩;refine ⟨_,rfl,?_⟩))
                go_ret
                exact ⟨by first | rfl | (simp [errW_none,errW_some] <;> rfl) | (simp [*,errW_none,errW_some] <;> rfl),by repeat first | exact HB.out | apply zz2 | apply zz0 | apply zz1 | refine zz3 ?_ GE562.out | refine zz3 ?_ GE576.out⟩
          ·rw [if_neg c58] at H
           have c58b0:(t592 == t590)=false:=beq_eq_false_iff_ne.mpr c58
           have c58b1:(t592 != t590)=true:=bne_iff_ne.mpr c58
           obtain rfl:=Option.some.inj H
           obtain ⟨Ao79,co79,eo79⟩:=Kd.R_slice HO_7.out
           subst eo79
           go_wp2_with (first | ((with_reducible refine gate_callee (f:=17) rfl ?_);refine goesL_ (some 64) rfl rfl Try.func17 (by kernel_rfl) rfl #[.slice Ao79 t577.length co79,.int .i64 1] rfl (by (try simp only [zz26,zz27,zz28]);first | done | rfl | (simp only [zz24,zz25];rfl)) ?_;(with_reducible refine (laws_markIntS.calls kj36 (fun k_=>some k_=(.slice Ao79 t577.length co79:Value).ownBlock) (.slice Ao79 t577.length co79) t577 1 t590 t591 w _ ?side1 ?side2 A53.out).mono ?_);(case side1=>repeat first | exact HB.out | apply zz2 | apply zz0 | apply zz1 | refine zz3 ?_ GE562.out | refine zz3 ?_ GE576.out);(case side2=>exact Kd.R_tight rfl HO_7.out);rintro e w80 ⟨rfl,hy0,hb,hkp⟩;refine ⟨_,rfl,?_⟩;have n0_:=zz31 (Kd.R_mono (ok':=fun k_=>some k_ ≠ (.slice Ao79 t577.length co79:Value).ownBlock) (Kd.R_keptB (HO_4.out) hkp (fun k_ hk_ hs_=>(hk_) hs_)) (fun k_ hk_=>hk_.1));have n1_:=zz31 (Kd.R_reok rfl hy0 (fun k_ e_=>HO_7.out.1 k_ e_));have n2_:=zz31 (Kd.R_mono (ok':=fun k_=>True) (Kd.R_keptB ((Kd.R_apart' HO_577001.out (Kd.R_typed HO_7.out) (by decide))) hkp (fun k_ hk_ hs_=>(hk_.2) hs_)) (fun k_ hk_=>trivial));have n3_:=zz31 (blk_kept (by (with_reducible repeat (first | refine zz6 ?_ _ | refine zz7 ?_ | refine zz8 ?_ _));exact BK562.out) hkp (fun hs_=>(fun e_=>(Kd.R_ne HO_7.out BK562.out (by decide)) e_) hs_));have n4_:=zz31 (blk_kept (by (with_reducible repeat (first | refine zz6 ?_ _ | refine zz7 ?_ | refine zz8 ?_ _));exact BK576.out) hkp (fun hs_=>(fun e_=>(Kd.R_ne HO_7.out BK576.out (by decide)) e_) hs_));have n5_:=zz31 (hb);clear HO_4;clear HO_7;clear HO_577001;clear BK562;clear BK576;clear HB;have HO_4:=n0_;have HO_7:=n1_;have HO_577001:=n2_;have BK562:=n3_;have BK576:=n4_;have HB:=n5_;clear n0_ n1_ n2_ n3_ n4_ n5_;(try clear hb);(try clear hkp);(try clear hy0)) | ((with_reducible refine gate_callee (f:=18) rfl ?_);refine goesL_ (some 67) rfl rfl Try.func18 (by kernel_rfl) rfl #[.slice Ao79 t591.length co79,.int .i64 1] rfl (by (try simp only [zz26,zz27,zz28]);first | done | (rw [show t591.length=t577.length from (Kd.R_reads' HO_7.out).1.symm] <;> rfl) | rfl | (simp only [zz24,zz25];rfl)) ?_;(with_reducible refine (laws_heldIntS.calls kj36 _ _ t591 1 t592 _ ?side1 ?side2 A54.out).mono ?_);(case side1=>repeat (first | exact (Kd.R_reads' HO_7.out).2.2 | (with_reducible refine zz18 ?_ _) | (with_reducible refine zz19 ?_ _) | (with_reducible refine zz20 ?_)));(case side2=>rw [show t591.length=t577.length from (Kd.R_reads' HO_7.out).1.symm];exact (Kd.R_reads' HO_7.out).2.1);rintro e w' ⟨rfl,⟨nd,rfl⟩⟩;refine ⟨_,rfl,?_⟩))
           go_ret
           exact ⟨by first | rfl | (simp [errW_none,errW_some] <;> rfl) | (simp [*,errW_none,errW_some] <;> rfl),by repeat first | exact HB.out | apply zz2 | apply zz0 | apply zz1 | refine zz3 ?_ GE562.out | refine zz3 ?_ GE576.out⟩
     ·replace c35:=Bool.eq_false_iff.mpr c35
      subst c35
      have H1:(some false)=some r:=by rw [if_neg (show ¬ (false=true) by decide)] at H;exact H
      clear H
      have H:=H1
      clear H1
      obtain rfl:=Option.some.inj H
      try go_wp2
      have n0_:=zz31 (zz14 HO_4.out)
      have n1_:=zz31 (zz14 HO_7.out)
      have n2_:=zz31 (zz14 HO_577001.out)
      have n3_:=zz31 (zz7 BK562.out)
      have n4_:=zz31 (zz7 BK576.out)
      have n5_:=zz31 (zz1 HB.out)
      clear HO_4
      clear HO_7
      clear HO_577001
      clear BK562
      clear BK576
      clear HB
      have HO_4:=n0_
      have HO_7:=n1_
      have HO_577001:=n2_
      have BK562:=n3_
      have BK576:=n4_
      have HB:=n5_
      clear n0_ n1_ n2_ n3_ n4_ n5_
      refine start_ (n:=5) (S:=fun w'=>w'.cell? ⟨gb576,0,none⟩=some (.int .i64 t572)∧w'.cell? ⟨gb576,1,none⟩=some (.slice Ao24 t573.length co24)∧w'.cell? ⟨gb562,0,none⟩=some (.int .i64 a0_0)∧w'.cell? ⟨gb562,1,none⟩=some (.slice A0_1 l0_1.length c0_1)) (ds:=[]) #[F,F,F,F,F] (by kernel_rfl) rfl rfl ⟨(zz9 BK576.out 0).trans rfl,(zz9 BK576.out 1).trans rfl,(zz9 BK562.out 0).trans rfl,(zz9 BK562.out 1).trans rfl⟩ (fun hHeld=>?_)
      generalize wc.drew=w81 at HO_4 HO_7 HO_577001 BK562 BK576 HB hHeld ⊢
      refine take_ (i:=0) (N:=some 41) (v:=?_) (a':=?_) #[T,F,F,F,F] rfl rfl (by kernel_rfl) (fun _ _ _ h=>h) (Or.inl ⟨by rfl,?_⟩) hHeld ?_ ?_
      rotate_left
      ·rintro w' ⟨s0,s1,s2,s3⟩
       go_simp
       with_reducible rfl
      rotate_left
      ·simp only [Act.put,zz21,zz22,zz23,i64_w,i32_w]
       rfl
      refine take_ (i:=1) (N:=some 42) (v:=?_) (a':=?_) #[T,T,F,F,F] rfl rfl (by kernel_rfl) (fun _ _ _ h=>h) (Or.inl ⟨by rfl,?_⟩) hHeld ?_ ?_
      rotate_left
      ·rintro w' ⟨s0,s1,s2,s3⟩
       go_simp
       with_reducible rfl
      rotate_left
      ·simp only [Act.put,zz21,zz22,zz23,i64_w,i32_w]
       rfl
      refine one_ (i:=2) (N:=some 43) #[T,T,T,F,F] rfl rfl (by kernel_rfl) (by decide) (fun K hK=>?_)
      refine goes_ Try.func11 (by kernel_rfl) rfl #[.agg #[.int .i64 a0_0,.slice A0_1 l0_1.length c0_1]] (by rfl) rfl rfl (by (try simp only [zz26,zz27,zz28]);first | done | rfl | (simp only [zz24,zz25];rfl)) ?_
      with_reducible refine (laws_toParty.calls kj10 a0_0 _ _ l0_1 t582 t583 _ ?side1 ?side2 A33.out).mono ?_
      (case side1=>repeat (first | exact (Kd.C_below HR0_1.out HB.out) | (with_reducible refine zz18 ?_ _) | (with_reducible refine zz19 ?_ _) | (with_reducible refine zz20 ?_)))
      (case side2=>exact HC0_1.out)
      rintro e w82 ⟨v584,rfl,ho0,hb⟩
      refine ⟨_,rfl,?_⟩
      have n0_:=zz31 (Kd.R_below (by (with_reducible repeat (first | apply zz12 | apply zz13 | apply zz14));exact HO_4.out) hb)
      have n1_:=zz31 (Kd.R_below (by (with_reducible repeat (first | apply zz12 | apply zz13 | apply zz14));exact HO_7.out) hb)
      have n2_:=zz31 (Kd.R_elder' (by (with_reducible repeat (first | apply zz12 | apply zz13 | apply zz14));exact HO_577001.out) (Kd.R_base ho0) hb)
      have n3_:=zz31 (Kd.R_lower (Kd.R_new' ho0 (Kd.R_lt (by (with_reducible repeat (first | apply zz12 | apply zz13 | apply zz14));exact HO_577001.out))) (zz5 (by repeat first | exact HB.out | apply zz2 | apply zz0 | apply zz1 | refine zz3 ?_ GE562.out | refine zz3 ?_ GE576.out)))
      have n4_:=zz31 (zz11 (g:=gb562) (o:=.cells #[.int .i64 a0_0,.slice A0_1 l0_1.length c0_1] 24 (0,0)) (by (with_reducible repeat (first | refine zz6 ?_ _ | refine zz7 ?_ | refine zz8 ?_ _));exact BK562.out) hb)
      have n5_:=zz31 (zz11 (g:=gb576) (o:=.cells #[.int .i64 t572,.slice Ao24 t573.length co24] 31 (0,0)) (by (with_reducible repeat (first | refine zz6 ?_ _ | refine zz7 ?_ | refine zz8 ?_ _));exact BK576.out) hb)
      have n6_:=zz31 (zz4 (by repeat first | exact HB.out | apply zz2 | apply zz0 | apply zz1 | refine zz3 ?_ GE562.out | refine zz3 ?_ GE576.out) hb)
      clear HO_4
      clear HO_7
      clear HO_577001
      clear BK562
      clear BK576
      clear HB
      have HO_4:=n0_
      have HO_7:=n1_
      have HO_577001:=n2_
      have HO585:=n3_
      have BK562:=n4_
      have BK576:=n5_
      have HB:=n6_
      clear n0_ n1_ n2_ n3_ n4_ n5_ n6_
      (try clear hb)
      (try clear hb2)
      (try clear hk)
      (try clear hi)
      (try clear ho0)
      obtain ⟨Ao83,co83,eo83⟩:=Kd.R_slice HO585.out
      (first | subst eo83 | (injection eo83 with f1_ f2_ f3_;have f4_:=f1_.symm;have f5_:=f3_.symm;clear f1_ f2_ f3_;subst f4_;subst f5_))
      refine hK.out _ _ ⟨(zz9 BK576.out 0).trans rfl,(zz9 BK576.out 1).trans rfl,(zz9 BK562.out 0).trans rfl,(zz9 BK562.out 1).trans rfl⟩ (fun hHeld=>?_)
      clear hK K
      refine norm_ (a':=?_) ?_ ?_
      rotate_left
      ·show Act.put _ (some 43) _=_
       simp only [Act.put,zz21,zz22,zz23,i64_w,i32_w]
       rfl
      refine one_ (i:=3) (N:=some 44) #[T,T,T,T,F] rfl rfl (by kernel_rfl) (by decide) (fun K hK=>?_)
      refine goes_ Try.func15 (by kernel_rfl) rfl #[.agg #[.int .i64 t572,.slice Ao24 t573.length co24],.agg #[.int .i64 t582,.slice Ao83 t583.length co83]] (by rfl) rfl rfl (by (try simp only [zz26,zz27,zz28]);first | done | rfl | (simp only [zz24,zz25];rfl)) ?_
      with_reducible refine (laws_eqParty.calls kj10 t572 _ _ t573 t582 _ _ t583 false _ ?side1 ?side2 ?side3 ?side4 A34.out).mono ?_
      (case side1=>repeat (first | exact (Kd.R_reads' HO_577001.out).2.2 | (with_reducible refine zz18 ?_ _) | (with_reducible refine zz19 ?_ _) | (with_reducible refine zz20 ?_)))
      (case side2=>exact (Kd.R_reads' HO_577001.out).2.1)
      (case side3=>repeat (first | exact (Kd.R_reads' HO585.out).2.2 | (with_reducible refine zz18 ?_ _) | (with_reducible refine zz19 ?_ _) | (with_reducible refine zz20 ?_)))
      (case side4=>exact (Kd.R_reads' HO585.out).2.1)
      rintro e w84 ⟨rfl,hb⟩
      refine ⟨_,rfl,?_⟩
      have n0_:=zz31 (Kd.R_below (by (with_reducible repeat (first | apply zz12 | apply zz13 | apply zz14));exact HO_4.out) hb)
      have n1_:=zz31 (Kd.R_below (by (with_reducible repeat (first | apply zz12 | apply zz13 | apply zz14));exact HO_7.out) hb)
      have n2_:=zz31 (Kd.R_below (by (with_reducible repeat (first | apply zz12 | apply zz13 | apply zz14));exact HO_577001.out) hb)
      have n3_:=zz31 (Kd.R_below (by (with_reducible repeat (first | apply zz12 | apply zz13 | apply zz14));exact HO585.out) hb)
      have n4_:=zz31 (zz11 (g:=gb562) (o:=.cells #[.int .i64 a0_0,.slice A0_1 l0_1.length c0_1] 24 (0,0)) (by (with_reducible repeat (first | refine zz6 ?_ _ | refine zz7 ?_ | refine zz8 ?_ _));exact BK562.out) hb)
      have n5_:=zz31 (zz11 (g:=gb576) (o:=.cells #[.int .i64 t572,.slice Ao24 t573.length co24] 31 (0,0)) (by (with_reducible repeat (first | refine zz6 ?_ _ | refine zz7 ?_ | refine zz8 ?_ _));exact BK576.out) hb)
      have n6_:=zz31 (zz4 (by repeat first | exact HB.out | apply zz2 | apply zz0 | apply zz1 | refine zz3 ?_ GE562.out | refine zz3 ?_ GE576.out) hb)
      clear HO_4
      clear HO_7
      clear HO_577001
      clear HO585
      clear BK562
      clear BK576
      clear HB
      have HO_4:=n0_
      have HO_7:=n1_
      have HO_577001:=n2_
      have HO585:=n3_
      have BK562:=n4_
      have BK576:=n5_
      have HB:=n6_
      clear n0_ n1_ n2_ n3_ n4_ n5_ n6_
      (try clear hb)
      (try clear hb2)
      (try clear hk)
      (try clear hi)
      refine hK.out _ _ ⟨(zz9 BK576.out 0).trans rfl,(zz9 BK576.out 1).trans rfl,(zz9 BK562.out 0).trans rfl,(zz9 BK562.out 1).trans rfl⟩ (fun hHeld=>?_)
      clear hK K
      refine norm_ (a':=?_) ?_ ?_
      rotate_left
      ·show Act.put _ (some 44) _=_
       simp only [Act.put,zz21,zz22,zz23,i64_w,i32_w]
       rfl
      refine pure_ (i:=4) (N:=some 45) (v:=?_) (a':=?_) #[T,T,T,T,T] rfl rfl (by kernel_rfl) (fun _ _ _ h=>h) (Or.inl ⟨by rfl,?_⟩) ?_ ?_
      rotate_left
      ·intro w'
       go_simp
       with_reducible rfl
      rotate_left
      ·simp only [Act.put,zz21,zz22,zz23,i64_w,i32_w]
       rfl
      refine done_ (by kernel_rfl) ?_
      try go_wp2
      go_ret
      exact ⟨by first | rfl | (simp [errW_none,errW_some] <;> rfl) | (simp [*,errW_none,errW_some] <;> rfl),by repeat first | exact HB.out | apply zz2 | apply zz0 | apply zz1 | refine zz3 ?_ GE562.out | refine zz3 ?_ GE576.out⟩

end Go.Proofs.Ytifkaefccghgdaa.P
