-- PRINTED by print.py (a twelfth state) out of the translation. Not trusted: Lean checks it.
import Derived.Test.YtifkaefccghgdaaDoorPx0
import Derived.Test.YtifkaefccghgdaaDoorPx1
import Derived.Test.YtifkaefccghgdaaDoorPx5
import Derived.Test.YtifkaefccghgdaaDoorPx7
import Derived.Test.YtifkaefccghgdaaDoorPx12
import Derived.Test.YtifkaefccghgdaaDoorPx13
namespace Go.Proofs.YtifkaefccghgdaaDoor.P
open Go.RowKit Go.Proofs.YtifkaefccghgdaaDoorW.PrintWords Go.Proofs.YtifkaefccghgdaaDoorW.PrintLast Go.Proofs.YtifkaefccghgdaaDoorW.PrintMore
open Bool renaming true → T, false → F
attribute [local go_sem] max2_int min2_int max_two min_two max_three min_three max_four min_four   -- for this text's walks alone
set_option linter.unusedVariables false
set_option linter.unusedSimpArgs false

/-! ### spec_GreatestGroup: function 22 -/
def spec_GreatestGroup.f (k:Nat) (a0_0:Int) (l0_1:List (S74)):Option (List Int × Bool):=(spec_paGood.f k a0_0 l0_1).bind fun t300=>(if t300=true then ((spec_trGreatest.f k a0_0 l0_1).bind fun t301=>(some (t301,true))) else (some (([]:List Int),false)))
theorem spec_GreatestGroup.mono:∀ a0 a1 k,LeO (spec_GreatestGroup.f k a0 a1) (spec_GreatestGroup.f (k+1) a0 a1):=by
 intro a0 a1 k
 unfold spec_GreatestGroup.f
 repeat' first
   | (with_reducible exact spec_paGood.mono _ _ _)
   | (with_reducible exact spec_trGreatest.mono _ _ _)
   | (with_reducible exact LeO.refl _)
   | (with_reducible exact LeO.none _)
   | (with_reducible refine LeO.ite ?_ ?_)
   | (with_reducible refine LeO.bind ?_ (fun _=>?_))
   | exact spec_paGood.mono _ _ _
   | exact spec_trGreatest.mono _ _ _
   | exact LeO.none _
   | refine LeO.ite ?_ ?_
   | refine LeO.bind ?_ (fun _=>?_)
set_option maxHeartbeats 8000000 in
set_option maxRecDepth 100000 in
theorem spec_GreatestGroup.calls (k:Nat) (a0_0:Int) (A0_1:Option Addr) (c0_1:Nat) (l0_1:List (S74)) (r1:List Int) (r2:Bool) (w:World) (hr0_1:Kd.C k74 w A0_1 l0_1.length l0_1) (hc0_1:l0_1.length≤c0_1) (h:spec_GreatestGroup.f k a0_0 l0_1=some (r1,r2)) :
  Calls Tryd.prog 22 #[.agg #[.int .i64 a0_0,.slice A0_1 l0_1.length c0_1]] w fun e w'=>∃ v0_:Value,e=.returned (.tuple #[v0_,.bool r2])∧Kd.V (Kd.int .i64) 3 w' w.heap.size (fun k_=>(w.heap.size≤k_)) v0_ r1∧Below w.heap.size w w':=by
 have hu30:=Tryd.underlying30
 have HR0_1:=zz31 hr0_1
 have HC0_1:=zz31 hc0_1
 clear hr0_1 hc0_1
 have HB:=zz31 (Below.refl w.heap.size w)
 have H:((spec_paGood.f k a0_0 l0_1).bind fun t300=>(if t300=true then ((spec_trGreatest.f k a0_0 l0_1).bind fun t301=>(some (t301,true))) else (some (([]:List Int),false))))=some (r1,r2):=h
 clear h
 replace H:=zz30.mp H
 obtain ⟨t300,A20,H⟩:=H
 replace H:(if t300=true then ((spec_trGreatest.f k a0_0 l0_1).bind fun t301=>(some (t301,true))) else (some (([]:List Int),false)))=some (r1,r2):=H
 have A2:=zz31 A20
 clear A20
 by_cases c3:t300=true
 ·subst c3
  have H1:((spec_trGreatest.f k a0_0 l0_1).bind fun t301=>(some (t301,true)))=some (r1,r2):=by rw [if_pos rfl] at H;exact H
  clear H
  have H:=H1
  clear H1
  replace H:=zz30.mp H
  obtain ⟨t301,A40,H⟩:=H
  replace H:(some (t301,true))=some (r1,r2):=H
  have A4:=zz31 A40
  clear A40
  simp only [Option.some.injEq,Prod.mk.injEq] at H
  obtain ⟨rfl,rfl⟩:=H
  go_enter Tryd.func22,Tryd.ntmps22
  go_wp2_with (first | ((with_reducible refine gate_dst (N:=1) rfl ?_);refine box_event ?hg (N:=1) ?hd (cs:=#[.int .i64 a0_0,.slice A0_1 l0_1.length c0_1]) (t:=30) ?hr ?_;(case hd=>rfl);(case hg=>rfl);(case hr=>first | (go_simp;done) | (go_simp;rfl));intro gb299 hg w5 hbox hb;have n0_:=zz31 (zz4 (by repeat first | exact HB.out | apply zz2 | apply zz0 | apply zz1) hb);have n1_:=zz31 (hbox);have n2_:=zz31 ((by rw [hg];exact (zz5 (by repeat first | exact HB.out | apply zz2 | apply zz0 | apply zz1)):w.heap.size≤gb299));have n3_:=zz31 ((by rw [hg];exact (zz5 (by repeat first | exact HB.out | apply zz2 | apply zz0 | apply zz1)):w.heap.size≤gb299));clear HB;have HB:=n0_;have BK299:=n1_;have GW299:=n2_;have GE299:=n3_;clear n0_ n1_ n2_ n3_;clear hb hbox hg;have hcz6_0:w5.cell? ⟨gb299,0,none⟩=some (.int .i64 a0_0):=(zz9 BK299.out 0).trans rfl;have hcz6_1:w5.cell? ⟨gb299,1,none⟩=some (.slice A0_1 l0_1.length c0_1):=(zz9 BK299.out 1).trans rfl;have hfz6_0:=zz10 BK299.out 0;have hfz6_1:=zz10 BK299.out 1) | ((with_reducible refine gate_callee (f:=30) rfl ?_);refine goesL_ (some 5) rfl rfl Tryd.func30 (by kernel_rfl) rfl #[.agg #[.int .i64 a0_0,.slice A0_1 l0_1.length c0_1]] rfl (by (try simp only [zz26,zz27,zz28]);first | done | rfl | (simp only [zz24,zz25];rfl)) ?_;(with_reducible refine (spec_paGood.calls k a0_0 _ _ l0_1 true _ ?side1 ?side2 A2.out).mono ?_);(case side1=>repeat (first | exact (Kd.C_below HR0_1.out HB.out) | (with_reducible refine zz18 ?_ _) | (with_reducible refine zz19 ?_ _) | (with_reducible refine zz20 ?_)));(case side2=>exact HC0_1.out);rintro e w7 ⟨rfl,hb⟩;refine ⟨_,rfl,?_⟩;have n0_:=zz31 (zz11 (g:=gb299) (o:=.cells #[.int .i64 a0_0,.slice A0_1 l0_1.length c0_1] 30 (0,0)) (by (with_reducible repeat (first | refine zz6 ?_ _ | refine zz7 ?_ | refine zz8 ?_ _));exact BK299.out) hb);have n1_:=zz31 (zz4 (by repeat first | exact HB.out | apply zz2 | apply zz0 | apply zz1 | refine zz3 ?_ GE299.out) hb);clear BK299;clear HB;have BK299:=n0_;have HB:=n1_;clear n0_ n1_;(try clear hb);(try clear hb2);(try clear hk);(try clear hi);have hcz8_0:w7.cell? ⟨gb299,0,none⟩=some (.int .i64 a0_0):=(zz9 BK299.out 0).trans rfl;have hcz8_1:w7.cell? ⟨gb299,1,none⟩=some (.slice A0_1 l0_1.length c0_1):=(zz9 BK299.out 1).trans rfl;have hfz8_0:=zz10 BK299.out 0;have hfz8_1:=zz10 BK299.out 1) | ((with_reducible refine gate_callee (f:=50) rfl ?_);refine goesL_ (some 8) rfl rfl Tryd.func50 (by kernel_rfl) rfl #[.agg #[.int .i64 a0_0,.slice A0_1 l0_1.length c0_1]] rfl (by (try simp only [zz26,zz27,zz28]);first | done | rfl | (simp only [zz24,zz25];rfl)) ?_;(with_reducible refine (spec_trGreatest.calls k a0_0 _ _ l0_1 t301 _ ?side1 ?side2 A4.out).mono ?_);(case side1=>repeat (first | exact (Kd.C_below HR0_1.out HB.out) | (with_reducible refine zz18 ?_ _) | (with_reducible refine zz19 ?_ _) | (with_reducible refine zz20 ?_)));(case side2=>exact HC0_1.out);rintro e w9 ⟨v302,rfl,ho0,hb⟩;refine ⟨_,rfl,?_⟩;have n0_:=zz31 (Kd.V_lower (Kd.V_mono (ok':=fun k_=>(w.heap.size≤k_)∧k_ ≠ gb299) ho0 (fun k_ hk_=>⟨(Nat.le_trans (zz5 (by repeat first | exact HB.out | apply zz2 | apply zz0 | apply zz1 | refine zz3 ?_ GE299.out)) hk_),(Kd.freshB (g:=gb299) (o:=.cells #[.int .i64 a0_0,.slice A0_1 l0_1.length c0_1] 30 (0,0)) (by (with_reducible repeat (first | refine zz6 ?_ _ | refine zz7 ?_ | refine zz8 ?_ _));exact BK299.out) k_ hk_)⟩)) (zz5 (by repeat first | exact HB.out | apply zz2 | apply zz0 | apply zz1 | refine zz3 ?_ GE299.out)));have n1_:=zz31 (zz11 (g:=gb299) (o:=.cells #[.int .i64 a0_0,.slice A0_1 l0_1.length c0_1] 30 (0,0)) (by (with_reducible repeat (first | refine zz6 ?_ _ | refine zz7 ?_ | refine zz8 ?_ _));exact BK299.out) hb);have n2_:=zz31 (zz4 (by repeat first | exact HB.out | apply zz2 | apply zz0 | apply zz1 | refine zz3 ?_ GE299.out) hb);clear BK299;clear HB;have HO303:=n0_;have BK299:=n1_;have HB:=n2_;clear n0_ n1_ n2_;(try clear hb);(try clear hb2);(try clear hk);(try clear hi);(try clear ho0)))
  go_ret2
  exact ⟨_,by first | rfl | (simp [errW_none,errW_some] <;> rfl) | (simp [*,errW_none,errW_some] <;> rfl),by (with_reducible repeat (first | apply Kd.V_alloc | apply Kd.V_drewN | apply Kd.V_drew));exact Kd.V_mono HO303.out (fun _ hk=>hk.1),by repeat first | exact HB.out | apply zz2 | apply zz0 | apply zz1 | refine zz3 ?_ GE299.out⟩
 ·replace c3:=Bool.eq_false_iff.mpr c3
  subst c3
  have H1:(some (([]:List Int),false))=some (r1,r2):=by rw [if_neg (show ¬ (false=true) by decide)] at H;exact H
  clear H
  have H:=H1
  clear H1
  simp only [Option.some.injEq,Prod.mk.injEq] at H
  obtain ⟨rfl,rfl⟩:=H
  go_enter Tryd.func22,Tryd.ntmps22
  go_wp2_with (first | ((with_reducible refine gate_dst (N:=1) rfl ?_);refine box_event ?hg (N:=1) ?hd (cs:=#[.int .i64 a0_0,.slice A0_1 l0_1.length c0_1]) (t:=30) ?hr ?_;(case hd=>rfl);(case hg=>rfl);(case hr=>first | (go_simp;done) | (go_simp;rfl));intro gb299 hg w10 hbox hb;have n0_:=zz31 (zz4 (by repeat first | exact HB.out | apply zz2 | apply zz0 | apply zz1) hb);have n1_:=zz31 (hbox);have n2_:=zz31 ((by rw [hg];exact (zz5 (by repeat first | exact HB.out | apply zz2 | apply zz0 | apply zz1)):w.heap.size≤gb299));have n3_:=zz31 ((by rw [hg];exact (zz5 (by repeat first | exact HB.out | apply zz2 | apply zz0 | apply zz1)):w.heap.size≤gb299));clear HB;have HB:=n0_;have BK299:=n1_;have GW299:=n2_;have GE299:=n3_;clear n0_ n1_ n2_ n3_;clear hb hbox hg;have hcz11_0:w10.cell? ⟨gb299,0,none⟩=some (.int .i64 a0_0):=(zz9 BK299.out 0).trans rfl;have hcz11_1:w10.cell? ⟨gb299,1,none⟩=some (.slice A0_1 l0_1.length c0_1):=(zz9 BK299.out 1).trans rfl;have hfz11_0:=zz10 BK299.out 0;have hfz11_1:=zz10 BK299.out 1) | ((with_reducible refine gate_callee (f:=30) rfl ?_);refine goesL_ (some 5) rfl rfl Tryd.func30 (by kernel_rfl) rfl #[.agg #[.int .i64 a0_0,.slice A0_1 l0_1.length c0_1]] rfl (by (try simp only [zz26,zz27,zz28]);first | done | rfl | (simp only [zz24,zz25];rfl)) ?_;(with_reducible refine (spec_paGood.calls k a0_0 _ _ l0_1 false _ ?side1 ?side2 A2.out).mono ?_);(case side1=>repeat (first | exact (Kd.C_below HR0_1.out HB.out) | (with_reducible refine zz18 ?_ _) | (with_reducible refine zz19 ?_ _) | (with_reducible refine zz20 ?_)));(case side2=>exact HC0_1.out);rintro e w12 ⟨rfl,hb⟩;refine ⟨_,rfl,?_⟩;have n0_:=zz31 (zz11 (g:=gb299) (o:=.cells #[.int .i64 a0_0,.slice A0_1 l0_1.length c0_1] 30 (0,0)) (by (with_reducible repeat (first | refine zz6 ?_ _ | refine zz7 ?_ | refine zz8 ?_ _));exact BK299.out) hb);have n1_:=zz31 (zz4 (by repeat first | exact HB.out | apply zz2 | apply zz0 | apply zz1 | refine zz3 ?_ GE299.out) hb);clear BK299;clear HB;have BK299:=n0_;have HB:=n1_;clear n0_ n1_;(try clear hb);(try clear hb2);(try clear hk);(try clear hi)))
  go_ret2
  exact ⟨.slice none 0 0,by first | rfl | (simp [errW_none,errW_some] <;> rfl) | (simp [*,errW_none,errW_some] <;> rfl),Kd.R_V (Kd.R_nil _ _ _ 0 _),by repeat first | exact HB.out | apply zz2 | apply zz0 | apply zz1 | refine zz3 ?_ GE299.out⟩

/-! ### impl_GreatestGroup: function 23 -/
def impl_GreatestGroup.f (k:Nat) (a0_0:Int) (l0_1:List (S74)):Option (List Int × Bool):=(impl_IsParty.f k a0_0 l0_1).bind fun t305=>(if t305=true then ((impl_Party_table.f k a0_0 l0_1).bind fun t306=>((impl_table_greatest.f t306).bind fun t309=>(some (t309,true)))) else (some (([]:List Int),false)))
theorem impl_GreatestGroup.mono:∀ a0 a1 k,LeO (impl_GreatestGroup.f k a0 a1) (impl_GreatestGroup.f (k+1) a0 a1):=by
 intro a0 a1 k
 unfold impl_GreatestGroup.f
 repeat' first
   | (with_reducible exact impl_IsParty.mono _ _ _)
   | (with_reducible exact impl_Party_table.mono _ _ _)
   | (with_reducible exact LeO.refl _)
   | (with_reducible exact LeO.none _)
   | (with_reducible refine LeO.ite ?_ ?_)
   | (with_reducible refine LeO.bind ?_ (fun _=>?_))
   | exact impl_IsParty.mono _ _ _
   | exact impl_Party_table.mono _ _ _
   | exact LeO.none _
   | refine LeO.ite ?_ ?_
   | refine LeO.bind ?_ (fun _=>?_)
set_option maxHeartbeats 8000000 in
set_option maxRecDepth 100000 in
theorem impl_GreatestGroup.calls (k:Nat) (a0_0:Int) (A0_1:Option Addr) (c0_1:Nat) (l0_1:List (S74)) (r1:List Int) (r2:Bool) (w:World) (hr0_1:Kd.C k74 w A0_1 l0_1.length l0_1) (hc0_1:l0_1.length≤c0_1) (h:impl_GreatestGroup.f k a0_0 l0_1=some (r1,r2)) (hT:Tz w) :
  Calls Tryd.prog 23 #[.agg #[.int .i64 a0_0,.slice A0_1 l0_1.length c0_1]] w fun e w'=>∃ v0_:Value,e=.returned (.tuple #[v0_,.bool r2])∧Kd.R (Kd.int .i64) 3 w' w.heap.size (fun _=>True) v0_ r1∧Below w.heap.size w w':=by
 have hu30:=Tryd.underlying30
 have HR0_1:=zz31 hr0_1
 have HC0_1:=zz31 hc0_1
 clear hr0_1 hc0_1
 have HB:=zz31 (Below.refl w.heap.size w)
 have HT:=zz31 hT
 clear hT
 have H:((impl_IsParty.f k a0_0 l0_1).bind fun t305=>(if t305=true then ((impl_Party_table.f k a0_0 l0_1).bind fun t306=>((impl_table_greatest.f t306).bind fun t309=>(some (t309,true)))) else (some (([]:List Int),false))))=some (r1,r2):=h
 clear h
 replace H:=zz30.mp H
 obtain ⟨t305,A20,H⟩:=H
 replace H:(if t305=true then ((impl_Party_table.f k a0_0 l0_1).bind fun t306=>((impl_table_greatest.f t306).bind fun t309=>(some (t309,true)))) else (some (([]:List Int),false)))=some (r1,r2):=H
 have A2:=zz31 A20
 clear A20
 by_cases c3:t305=true
 ·subst c3
  have H1:((impl_Party_table.f k a0_0 l0_1).bind fun t306=>((impl_table_greatest.f t306).bind fun t309=>(some (t309,true))))=some (r1,r2):=by rw [if_pos rfl] at H;exact H
  clear H
  have H:=H1
  clear H1
  replace H:=zz30.mp H
  obtain ⟨t306,A40,H⟩:=H
  replace H:((impl_table_greatest.f t306).bind fun t309=>(some (t309,true)))=some (r1,r2):=H
  have A4:=zz31 A40
  clear A40
  replace H:=zz30.mp H
  obtain ⟨t309,A50,H⟩:=H
  replace H:(some (t309,true))=some (r1,r2):=H
  have A5:=zz31 A50
  clear A50
  simp only [Option.some.injEq,Prod.mk.injEq] at H
  obtain ⟨rfl,rfl⟩:=H
  go_enter Tryd.func23,Tryd.ntmps23
  go_wp2_with (first | ((with_reducible refine gate_dst (N:=1) rfl ?_);refine box_event ?hg (N:=1) ?hd (cs:=#[.int .i64 a0_0,.slice A0_1 l0_1.length c0_1]) (t:=30) ?hr ?_;(case hd=>rfl);(case hg=>rfl);(case hr=>first | (go_simp;done) | (go_simp;rfl));intro gb304 hg w6 hbox hb;have n0_:=zz31 (zz4 (by repeat first | exact HB.out | apply zz2 | apply zz0 | apply zz1) hb);have n1_:=zz31 (hbox);have n2_:=zz31 ((by rw [hg];exact (zz5 (by repeat first | exact HB.out | apply zz2 | apply zz0 | apply zz1)):w.heap.size≤gb304));have n3_:=zz31 ((by rw [hg];exact (zz5 (by repeat first | exact HB.out | apply zz2 | apply zz0 | apply zz1)):w.heap.size≤gb304));clear HB;have HB:=n0_;have BK304:=n1_;have GW304:=n2_;have GE304:=n3_;clear n0_ n1_ n2_ n3_;clear hb hbox hg;have hcz7_0:w6.cell? ⟨gb304,0,none⟩=some (.int .i64 a0_0):=(zz9 BK304.out 0).trans rfl;have hcz7_1:w6.cell? ⟨gb304,1,none⟩=some (.slice A0_1 l0_1.length c0_1):=(zz9 BK304.out 1).trans rfl;have hfz7_0:=zz10 BK304.out 0;have hfz7_1:=zz10 BK304.out 1) | ((with_reducible refine gate_callee (f:=35) rfl ?_);refine goesL_ (some 5) rfl rfl Tryd.func35 (by kernel_rfl) rfl #[.agg #[.int .i64 a0_0,.slice A0_1 l0_1.length c0_1]] rfl (by (try simp only [zz26,zz27,zz28]);first | done | rfl | (simp only [zz24,zz25];rfl)) ?_;(with_reducible refine (impl_IsParty.calls k a0_0 _ _ l0_1 true _ ?side1 ?side2 A2.out).mono ?_);(case side1=>repeat (first | exact (Kd.C_below HR0_1.out HB.out) | (with_reducible refine zz18 ?_ _) | (with_reducible refine zz19 ?_ _) | (with_reducible refine zz20 ?_)));(case side2=>exact HC0_1.out);rintro e w8 ⟨rfl,hb⟩;refine ⟨_,rfl,?_⟩;have n0_:=zz31 (zz11 (g:=gb304) (o:=.cells #[.int .i64 a0_0,.slice A0_1 l0_1.length c0_1] 30 (0,0)) (by (with_reducible repeat (first | refine zz6 ?_ _ | refine zz7 ?_ | refine zz8 ?_ _));exact BK304.out) hb);have n1_:=zz31 (zz4 (by repeat first | exact HB.out | apply zz2 | apply zz0 | apply zz1 | refine zz3 ?_ GE304.out) hb);clear BK304;clear HB;have BK304:=n0_;have HB:=n1_;clear n0_ n1_;(try clear hb);(try clear hb2);(try clear hk);(try clear hi);have hcz9_0:w8.cell? ⟨gb304,0,none⟩=some (.int .i64 a0_0):=(zz9 BK304.out 0).trans rfl;have hcz9_1:w8.cell? ⟨gb304,1,none⟩=some (.slice A0_1 l0_1.length c0_1):=(zz9 BK304.out 1).trans rfl;have hfz9_0:=zz10 BK304.out 0;have hfz9_1:=zz10 BK304.out 1) | ((with_reducible refine gate_callee (f:=37) rfl ?_);refine goesL_ (some 8) rfl rfl Tryd.func37 (by kernel_rfl) rfl #[.agg #[.int .i64 a0_0,.slice A0_1 l0_1.length c0_1]] rfl (by (try simp only [zz26,zz27,zz28]);first | done | rfl | (simp only [zz24,zz25];rfl)) ?_;(with_reducible refine (impl_Party_table.calls k a0_0 _ _ l0_1 t306 _ ?side1 ?side2 A4.out).mono ?_);(case side1=>repeat (first | exact (Kd.C_below HR0_1.out HB.out) | (with_reducible refine zz18 ?_ _) | (with_reducible refine zz19 ?_ _) | (with_reducible refine zz20 ?_)));(case side2=>exact HC0_1.out);rintro e w10 ⟨v307,rfl,ho0,hb⟩;refine ⟨_,rfl,?_⟩;have n0_:=zz31 (Kd.R_lower ho0 (zz5 (by repeat first | exact HB.out | apply zz2 | apply zz0 | apply zz1 | refine zz3 ?_ GE304.out)));have n1_:=zz31 (zz11 (g:=gb304) (o:=.cells #[.int .i64 a0_0,.slice A0_1 l0_1.length c0_1] 30 (0,0)) (by (with_reducible repeat (first | refine zz6 ?_ _ | refine zz7 ?_ | refine zz8 ?_ _));exact BK304.out) hb);have n2_:=zz31 (zz4 (by repeat first | exact HB.out | apply zz2 | apply zz0 | apply zz1 | refine zz3 ?_ GE304.out) hb);clear BK304;clear HB;have HO308:=n0_;have BK304:=n1_;have HB:=n2_;clear n0_ n1_ n2_;(try clear hb);(try clear hb2);(try clear hk);(try clear hi);(try clear ho0);obtain ⟨Ao11,co11,eo11⟩:=Kd.R_slice HO308.out;subst eo11) | ((with_reducible refine gate_callee (f:=51) rfl ?_);refine goesL_ (some 9) rfl rfl Tryd.func51 (by kernel_rfl) rfl #[.slice Ao11 t306.length co11] rfl (by (try simp only [zz26,zz27,zz28]);first | done | rfl | (simp only [zz24,zz25];rfl)) ?_;(with_reducible refine (impl_table_greatest.calls _ _ t306 t309 _ ?side1 ?side2 A5.out (HT.out.below (by repeat first | exact HB.out | apply zz2 | apply zz0 | apply zz1 | refine zz3 ?_ GE304.out))).mono ?_);(case side1=>repeat (first | exact (Kd.R_reads' HO308.out).2.2 | (with_reducible refine zz18 ?_ _) | (with_reducible refine zz19 ?_ _) | (with_reducible refine zz20 ?_)));(case side2=>exact (Kd.R_reads' HO308.out).2.1);rintro e w12 ⟨v310,rfl,ho0,hb⟩;refine ⟨_,rfl,?_⟩;have n0_:=zz31 (Kd.R_below (by (with_reducible repeat (first | apply zz12 | apply zz13 | apply zz14));exact HO308.out) hb);have n1_:=zz31 (Kd.R_lower ho0 (zz5 (by repeat first | exact HB.out | apply zz2 | apply zz0 | apply zz1 | refine zz3 ?_ GE304.out)));have n2_:=zz31 (zz11 (g:=gb304) (o:=.cells #[.int .i64 a0_0,.slice A0_1 l0_1.length c0_1] 30 (0,0)) (by (with_reducible repeat (first | refine zz6 ?_ _ | refine zz7 ?_ | refine zz8 ?_ _));exact BK304.out) hb);have n3_:=zz31 (zz4 (by repeat first | exact HB.out | apply zz2 | apply zz0 | apply zz1 | refine zz3 ?_ GE304.out) hb);clear HO308;clear BK304;clear HB;have HO308:=n0_;have HO311:=n1_;have BK304:=n2_;have HB:=n3_;clear n0_ n1_ n2_ n3_;(try clear hb);(try clear hb2);(try clear hk);(try clear hi);(try clear ho0)))
  go_ret2
  exact ⟨_,by first | rfl | (simp [errW_none,errW_some] <;> rfl) | (simp [*,errW_none,errW_some] <;> rfl),by (with_reducible repeat (first | apply zz12 | apply zz13 | apply zz14));exact HO311.out,by repeat first | exact HB.out | apply zz2 | apply zz0 | apply zz1 | refine zz3 ?_ GE304.out⟩
 ·replace c3:=Bool.eq_false_iff.mpr c3
  subst c3
  have H1:(some (([]:List Int),false))=some (r1,r2):=by rw [if_neg (show ¬ (false=true) by decide)] at H;exact H
  clear H
  have H:=H1
  clear H1
  simp only [Option.some.injEq,Prod.mk.injEq] at H
  obtain ⟨rfl,rfl⟩:=H
  go_enter Tryd.func23,Tryd.ntmps23
  go_wp2_with (first | ((with_reducible refine gate_dst (N:=1) rfl ?_);refine box_event ?hg (N:=1) ?hd (cs:=#[.int .i64 a0_0,.slice A0_1 l0_1.length c0_1]) (t:=30) ?hr ?_;(case hd=>rfl);(case hg=>rfl);(case hr=>first | (go_simp;done) | (go_simp;rfl));intro gb304 hg w13 hbox hb;have n0_:=zz31 (zz4 (by repeat first | exact HB.out | apply zz2 | apply zz0 | apply zz1) hb);have n1_:=zz31 (hbox);have n2_:=zz31 ((by rw [hg];exact (zz5 (by repeat first | exact HB.out | apply zz2 | apply zz0 | apply zz1)):w.heap.size≤gb304));have n3_:=zz31 ((by rw [hg];exact (zz5 (by repeat first | exact HB.out | apply zz2 | apply zz0 | apply zz1)):w.heap.size≤gb304));clear HB;have HB:=n0_;have BK304:=n1_;have GW304:=n2_;have GE304:=n3_;clear n0_ n1_ n2_ n3_;clear hb hbox hg;have hcz14_0:w13.cell? ⟨gb304,0,none⟩=some (.int .i64 a0_0):=(zz9 BK304.out 0).trans rfl;have hcz14_1:w13.cell? ⟨gb304,1,none⟩=some (.slice A0_1 l0_1.length c0_1):=(zz9 BK304.out 1).trans rfl;have hfz14_0:=zz10 BK304.out 0;have hfz14_1:=zz10 BK304.out 1) | ((with_reducible refine gate_callee (f:=35) rfl ?_);refine goesL_ (some 5) rfl rfl Tryd.func35 (by kernel_rfl) rfl #[.agg #[.int .i64 a0_0,.slice A0_1 l0_1.length c0_1]] rfl (by (try simp only [zz26,zz27,zz28]);first | done | rfl | (simp only [zz24,zz25];rfl)) ?_;(with_reducible refine (impl_IsParty.calls k a0_0 _ _ l0_1 false _ ?side1 ?side2 A2.out).mono ?_);(case side1=>repeat (first | exact (Kd.C_below HR0_1.out HB.out) | (with_reducible refine zz18 ?_ _) | (with_reducible refine zz19 ?_ _) | (with_reducible refine zz20 ?_)));(case side2=>exact HC0_1.out);rintro e w15 ⟨rfl,hb⟩;refine ⟨_,rfl,?_⟩;have n0_:=zz31 (zz11 (g:=gb304) (o:=.cells #[.int .i64 a0_0,.slice A0_1 l0_1.length c0_1] 30 (0,0)) (by (with_reducible repeat (first | refine zz6 ?_ _ | refine zz7 ?_ | refine zz8 ?_ _));exact BK304.out) hb);have n1_:=zz31 (zz4 (by repeat first | exact HB.out | apply zz2 | apply zz0 | apply zz1 | refine zz3 ?_ GE304.out) hb);clear BK304;clear HB;have BK304:=n0_;have HB:=n1_;clear n0_ n1_;(try clear hb);(try clear hb2);(try clear hk);(try clear hi)))
  go_ret2
  exact ⟨_,by first | rfl | (simp [errW_none,errW_some] <;> rfl) | (simp [*,errW_none,errW_some] <;> rfl),by first | exact Kd.R_nil _ _ _ _ _ | exact Kd.N_nil _ _ _ _ _ | exact Kd.V_nil _ _ _ _ _ | exact Kd.Q_nil _ _ _ _ _ | exact Kd.S_nil _ _ _ _ _,by repeat first | exact HB.out | apply zz2 | apply zz0 | apply zz1 | refine zz3 ?_ GE304.out⟩

/-! ### laws_FnExactGreatestGroup: function 6 -/
mutual
def laws_FnExactGreatestGroup.j0:Nat→List Int→Bool→List Int→Bool→Bool→Int→List (S79)→Int→List (S74)→Option (Bool)
 | 0,_,_,_,_,_,_,_,_,_=>none
 | k+1,x4,x5,x7,x8,x40,x313000,x313001,x327000,x327001=>if x40=true then (some false) else ((laws_toParty.f k x313000 x313001).bind fun bt332=>((laws_eqParty.f k x327000 x327001 bt332.1 bt332.2).bind fun t336=>(if t336=true then ((laws_markParty.f k x327000 x327001 1).bind fun bt337=>(if bt337.1 < 0 then (laws_FnExactGreatestGroup.j1 k x4 x5 x7 true x313000 x313001) else ((laws_eqIntS.f k x7 x4).bind fun t339=>(if t339=true then (laws_FnExactGreatestGroup.j1 k x4 x5 x7 (x8 != x5) x313000 x313001) else (laws_FnExactGreatestGroup.j1 k x4 x5 x7 true x313000 x313001))))) else (some false))))
def laws_FnExactGreatestGroup.j1:Nat→List Int→Bool→List Int→Bool→Int→List (S79)→Option (Bool)
 | 0,_,_,_,_,_,_=>none
 | k+1,x4,x5,x7,x61,x313000,x313001=>if x61=true then (some false) else ((laws_markIntS.f k x7 1).bind fun bt340=>((laws_heldIntS.f k bt340.2 1).bind fun t342=>(if t342 < 0 then (some false) else (if t342=bt340.1 then ((laws_toParty.f k x313000 x313001).bind fun bt343=>((impl_GreatestGroup.f k bt343.1 bt343.2).bind fun bt347=>((laws_eqIntS.f k bt347.1 x4).bind fun t351=>(if t351=true then (laws_FnExactGreatestGroup.j2 k bt340.2 bt340.1 (bt347.2 != x5)) else (laws_FnExactGreatestGroup.j2 k bt340.2 bt340.1 true))))) else (some false)))))
def laws_FnExactGreatestGroup.j2:Nat→List Int→Int→Bool→Option (Bool)
 | 0,_,_,_=>none
 | k+1,x7,x10,x87=>if x87=true then (some false) else ((laws_heldIntS.f k x7 1).bind fun t352=>(if t352 < 0 then (some false) else (if t352=x10 then (some true) else (some false))))
end
def laws_FnExactGreatestGroup.f (k:Nat) (a0_0:Int) (l0_1:List (S79)):Option (Bool):=(laws_szParty.f a0_0 l0_1 1048576).bind fun t313=>(if t313 < 0 then (some true) else ((laws_toParty.f k a0_0 l0_1).bind fun bt314=>((spec_GreatestGroup.f k bt314.1 bt314.2).bind fun bt318=>((laws_toParty.f k a0_0 l0_1).bind fun bt322=>((impl_GreatestGroup.f k bt322.1 bt322.2).bind fun bt327=>((laws_eqIntS.f k bt327.1 bt318.1).bind fun t331=>(if t331=true then (laws_FnExactGreatestGroup.j0 k bt318.1 bt318.2 bt327.1 bt327.2 (bt327.2 != bt318.2) a0_0 l0_1 bt322.1 bt322.2) else (laws_FnExactGreatestGroup.j0 k bt318.1 bt318.2 bt327.1 bt327.2 true a0_0 l0_1 bt322.1 bt322.2))))))))
theorem laws_FnExactGreatestGroup.mono_l:∀ k,(∀ y0 y1 y2 y3 y4 y5 y6 y7 y8,LeO (laws_FnExactGreatestGroup.j0 k y0 y1 y2 y3 y4 y5 y6 y7 y8) (laws_FnExactGreatestGroup.j0 (k+1) y0 y1 y2 y3 y4 y5 y6 y7 y8))∧(∀ y0 y1 y2 y3 y4 y5,LeO (laws_FnExactGreatestGroup.j1 k y0 y1 y2 y3 y4 y5) (laws_FnExactGreatestGroup.j1 (k+1) y0 y1 y2 y3 y4 y5))∧(∀ y0 y1 y2,LeO (laws_FnExactGreatestGroup.j2 k y0 y1 y2) (laws_FnExactGreatestGroup.j2 (k+1) y0 y1 y2))
 | 0=>⟨fun _ _ _ _ _ _ _ _ _ r h=>by simp [laws_FnExactGreatestGroup.j0] at h,fun _ _ _ _ _ _ r h=>by simp [laws_FnExactGreatestGroup.j1] at h,fun _ _ _ r h=>by simp [laws_FnExactGreatestGroup.j2] at h⟩
 | k+1=>by
  obtain ⟨ih0,ih1,ih2⟩:=laws_FnExactGreatestGroup.mono_l k
  refine ⟨?_,?_,?_⟩
  ·intro y0 y1 y2 y3 y4 y5 y6 y7 y8
   unfold laws_FnExactGreatestGroup.j0
   repeat' first
   | (with_reducible exact ih0 _ _ _ _ _ _ _ _ _)
   | (with_reducible exact ih1 _ _ _ _ _ _)
   | (with_reducible exact ih2 _ _ _)
   | (with_reducible exact impl_GreatestGroup.mono _ _ _)
   | (with_reducible exact laws_eqIntS.mono _ _ _)
   | (with_reducible exact laws_eqParty.mono _ _ _ _ _)
   | (with_reducible exact laws_heldIntS.mono _ _ _)
   | (with_reducible exact laws_markIntS.mono _ _ _)
   | (with_reducible exact laws_markParty.mono _ _ _ _)
   | (with_reducible exact laws_toParty.mono _ _ _)
   | (with_reducible exact spec_GreatestGroup.mono _ _ _)
   | (with_reducible exact LeO.refl _)
   | (with_reducible exact LeO.none _)
   | (with_reducible refine LeO.ite ?_ ?_)
   | (with_reducible refine LeO.bind ?_ (fun _=>?_))
   | exact ih0 _ _ _ _ _ _ _ _ _
   | exact ih1 _ _ _ _ _ _
   | exact ih2 _ _ _
   | exact impl_GreatestGroup.mono _ _ _
   | exact laws_eqIntS.mono _ _ _
   | exact laws_eqParty.mono _ _ _ _ _
   | exact laws_heldIntS.mono _ _ _
   | exact laws_markIntS.mono _ _ _
   | exact laws_markParty.mono _ _ _ _
   | exact laws_toParty.mono _ _ _
   | exact spec_GreatestGroup.mono _ _ _
   | exact LeO.none _
   | refine LeO.ite ?_ ?_
   | refine LeO.bind ?_ (fun _=>?_)
  ·intro y0 y1 y2 y3 y4 y5
   unfold laws_FnExactGreatestGroup.j1
   repeat' first
   | (with_reducible exact ih0 _ _ _ _ _ _ _ _ _)
   | (with_reducible exact ih1 _ _ _ _ _ _)
   | (with_reducible exact ih2 _ _ _)
   | (with_reducible exact impl_GreatestGroup.mono _ _ _)
   | (with_reducible exact laws_eqIntS.mono _ _ _)
   | (with_reducible exact laws_eqParty.mono _ _ _ _ _)
   | (with_reducible exact laws_heldIntS.mono _ _ _)
   | (with_reducible exact laws_markIntS.mono _ _ _)
   | (with_reducible exact laws_markParty.mono _ _ _ _)
   | (with_reducible exact laws_toParty.mono _ _ _)
   | (with_reducible exact spec_GreatestGroup.mono _ _ _)
   | (with_reducible exact LeO.refl _)
   | (with_reducible exact LeO.none _)
   | (with_reducible refine LeO.ite ?_ ?_)
   | (with_reducible refine LeO.bind ?_ (fun _=>?_))
   | exact ih0 _ _ _ _ _ _ _ _ _
   | exact ih1 _ _ _ _ _ _
   | exact ih2 _ _ _
   | exact impl_GreatestGroup.mono _ _ _
   | exact laws_eqIntS.mono _ _ _
   | exact laws_eqParty.mono _ _ _ _ _
   | exact laws_heldIntS.mono _ _ _
   | exact laws_markIntS.mono _ _ _
   | exact laws_markParty.mono _ _ _ _
   | exact laws_toParty.mono _ _ _
   | exact spec_GreatestGroup.mono _ _ _
   | exact LeO.none _
   | refine LeO.ite ?_ ?_
   | refine LeO.bind ?_ (fun _=>?_)
  ·intro y0 y1 y2
   unfold laws_FnExactGreatestGroup.j2
   repeat' first
   | (with_reducible exact ih0 _ _ _ _ _ _ _ _ _)
   | (with_reducible exact ih1 _ _ _ _ _ _)
   | (with_reducible exact ih2 _ _ _)
   | (with_reducible exact impl_GreatestGroup.mono _ _ _)
   | (with_reducible exact laws_eqIntS.mono _ _ _)
   | (with_reducible exact laws_eqParty.mono _ _ _ _ _)
   | (with_reducible exact laws_heldIntS.mono _ _ _)
   | (with_reducible exact laws_markIntS.mono _ _ _)
   | (with_reducible exact laws_markParty.mono _ _ _ _)
   | (with_reducible exact laws_toParty.mono _ _ _)
   | (with_reducible exact spec_GreatestGroup.mono _ _ _)
   | (with_reducible exact LeO.refl _)
   | (with_reducible exact LeO.none _)
   | (with_reducible refine LeO.ite ?_ ?_)
   | (with_reducible refine LeO.bind ?_ (fun _=>?_))
   | exact ih0 _ _ _ _ _ _ _ _ _
   | exact ih1 _ _ _ _ _ _
   | exact ih2 _ _ _
   | exact impl_GreatestGroup.mono _ _ _
   | exact laws_eqIntS.mono _ _ _
   | exact laws_eqParty.mono _ _ _ _ _
   | exact laws_heldIntS.mono _ _ _
   | exact laws_markIntS.mono _ _ _
   | exact laws_markParty.mono _ _ _ _
   | exact laws_toParty.mono _ _ _
   | exact spec_GreatestGroup.mono _ _ _
   | exact LeO.none _
   | refine LeO.ite ?_ ?_
   | refine LeO.bind ?_ (fun _=>?_)
theorem laws_FnExactGreatestGroup.mono:∀ a0 a1 k,LeO (laws_FnExactGreatestGroup.f k a0 a1) (laws_FnExactGreatestGroup.f (k+1) a0 a1):=by
 intro a0 a1 k
 obtain ⟨ih0,ih1,ih2⟩:=laws_FnExactGreatestGroup.mono_l k
 unfold laws_FnExactGreatestGroup.f
 repeat' first
   | (with_reducible exact ih0 _ _ _ _ _ _ _ _ _)
   | (with_reducible exact ih1 _ _ _ _ _ _)
   | (with_reducible exact ih2 _ _ _)
   | (with_reducible exact impl_GreatestGroup.mono _ _ _)
   | (with_reducible exact laws_eqIntS.mono _ _ _)
   | (with_reducible exact laws_eqParty.mono _ _ _ _ _)
   | (with_reducible exact laws_heldIntS.mono _ _ _)
   | (with_reducible exact laws_markIntS.mono _ _ _)
   | (with_reducible exact laws_markParty.mono _ _ _ _)
   | (with_reducible exact laws_toParty.mono _ _ _)
   | (with_reducible exact spec_GreatestGroup.mono _ _ _)
   | (with_reducible exact LeO.refl _)
   | (with_reducible exact LeO.none _)
   | (with_reducible refine LeO.ite ?_ ?_)
   | (with_reducible refine LeO.bind ?_ (fun _=>?_))
   | exact ih0 _ _ _ _ _ _ _ _ _
   | exact ih1 _ _ _ _ _ _
   | exact ih2 _ _ _
   | exact impl_GreatestGroup.mono _ _ _
   | exact laws_eqIntS.mono _ _ _
   | exact laws_eqParty.mono _ _ _ _ _
   | exact laws_heldIntS.mono _ _ _
   | exact laws_markIntS.mono _ _ _
   | exact laws_markParty.mono _ _ _ _
   | exact laws_toParty.mono _ _ _
   | exact spec_GreatestGroup.mono _ _ _
   | exact LeO.none _
   | refine LeO.ite ?_ ?_
   | refine LeO.bind ?_ (fun _=>?_)
set_option maxHeartbeats 8000000 in
set_option maxRecDepth 100000 in
theorem laws_FnExactGreatestGroup.calls (k:Nat) (a0_0:Int) (A0_1:Option Addr) (c0_1:Nat) (l0_1:List (S79)) (r:Bool) (w:World) (hr0_1:Kd.C k79 w A0_1 l0_1.length l0_1) (hc0_1:l0_1.length≤c0_1) (h:laws_FnExactGreatestGroup.f k a0_0 l0_1=some r) (hT:Tz w) :
  Calls Tryd.prog 6 #[.agg #[.int .i64 a0_0,.slice A0_1 l0_1.length c0_1]] w fun e w'=>e=.returned (.bool r)∧Below w.heap.size w w':=by
 have hu24:=Tryd.underlying24
 have hu30:=Tryd.underlying30
 have HR0_1:=zz31 hr0_1
 have HC0_1:=zz31 hc0_1
 clear hr0_1 hc0_1
 have HB:=zz31 (Below.refl w.heap.size w)
 have HT:=zz31 hT
 clear hT
 have H:((laws_szParty.f a0_0 l0_1 1048576).bind fun t313=>(if t313 < 0 then (some true) else ((laws_toParty.f k a0_0 l0_1).bind fun bt314=>((spec_GreatestGroup.f k bt314.1 bt314.2).bind fun bt318=>((laws_toParty.f k a0_0 l0_1).bind fun bt322=>((impl_GreatestGroup.f k bt322.1 bt322.2).bind fun bt327=>((laws_eqIntS.f k bt327.1 bt318.1).bind fun t331=>(if t331=true then (laws_FnExactGreatestGroup.j0 k bt318.1 bt318.2 bt327.1 bt327.2 (bt327.2 != bt318.2) a0_0 l0_1 bt322.1 bt322.2) else (laws_FnExactGreatestGroup.j0 k bt318.1 bt318.2 bt327.1 bt327.2 true a0_0 l0_1 bt322.1 bt322.2)))))))))=some r:=h
 clear h
 replace H:=zz30.mp H
 obtain ⟨t313,A20,H⟩:=H
 replace H:(if t313 < 0 then (some true) else ((laws_toParty.f k a0_0 l0_1).bind fun bt314=>((spec_GreatestGroup.f k bt314.1 bt314.2).bind fun bt318=>((laws_toParty.f k a0_0 l0_1).bind fun bt322=>((impl_GreatestGroup.f k bt322.1 bt322.2).bind fun bt327=>((laws_eqIntS.f k bt327.1 bt318.1).bind fun t331=>(if t331=true then (laws_FnExactGreatestGroup.j0 k bt318.1 bt318.2 bt327.1 bt327.2 (bt327.2 != bt318.2) a0_0 l0_1 bt322.1 bt322.2) else (laws_FnExactGreatestGroup.j0 k bt318.1 bt318.2 bt327.1 bt327.2 true a0_0 l0_1 bt322.1 bt322.2))))))))=some r:=H
 have A2:=zz31 A20
 clear A20
 by_cases c3:t313 < 0
 ·rw [if_pos c3] at H
  have c3b0:decide (t313 < 0)=true:=decide_eq_true c3
  clear c3
  obtain rfl:=Option.some.inj H
  go_enter Tryd.func6,Tryd.ntmps6
  go_wp2_with (first | ((with_reducible refine gate_dst (N:=1) rfl ?_);refine box_event ?hg (N:=1) ?hd (cs:=#[.int .i64 a0_0,.slice A0_1 l0_1.length c0_1]) (t:=24) ?hr ?_;(case hd=>rfl);(case hg=>rfl);(case hr=>first | (go_simp;done) | (go_simp;rfl));intro gb312 hg w4 hbox hb;have n0_:=zz31 (zz4 (by repeat first | exact HB.out | apply zz2 | apply zz0 | apply zz1) hb);have n1_:=zz31 (hbox);have n2_:=zz31 ((by rw [hg];exact (zz5 (by repeat first | exact HB.out | apply zz2 | apply zz0 | apply zz1)):w.heap.size≤gb312));have n3_:=zz31 ((by rw [hg];exact (zz5 (by repeat first | exact HB.out | apply zz2 | apply zz0 | apply zz1)):w.heap.size≤gb312));clear HB;have HB:=n0_;have BK312:=n1_;have GW312:=n2_;have GE312:=n3_;clear n0_ n1_ n2_ n3_;clear hb hbox hg;have hcz5_0:w4.cell? ⟨gb312,0,none⟩=some (.int .i64 a0_0):=(zz9 BK312.out 0).trans rfl;have hcz5_1:w4.cell? ⟨gb312,1,none⟩=some (.slice A0_1 l0_1.length c0_1):=(zz9 BK312.out 1).trans rfl;have hfz5_0:=zz10 BK312.out 0;have hfz5_1:=zz10 BK312.out 1) | ((with_reducible refine gate_callee (f:=9) rfl ?_);refine goesL_ (some 16) rfl rfl Tryd.func9 (by kernel_rfl) rfl #[.agg #[.int .i64 a0_0,.slice A0_1 l0_1.length c0_1],.int .i64 1048576] rfl (by (try simp only [zz26,zz27,zz28]);first | done | rfl | (simp only [zz24,zz25];rfl)) ?_;(with_reducible refine (laws_szParty.calls a0_0 _ _ l0_1 1048576 t313 _ ?side1 ?side2 A2.out).mono ?_);(case side1=>repeat (first | exact (Kd.C_below HR0_1.out HB.out) | (with_reducible refine zz18 ?_ _) | (with_reducible refine zz19 ?_ _) | (with_reducible refine zz20 ?_)));(case side2=>exact HC0_1.out);rintro e w6 ⟨rfl,hb⟩;refine ⟨_,rfl,?_⟩;have n0_:=zz31 (zz11 (g:=gb312) (o:=.cells #[.int .i64 a0_0,.slice A0_1 l0_1.length c0_1] 24 (0,0)) (by (with_reducible repeat (first | refine zz6 ?_ _ | refine zz7 ?_ | refine zz8 ?_ _));exact BK312.out) hb);have n1_:=zz31 (zz4 (by repeat first | exact HB.out | apply zz2 | apply zz0 | apply zz1 | refine zz3 ?_ GE312.out) hb);clear BK312;clear HB;have BK312:=n0_;have HB:=n1_;clear n0_ n1_;(try clear hb);(try clear hb2);(try clear hk);(try clear hi)))
  go_ret
  exact ⟨by first | rfl | (simp [errW_none,errW_some] <;> rfl) | (simp [*,errW_none,errW_some] <;> rfl),by repeat first | exact HB.out | apply zz2 | apply zz0 | apply zz1 | refine zz3 ?_ GE312.out⟩
 ·rw [if_neg c3] at H
  have c3b0:decide (t313 < 0)=false:=decide_eq_false c3
  clear c3
  replace H:=zz30.mp H
  obtain ⟨⟨t314,t315⟩,A70,H⟩:=H
  replace H:((spec_GreatestGroup.f k t314 t315).bind fun bt318=>((laws_toParty.f k a0_0 l0_1).bind fun bt322=>((impl_GreatestGroup.f k bt322.1 bt322.2).bind fun bt327=>((laws_eqIntS.f k bt327.1 bt318.1).bind fun t331=>(if t331=true then (laws_FnExactGreatestGroup.j0 k bt318.1 bt318.2 bt327.1 bt327.2 (bt327.2 != bt318.2) a0_0 l0_1 bt322.1 bt322.2) else (laws_FnExactGreatestGroup.j0 k bt318.1 bt318.2 bt327.1 bt327.2 true a0_0 l0_1 bt322.1 bt322.2))))))=some r:=H
  have A7:=zz31 A70
  clear A70
  replace H:=zz30.mp H
  obtain ⟨⟨t318,t321⟩,A80,H⟩:=H
  replace H:((laws_toParty.f k a0_0 l0_1).bind fun bt322=>((impl_GreatestGroup.f k bt322.1 bt322.2).bind fun bt327=>((laws_eqIntS.f k bt327.1 t318).bind fun t331=>(if t331=true then (laws_FnExactGreatestGroup.j0 k t318 t321 bt327.1 bt327.2 (bt327.2 != t321) a0_0 l0_1 bt322.1 bt322.2) else (laws_FnExactGreatestGroup.j0 k t318 t321 bt327.1 bt327.2 true a0_0 l0_1 bt322.1 bt322.2)))))=some r:=H
  have A8:=zz31 A80
  clear A80
  replace H:=zz30.mp H
  obtain ⟨⟨t322,t323⟩,A90,H⟩:=H
  replace H:((impl_GreatestGroup.f k t322 t323).bind fun bt327=>((laws_eqIntS.f k bt327.1 t318).bind fun t331=>(if t331=true then (laws_FnExactGreatestGroup.j0 k t318 t321 bt327.1 bt327.2 (bt327.2 != t321) a0_0 l0_1 t322 t323) else (laws_FnExactGreatestGroup.j0 k t318 t321 bt327.1 bt327.2 true a0_0 l0_1 t322 t323))))=some r:=H
  have A9:=zz31 A90
  clear A90
  replace H:=zz30.mp H
  obtain ⟨⟨t327,t330⟩,A100,H⟩:=H
  replace H:((laws_eqIntS.f k t327 t318).bind fun t331=>(if t331=true then (laws_FnExactGreatestGroup.j0 k t318 t321 t327 t330 (t330 != t321) a0_0 l0_1 t322 t323) else (laws_FnExactGreatestGroup.j0 k t318 t321 t327 t330 true a0_0 l0_1 t322 t323)))=some r:=H
  have A10:=zz31 A100
  clear A100
  have HC11:=zz31 H
  clear H
  go_enter Tryd.func6,Tryd.ntmps6
  go_upto_region 8 with (first | ((with_reducible refine gate_dst (N:=1) rfl ?_);refine box_event ?hg (N:=1) ?hd (cs:=#[.int .i64 a0_0,.slice A0_1 l0_1.length c0_1]) (t:=24) ?hr ?_;(case hd=>rfl);(case hg=>rfl);(case hr=>first | (go_simp;done) | (go_simp;rfl));intro gb312 hg w12 hbox hb;have n0_:=zz31 (zz4 (by repeat first | exact HB.out | apply zz2 | apply zz0 | apply zz1) hb);have n1_:=zz31 (hbox);have n2_:=zz31 ((by rw [hg];exact (zz5 (by repeat first | exact HB.out | apply zz2 | apply zz0 | apply zz1)):w.heap.size≤gb312));have n3_:=zz31 ((by rw [hg];exact (zz5 (by repeat first | exact HB.out | apply zz2 | apply zz0 | apply zz1)):w.heap.size≤gb312));clear HB;have HB:=n0_;have BK312:=n1_;have GW312:=n2_;have GE312:=n3_;clear n0_ n1_ n2_ n3_;clear hb hbox hg;have hcz13_0:w12.cell? ⟨gb312,0,none⟩=some (.int .i64 a0_0):=(zz9 BK312.out 0).trans rfl;have hcz13_1:w12.cell? ⟨gb312,1,none⟩=some (.slice A0_1 l0_1.length c0_1):=(zz9 BK312.out 1).trans rfl;have hfz13_0:=zz10 BK312.out 0;have hfz13_1:=zz10 BK312.out 1) | ((with_reducible refine gate_callee (f:=9) rfl ?_);refine goesL_ (some 16) rfl rfl Tryd.func9 (by kernel_rfl) rfl #[.agg #[.int .i64 a0_0,.slice A0_1 l0_1.length c0_1],.int .i64 1048576] rfl (by (try simp only [zz26,zz27,zz28]);first | done | rfl | (simp only [zz24,zz25];rfl)) ?_;(with_reducible refine (laws_szParty.calls a0_0 _ _ l0_1 1048576 t313 _ ?side1 ?side2 A2.out).mono ?_);(case side1=>repeat (first | exact (Kd.C_below HR0_1.out HB.out) | (with_reducible refine zz18 ?_ _) | (with_reducible refine zz19 ?_ _) | (with_reducible refine zz20 ?_)));(case side2=>exact HC0_1.out);rintro e w14 ⟨rfl,hb⟩;refine ⟨_,rfl,?_⟩;have n0_:=zz31 (zz11 (g:=gb312) (o:=.cells #[.int .i64 a0_0,.slice A0_1 l0_1.length c0_1] 24 (0,0)) (by (with_reducible repeat (first | refine zz6 ?_ _ | refine zz7 ?_ | refine zz8 ?_ _));exact BK312.out) hb);have n1_:=zz31 (zz4 (by repeat first | exact HB.out | apply zz2 | apply zz0 | apply zz1 | refine zz3 ?_ GE312.out) hb);clear BK312;clear HB;have BK312:=n0_;have HB:=n1_;clear n0_ n1_;(try clear hb);(try clear hb2);(try clear hk);(try clear hi);have hcz15_0:w14.cell? ⟨gb312,0,none⟩=some (.int .i64 a0_0):=(zz9 BK312.out 0).trans rfl;have hcz15_1:w14.cell? ⟨gb312,1,none⟩=some (.slice A0_1 l0_1.length c0_1):=(zz9 BK312.out 1).trans rfl;have hfz15_0:=zz10 BK312.out 0;have hfz15_1:=zz10 BK312.out 1) | ((with_reducible refine gate_callee (f:=11) rfl ?_);refine goesL_ (some 21) rfl rfl Tryd.func11 (by kernel_rfl) rfl #[.agg #[.int .i64 a0_0,.slice A0_1 l0_1.length c0_1]] rfl (by (try simp only [zz26,zz27,zz28]);first | done | rfl | (simp only [zz24,zz25];rfl)) ?_;(with_reducible refine (laws_toParty.calls k a0_0 _ _ l0_1 t314 t315 _ ?side1 ?side2 A7.out).mono ?_);(case side1=>repeat (first | exact (Kd.C_below HR0_1.out HB.out) | (with_reducible refine zz18 ?_ _) | (with_reducible refine zz19 ?_ _) | (with_reducible refine zz20 ?_)));(case side2=>exact HC0_1.out);rintro e w16 ⟨v316,rfl,ho0,hb⟩;refine ⟨_,rfl,?_⟩;have n0_:=zz31 (Kd.R_lower ho0 (zz5 (by repeat first | exact HB.out | apply zz2 | apply zz0 | apply zz1 | refine zz3 ?_ GE312.out)));have n1_:=zz31 (zz11 (g:=gb312) (o:=.cells #[.int .i64 a0_0,.slice A0_1 l0_1.length c0_1] 24 (0,0)) (by (with_reducible repeat (first | refine zz6 ?_ _ | refine zz7 ?_ | refine zz8 ?_ _));exact BK312.out) hb);have n2_:=zz31 (zz4 (by repeat first | exact HB.out | apply zz2 | apply zz0 | apply zz1 | refine zz3 ?_ GE312.out) hb);clear BK312;clear HB;have HO317:=n0_;have BK312:=n1_;have HB:=n2_;clear n0_ n1_ n2_;(try clear hb);(try clear hb2);(try clear hk);(try clear hi);(try clear ho0);obtain ⟨Ao17,co17,eo17⟩:=Kd.R_slice HO317.out;subst eo17) | ((with_reducible refine gate_callee (f:=22) rfl ?_);refine goesL_ (some 22) rfl rfl Tryd.func22 (by kernel_rfl) rfl #[.agg #[.int .i64 t314,.slice Ao17 t315.length co17]] rfl (by (try simp only [zz26,zz27,zz28]);first | done | rfl | (simp only [zz24,zz25];rfl)) ?_;(with_reducible refine (spec_GreatestGroup.calls k t314 _ _ t315 t318 t321 _ ?side1 ?side2 A8.out).mono ?_);(case side1=>repeat (first | exact (Kd.R_reads' HO317.out).2.2 | (with_reducible refine zz18 ?_ _) | (with_reducible refine zz19 ?_ _) | (with_reducible refine zz20 ?_)));(case side2=>exact (Kd.R_reads' HO317.out).2.1);rintro e w18 ⟨v319,rfl,ho0,hb⟩;refine ⟨_,rfl,?_⟩;have n0_:=zz31 (Kd.R_below (by (with_reducible repeat (first | apply zz12 | apply zz13 | apply zz14));exact HO317.out) hb);have n1_:=zz31 (Kd.V_lower (Kd.V_mono (ok':=fun k_=>some k_ ≠ (.slice Ao17 t315.length co17:Value).ownBlock∧k_ ≠ gb312) ho0 (fun k_ hk_=>⟨(Kd.fresh' (Kd.R_lt (by (with_reducible repeat (first | apply zz12 | apply zz13 | apply zz14));exact HO317.out)) k_ hk_),(Kd.freshB (g:=gb312) (o:=.cells #[.int .i64 a0_0,.slice A0_1 l0_1.length c0_1] 24 (0,0)) (by (with_reducible repeat (first | refine zz6 ?_ _ | refine zz7 ?_ | refine zz8 ?_ _));exact BK312.out) k_ hk_)⟩)) (zz5 (by repeat first | exact HB.out | apply zz2 | apply zz0 | apply zz1 | refine zz3 ?_ GE312.out)));have n2_:=zz31 (zz11 (g:=gb312) (o:=.cells #[.int .i64 a0_0,.slice A0_1 l0_1.length c0_1] 24 (0,0)) (by (with_reducible repeat (first | refine zz6 ?_ _ | refine zz7 ?_ | refine zz8 ?_ _));exact BK312.out) hb);have n3_:=zz31 (zz4 (by repeat first | exact HB.out | apply zz2 | apply zz0 | apply zz1 | refine zz3 ?_ GE312.out) hb);clear HO317;clear BK312;clear HB;have HO317:=n0_;have HO320:=n1_;have BK312:=n2_;have HB:=n3_;clear n0_ n1_ n2_ n3_;(try clear hb);(try clear hb2);(try clear hk);(try clear hi);(try clear ho0);have hcz19_0:w18.cell? ⟨gb312,0,none⟩=some (.int .i64 a0_0):=(zz9 BK312.out 0).trans rfl;have hcz19_1:w18.cell? ⟨gb312,1,none⟩=some (.slice A0_1 l0_1.length c0_1):=(zz9 BK312.out 1).trans rfl;have hfz19_0:=zz10 BK312.out 0;have hfz19_1:=zz10 BK312.out 1) | ((with_reducible refine gate_callee (f:=11) rfl ?_);refine goesL_ (some 26) rfl rfl Tryd.func11 (by kernel_rfl) rfl #[.agg #[.int .i64 a0_0,.slice A0_1 l0_1.length c0_1]] rfl (by (try simp only [zz26,zz27,zz28]);first | done | rfl | (simp only [zz24,zz25];rfl)) ?_;(with_reducible refine (laws_toParty.calls k a0_0 _ _ l0_1 t322 t323 _ ?side1 ?side2 A9.out).mono ?_);(case side1=>repeat (first | exact (Kd.C_below HR0_1.out HB.out) | (with_reducible refine zz18 ?_ _) | (with_reducible refine zz19 ?_ _) | (with_reducible refine zz20 ?_)));(case side2=>exact HC0_1.out);rintro e w20 ⟨v324,rfl,ho0,hb⟩;refine ⟨_,rfl,?_⟩;have n0_:=zz31 (Kd.R_elder' (by (with_reducible repeat (first | apply zz12 | apply zz13 | apply zz14));exact HO317.out) (Kd.R_base ho0) hb);have n1_:=zz31 (Kd.V_elder' (by (with_reducible repeat (first | apply Kd.V_alloc | apply Kd.V_drewN | apply Kd.V_drew));exact HO320.out) (Kd.R_base ho0) hb);have n2_:=zz31 (Kd.R_lower (Kd.R_new' ho0 (Kd.R_lt (by (with_reducible repeat (first | apply zz12 | apply zz13 | apply zz14));exact HO317.out))) (zz5 (by repeat first | exact HB.out | apply zz2 | apply zz0 | apply zz1 | refine zz3 ?_ GE312.out)));have n3_:=zz31 (zz11 (g:=gb312) (o:=.cells #[.int .i64 a0_0,.slice A0_1 l0_1.length c0_1] 24 (0,0)) (by (with_reducible repeat (first | refine zz6 ?_ _ | refine zz7 ?_ | refine zz8 ?_ _));exact BK312.out) hb);have n4_:=zz31 (zz4 (by repeat first | exact HB.out | apply zz2 | apply zz0 | apply zz1 | refine zz3 ?_ GE312.out) hb);clear HO317;clear HO320;clear BK312;clear HB;have HO317:=n0_;have HO320:=n1_;have HO325:=n2_;have BK312:=n3_;have HB:=n4_;clear n0_ n1_ n2_ n3_ n4_;(try clear hb);(try clear hb2);(try clear hk);(try clear hi);(try clear ho0)) | ((with_reducible refine gate_dst (N:=6) rfl ?_);refine box_event ?hg (N:=6) ?hd (cs:=#[.int .i64 0,.slice none 0 0]) (t:=30) ?hr ?_;(case hd=>rfl);(case hg=>rfl);(case hr=>first | (go_simp;done) | (go_simp;rfl));intro gb326 hg w21 hbox hb;have n0_:=zz31 (Kd.R_below (by (with_reducible repeat (first | apply zz12 | apply zz13 | apply zz14));exact HO317.out) hb);have n1_:=zz31 (Kd.V_below (Kd.V_elderB (by (with_reducible repeat (first | apply Kd.V_alloc | apply Kd.V_drewN | apply Kd.V_drew));exact HO320.out) gb326 (Nat.le_of_eq hg.symm)) hb);have n2_:=zz31 (Kd.R_below (by (with_reducible repeat (first | apply zz12 | apply zz13 | apply zz14));exact HO325.out) hb);have n3_:=zz31 (zz11 (g:=gb312) (o:=.cells #[.int .i64 a0_0,.slice A0_1 l0_1.length c0_1] 24 (0,0)) (by (with_reducible repeat (first | refine zz6 ?_ _ | refine zz7 ?_ | refine zz8 ?_ _));exact BK312.out) hb);have n4_:=zz31 (zz4 (by repeat first | exact HB.out | apply zz2 | apply zz0 | apply zz1 | refine zz3 ?_ GE312.out) hb);have n5_:=zz31 (hbox);have n6_:=zz31 ((by rw [hg];exact (zz5 (by repeat first | exact HB.out | apply zz2 | apply zz0 | apply zz1 | refine zz3 ?_ GE312.out)):w.heap.size≤gb326));have n7_:=zz31 ((by rw [hg];exact (zz5 (by repeat first | exact HB.out | apply zz2 | apply zz0 | apply zz1 | refine zz3 ?_ GE312.out)):w.heap.size≤gb326));have n8_:=zz31 ((by rw [hg];exact Nat.ne_of_lt (blk_lt (g:=gb312) (o:=.cells #[.int .i64 a0_0,.slice A0_1 l0_1.length c0_1] 24 (0,0)) (by (with_reducible repeat (first | refine zz6 ?_ _ | refine zz7 ?_ | refine zz8 ?_ _));exact BK312.out)):gb312 ≠ gb326));have n9_:=zz31 ((by rw [hg];exact Nat.ne_of_gt (blk_lt (g:=gb312) (o:=.cells #[.int .i64 a0_0,.slice A0_1 l0_1.length c0_1] 24 (0,0)) (by (with_reducible repeat (first | refine zz6 ?_ _ | refine zz7 ?_ | refine zz8 ?_ _));exact BK312.out)):gb326 ≠ gb312));clear HO317;clear HO320;clear HO325;clear BK312;clear HB;have HO317:=n0_;have HO320:=n1_;have HO325:=n2_;have BK312:=n3_;have HB:=n4_;have BK326:=n5_;have GW326:=n6_;have GE326:=n7_;have NB312_326:=n8_;have NB326_312:=n9_;clear n0_ n1_ n2_ n3_ n4_ n5_ n6_ n7_ n8_ n9_;clear hb hbox hg;have hnb22:=NB326_312.out;have hnc22:=NB312_326.out;have hcz23_0:w21.cell? ⟨gb326,0,none⟩=some (.int .i64 0):=(zz9 BK326.out 0).trans rfl;have hcz23_1:w21.cell? ⟨gb326,1,none⟩=some (.slice none 0 0):=(zz9 BK326.out 1).trans rfl;have hfz23_0:=zz10 BK326.out 0;have hfz23_1:=zz10 BK326.out 1;obtain ⟨Ao24,co24,eo24⟩:=Kd.R_slice HO325.out;subst eo24) | ((with_reducible refine gate_callee (f:=23) rfl ?_);refine goesL_ (some 29) rfl rfl Tryd.func23 (by kernel_rfl) rfl #[.agg #[.int .i64 t322,.slice Ao24 t323.length co24]] rfl (by (try simp only [zz26,zz27,zz28]);first | done | rfl | (simp only [zz24,zz25];rfl)) ?_;(with_reducible refine (impl_GreatestGroup.calls k t322 _ _ t323 t327 t330 _ ?side1 ?side2 A10.out (HT.out.below (by repeat first | exact HB.out | apply zz2 | apply zz0 | apply zz1 | refine zz3 ?_ GE312.out | refine zz3 ?_ GE326.out))).mono ?_);(case side1=>refine (Kd.R_reads' (e:=74) (base:=w.heap.size) (ok:=fun k_=>(True∧some k_ ≠ (.slice Ao17 t315.length co17:Value).ownBlock)) (n:=t323.length) (c:=co24) ?_).2.2;exact (by (with_reducible repeat (first | apply zz12 | apply zz13 | apply zz14));exact (Kd.R_mono (Kd.R_far (p:=⟨gb326,1,none⟩) (Kd.R_far (p:=⟨gb326,0,none⟩) (Kd.R_types HO325.out BK326.out (by decide)) (fun _ hk=>hk.2) (.int .i64 t322)) (fun _ hk=>hk.2) (.slice Ao24 t323.length co24)) (fun _ h_=>h_.1))));(case side2=>exact (Kd.R_reads' HO325.out).2.1);rintro e w25 ⟨v328,rfl,ho0,hb⟩;refine ⟨_,rfl,?_⟩;have n0_:=zz31 (Kd.R_below (by (with_reducible repeat (first | apply zz12 | apply zz13 | apply zz14));exact (Kd.R_mono (Kd.R_far (p:=⟨gb326,1,none⟩) (Kd.R_far (p:=⟨gb326,0,none⟩) (Kd.R_types HO317.out BK326.out (by decide)) (fun _ hk=>hk.2) (.int .i64 t322)) (fun _ hk=>hk.2) (.slice Ao24 t323.length co24)) (fun _ h_=>h_.1))) hb);have n1_:=zz31 (Kd.V_elder' (by (with_reducible repeat (first | apply Kd.V_alloc | apply Kd.V_drewN | apply Kd.V_drew));exact (Kd.V_mono (Kd.V_far (p:=⟨gb326,1,none⟩) (Kd.V_far (p:=⟨gb326,0,none⟩) (Kd.V_mono HO320.out (fun k_ hk=>(⟨hk,hk.2⟩:_∧k_ ≠ gb326))) (fun _ hk=>hk.2) (.int .i64 t322)) (fun _ hk=>hk.2) (.slice Ao24 t323.length co24)) (fun _ h_=>h_.1))) (Kd.R_base ho0) hb);have n2_:=zz31 (Kd.R_below (by (with_reducible repeat (first | apply zz12 | apply zz13 | apply zz14));exact (Kd.R_mono (Kd.R_far (p:=⟨gb326,1,none⟩) (Kd.R_far (p:=⟨gb326,0,none⟩) (Kd.R_types HO325.out BK326.out (by decide)) (fun _ hk=>hk.2) (.int .i64 t322)) (fun _ hk=>hk.2) (.slice Ao24 t323.length co24)) (fun _ h_=>h_.1))) hb);have n3_:=zz31 (Kd.R_lower ho0 (zz5 (by repeat first | exact HB.out | apply zz2 | apply zz0 | apply zz1 | refine zz3 ?_ GE312.out | refine zz3 ?_ GE326.out)));have n4_:=zz31 (zz11 (g:=gb312) (o:=.cells #[.int .i64 a0_0,.slice A0_1 l0_1.length c0_1] 24 (0,0)) (by (with_reducible repeat (first | refine zz6 ?_ _ | refine zz7 ?_ | refine zz8 ?_ _));refine blk_far ?_ NB312_326.out _;(with_reducible repeat (first | refine zz6 ?_ _ | refine zz7 ?_ | refine zz8 ?_ _));refine blk_far ?_ NB312_326.out _;(with_reducible repeat (first | refine zz6 ?_ _ | refine zz7 ?_ | refine zz8 ?_ _));exact BK312.out) hb);have n5_:=zz31 (zz11 (g:=gb326) (o:=.cells #[.int .i64 t322,.slice Ao24 t323.length co24] 30 (0,0)) (by (with_reducible repeat (first | refine zz6 ?_ _ | refine zz7 ?_ | refine zz8 ?_ _));refine blk_put (cs:=#[.int .i64 t322,.slice none 0 0]) ?_ 1 _ rfl;(with_reducible repeat (first | refine zz6 ?_ _ | refine zz7 ?_ | refine zz8 ?_ _));refine blk_put (cs:=#[.int .i64 0,.slice none 0 0]) ?_ 0 _ rfl;(with_reducible repeat (first | refine zz6 ?_ _ | refine zz7 ?_ | refine zz8 ?_ _));exact BK326.out) hb);have n6_:=zz31 (zz4 (by repeat first | exact HB.out | apply zz2 | apply zz0 | apply zz1 | refine zz3 ?_ GE312.out | refine zz3 ?_ GE326.out) hb);clear HO317;clear HO320;clear HO325;clear BK312;clear BK326;clear HB;have HO317:=n0_;have HO320:=n1_;have HO325:=n2_;have HO329:=n3_;have BK312:=n4_;have BK326:=n5_;have HB:=n6_;clear n0_ n1_ n2_ n3_ n4_ n5_ n6_;(try clear hb);(try clear hb2);(try clear hk);(try clear hi);(try clear ho0)))
  (try simp only [Act.put,zz21,zz22,zz23])
  go_cut [40] (fun v40 wc=>∃ (kq:Nat) (x40_10:Bool),v40=.bool x40_10∧Aside0 (laws_FnExactGreatestGroup.j0 kq t318 t321 t327 t330 x40_10 a0_0 l0_1 t322 t323=some r)∧Aside0 (kq≤k)∧Aside0 (Kd.V (Kd.int .i64) 3 wc w.heap.size (fun k_=>some k_ ≠ (v328:Value).ownBlock∧some k_ ≠ ((.slice Ao24 t323.length co24):Value).ownBlock∧k_ ≠ gb312∧k_ ≠ gb326) v319 t318)∧Aside0 (Kd.R (Kd.int .i64) 3 wc w.heap.size (fun _=>True) v328 t327)∧Aside0 (Kd.R k74 74 wc w.heap.size (fun _=>True) (.slice Ao24 t323.length co24) t323)∧Aside0 (wc.heap[gb312]?=some (.cells #[.int .i64 a0_0,(.slice A0_1 l0_1.length c0_1)] 24 (0,0)))∧Aside0 (wc.heap[gb326]?=some (.cells #[.int .i64 t322,(.slice Ao24 t323.length co24)] 30 (0,0)))∧Aside0 (Below w.heap.size w wc))
  case first =>
   have H:=HC11.out
   clear HC11
   replace H:=zz30.mp H
   obtain ⟨t331,A260,H⟩:=H
   replace H:(if t331=true then (laws_FnExactGreatestGroup.j0 k t318 t321 t327 t330 (t330 != t321) a0_0 l0_1 t322 t323) else (laws_FnExactGreatestGroup.j0 k t318 t321 t327 t330 true a0_0 l0_1 t322 t323))=some r:=H
   have A26:=zz31 A260
   clear A260
   by_cases c27:t331=true
   ·subst c27
    have H1:(laws_FnExactGreatestGroup.j0 k t318 t321 t327 t330 (t330 != t321) a0_0 l0_1 t322 t323)=some r:=by rw [if_pos rfl] at H;exact H
    clear H
    have H:=H1
    clear H1
    have H':=zz31 H
    clear H
    obtain ⟨Ao28,co28,eo28⟩:=Kd.R_slice HO329.out
    subst eo28
    obtain ⟨Ao29,co29,eo29⟩:=Kd.V_slice HO320.out
    subst eo29
    go_wp2_with (first | ((with_reducible refine gate_callee (f:=18) rfl ?_);refine goesL_ (some 34) rfl rfl Tryd.func18 (by kernel_rfl) rfl #[.slice Ao28 t327.length co28,.slice Ao29 t318.length co29] rfl (by (try simp only [zz26,zz27,zz28]);first | done | rfl | (simp only [zz24,zz25];rfl)) ?_;(with_reducible refine (laws_eqIntS.calls k _ _ t327 _ _ t318 true _ ?side1 ?side2 ?side3 ?side4 A26.out).mono ?_);(case side1=>repeat (first | exact (Kd.R_reads' HO329.out).2.2 | (with_reducible refine zz18 ?_ _) | (with_reducible refine zz19 ?_ _) | (with_reducible refine zz20 ?_)));(case side2=>exact (Kd.R_reads' HO329.out).2.1);(case side3=>repeat (first | exact (Kd.V_reads' HO320.out).2.2 | (with_reducible refine zz18 ?_ _) | (with_reducible refine zz19 ?_ _) | (with_reducible refine zz20 ?_)));(case side4=>exact (Kd.V_reads' HO320.out).2.1);rintro e w' ⟨rfl,⟨nd,rfl⟩⟩;refine ⟨_,rfl,?_⟩))
    go_meet
    case rel=>exact ⟨_,((t330 != t321)),(by first | rfl | (simp;done) | (simp [*];done)),H',⟨by first | omega | exact Nat.le_refl _⟩,⟨by (with_reducible repeat (first | apply Kd.V_alloc | apply Kd.V_drewN | apply Kd.V_drew));exact Kd.V_mono HO320.out (fun _ hk=>⟨hk.2,⟨hk.1.1.2,⟨hk.1.1.1.2,hk.1.2⟩⟩⟩)⟩,⟨by (with_reducible repeat (first | apply zz12 | apply zz13 | apply zz14));exact HO329.out⟩,⟨by (with_reducible repeat (first | apply zz12 | apply zz13 | apply zz14));exact Kd.R_mono HO325.out (fun _ hk=>trivial)⟩,⟨by (with_reducible repeat (first | refine zz6 ?_ _ | refine zz7 ?_ | refine zz8 ?_ _));exact BK312.out⟩,⟨by (with_reducible repeat (first | refine zz6 ?_ _ | refine zz7 ?_ | refine zz8 ?_ _));exact BK326.out⟩,⟨by repeat first | exact HB.out | apply zz2 | apply zz0 | apply zz1 | refine zz3 ?_ GE312.out | refine zz3 ?_ GE326.out⟩⟩
   ·replace c27:=Bool.eq_false_iff.mpr c27
    subst c27
    have H1:(laws_FnExactGreatestGroup.j0 k t318 t321 t327 t330 true a0_0 l0_1 t322 t323)=some r:=by rw [if_neg (show ¬ (false=true) by decide)] at H;exact H
    clear H
    have H:=H1
    clear H1
    have H':=zz31 H
    clear H
    obtain ⟨Ao30,co30,eo30⟩:=Kd.R_slice HO329.out
    subst eo30
    obtain ⟨Ao31,co31,eo31⟩:=Kd.V_slice HO320.out
    subst eo31
    go_wp2_with (first | ((with_reducible refine gate_callee (f:=18) rfl ?_);refine goesL_ (some 34) rfl rfl Tryd.func18 (by kernel_rfl) rfl #[.slice Ao30 t327.length co30,.slice Ao31 t318.length co31] rfl (by (try simp only [zz26,zz27,zz28]);first | done | rfl | (simp only [zz24,zz25];rfl)) ?_;(with_reducible refine (laws_eqIntS.calls k _ _ t327 _ _ t318 false _ ?side1 ?side2 ?side3 ?side4 A26.out).mono ?_);(case side1=>repeat (first | exact (Kd.R_reads' HO329.out).2.2 | (with_reducible refine zz18 ?_ _) | (with_reducible refine zz19 ?_ _) | (with_reducible refine zz20 ?_)));(case side2=>exact (Kd.R_reads' HO329.out).2.1);(case side3=>repeat (first | exact (Kd.V_reads' HO320.out).2.2 | (with_reducible refine zz18 ?_ _) | (with_reducible refine zz19 ?_ _) | (with_reducible refine zz20 ?_)));(case side4=>exact (Kd.V_reads' HO320.out).2.1);rintro e w' ⟨rfl,⟨nd,rfl⟩⟩;refine ⟨_,rfl,?_⟩))
    go_meet
    case rel=>exact ⟨_,(true),(by first | rfl | (simp;done) | (simp [*];done)),H',⟨by first | omega | exact Nat.le_refl _⟩,⟨by (with_reducible repeat (first | apply Kd.V_alloc | apply Kd.V_drewN | apply Kd.V_drew));exact Kd.V_mono HO320.out (fun _ hk=>⟨hk.2,⟨hk.1.1.2,⟨hk.1.1.1.2,hk.1.2⟩⟩⟩)⟩,⟨by (with_reducible repeat (first | apply zz12 | apply zz13 | apply zz14));exact HO329.out⟩,⟨by (with_reducible repeat (first | apply zz12 | apply zz13 | apply zz14));exact Kd.R_mono HO325.out (fun _ hk=>trivial)⟩,⟨by (with_reducible repeat (first | refine zz6 ?_ _ | refine zz7 ?_ | refine zz8 ?_ _));exact BK312.out⟩,⟨by (with_reducible repeat (first | refine zz6 ?_ _ | refine zz7 ?_ | refine zz8 ?_ _));exact BK326.out⟩,⟨by repeat first | exact HB.out | apply zz2 | apply zz0 | apply zz1 | refine zz3 ?_ GE312.out | refine zz3 ?_ GE326.out⟩⟩
  case rest =>
   clear HC11
   try clear c1
   try clear c2
   try clear p2
   try clear c3
   try clear c3b0
   try clear c6
   try clear c9
   try clear c11
   try clear c18
   try clear c22
   try clear c23
   try clear c27
   try clear hcz13_0
   try clear hcz13_1
   try clear hcz15_0
   try clear hcz15_1
   try clear hcz19_0
   try clear hcz19_1
   try clear hcz23_0
   try clear hcz23_1
   try clear hcz5_0
   try clear hcz5_1
   try clear hfz13_0
   try clear hfz13_1
   try clear hfz15_0
   try clear hfz15_1
   try clear hfz19_0
   try clear hfz19_1
   try clear hfz23_0
   try clear hfz23_1
   try clear hfz5_0
   try clear hfz5_1
   obtain ⟨kq,x40_10,rfl,HA,HJ10,HO_4,HO_7,HO_327001,BK312,BK326,HB⟩:=hcut
   cases kq with
   | zero=>exact absurd HA.out (by simp [laws_FnExactGreatestGroup.j0])
   | succ kj10 =>
    have H:=HA.out
    clear HA
    simp only [laws_FnExactGreatestGroup.j0] at H
    by_cases c32:x40_10=true
    ·subst c32
     have H1:(some false)=some r:=by rw [if_pos rfl] at H;exact H
     clear H
     have H:=H1
     clear H1
     obtain rfl:=Option.some.inj H
     go_wp2
     go_ret
     exact ⟨by first | rfl | (simp [errW_none,errW_some] <;> rfl) | (simp [*,errW_none,errW_some] <;> rfl),by repeat first | exact HB.out | apply zz2 | apply zz0 | apply zz1 | refine zz3 ?_ GE312.out | refine zz3 ?_ GE326.out⟩
    ·replace c32:=Bool.eq_false_iff.mpr c32
     subst c32
     have H1:((laws_toParty.f kj10 a0_0 l0_1).bind fun bt332=>((laws_eqParty.f kj10 t322 t323 bt332.1 bt332.2).bind fun t336=>(if t336=true then ((laws_markParty.f kj10 t322 t323 1).bind fun bt337=>(if bt337.1 < 0 then (laws_FnExactGreatestGroup.j1 kj10 t318 t321 t327 true a0_0 l0_1) else ((laws_eqIntS.f kj10 t327 t318).bind fun t339=>(if t339=true then (laws_FnExactGreatestGroup.j1 kj10 t318 t321 t327 (t330 != t321) a0_0 l0_1) else (laws_FnExactGreatestGroup.j1 kj10 t318 t321 t327 true a0_0 l0_1))))) else (some false))))=some r:=by rw [if_neg (show ¬ (false=true) by decide)] at H;exact H
     clear H
     have H:=H1
     clear H1
     replace H:=zz30.mp H
     obtain ⟨⟨t332,t333⟩,A330,H⟩:=H
     replace H:((laws_eqParty.f kj10 t322 t323 t332 t333).bind fun t336=>(if t336=true then ((laws_markParty.f kj10 t322 t323 1).bind fun bt337=>(if bt337.1 < 0 then (laws_FnExactGreatestGroup.j1 kj10 t318 t321 t327 true a0_0 l0_1) else ((laws_eqIntS.f kj10 t327 t318).bind fun t339=>(if t339=true then (laws_FnExactGreatestGroup.j1 kj10 t318 t321 t327 (t330 != t321) a0_0 l0_1) else (laws_FnExactGreatestGroup.j1 kj10 t318 t321 t327 true a0_0 l0_1))))) else (some false)))=some r:=H
     have A33:=zz31 A330
     clear A330
     replace H:=zz30.mp H
     obtain ⟨t336,A340,H⟩:=H
     replace H:(if t336=true then ((laws_markParty.f kj10 t322 t323 1).bind fun bt337=>(if bt337.1 < 0 then (laws_FnExactGreatestGroup.j1 kj10 t318 t321 t327 true a0_0 l0_1) else ((laws_eqIntS.f kj10 t327 t318).bind fun t339=>(if t339=true then (laws_FnExactGreatestGroup.j1 kj10 t318 t321 t327 (t330 != t321) a0_0 l0_1) else (laws_FnExactGreatestGroup.j1 kj10 t318 t321 t327 true a0_0 l0_1))))) else (some false))=some r:=H
     have A34:=zz31 A340
     clear A340
     by_cases c35:t336=true
     ·subst c35
      have H1:((laws_markParty.f kj10 t322 t323 1).bind fun bt337=>(if bt337.1 < 0 then (laws_FnExactGreatestGroup.j1 kj10 t318 t321 t327 true a0_0 l0_1) else ((laws_eqIntS.f kj10 t327 t318).bind fun t339=>(if t339=true then (laws_FnExactGreatestGroup.j1 kj10 t318 t321 t327 (t330 != t321) a0_0 l0_1) else (laws_FnExactGreatestGroup.j1 kj10 t318 t321 t327 true a0_0 l0_1)))))=some r:=by rw [if_pos rfl] at H;exact H
      clear H
      have H:=H1
      clear H1
      replace H:=zz30.mp H
      obtain ⟨⟨t337,t338⟩,A360,H⟩:=H
      replace H:(if t337 < 0 then (laws_FnExactGreatestGroup.j1 kj10 t318 t321 t327 true a0_0 l0_1) else ((laws_eqIntS.f kj10 t327 t318).bind fun t339=>(if t339=true then (laws_FnExactGreatestGroup.j1 kj10 t318 t321 t327 (t330 != t321) a0_0 l0_1) else (laws_FnExactGreatestGroup.j1 kj10 t318 t321 t327 true a0_0 l0_1))))=some r:=H
      have A36:=zz31 A360
      clear A360
      have HC37:=zz31 H
      clear H
      try go_wp2
      have n0_:=zz31 (Kd.V_drew HO_4.out)
      have n1_:=zz31 (zz14 HO_7.out)
      have n2_:=zz31 (zz14 HO_327001.out)
      have n3_:=zz31 (zz7 BK312.out)
      have n4_:=zz31 (zz7 BK326.out)
      have n5_:=zz31 (zz1 HB.out)
      clear HO_4
      clear HO_7
      clear HO_327001
      clear BK312
      clear BK326
      clear HB
      have HO_4:=n0_
      have HO_7:=n1_
      have HO_327001:=n2_
      have BK312:=n3_
      have BK326:=n4_
      have HB:=n5_
      clear n0_ n1_ n2_ n3_ n4_ n5_
      refine start_ (n:=5) (S:=fun w'=>w'.cell? ⟨gb326,0,none⟩=some (.int .i64 t322)∧w'.cell? ⟨gb326,1,none⟩=some (.slice Ao24 t323.length co24)∧w'.cell? ⟨gb312,0,none⟩=some (.int .i64 a0_0)∧w'.cell? ⟨gb312,1,none⟩=some (.slice A0_1 l0_1.length c0_1)) (ds:=[]) #[F,F,F,F,F] (by kernel_rfl) rfl rfl ⟨(zz9 BK326.out 0).trans rfl,(zz9 BK326.out 1).trans rfl,(zz9 BK312.out 0).trans rfl,(zz9 BK312.out 1).trans rfl⟩ (fun hHeld=>?_)
      generalize wc.drew=w38 at HO_4 HO_7 HO_327001 BK312 BK326 HB hHeld ⊢
      refine take_ (i:=0) (N:=some 41) (v:=?_) (a':=?_) #[T,F,F,F,F] rfl rfl (by kernel_rfl) (fun _ _ _ h=>h) (Or.inl ⟨by rfl,?_⟩) hHeld ?_ ?_
      rotate_left
      ·rintro w' ⟨s0,s1,s2,s3⟩
       go_simp
       with_reducible rfl
      rotate_left
      ·simp only [Act.put,zz21,zz22,zz23,i64_w,i32_w]
       rfl
      refine take_ (i:=1) (N:=some 42) (v:=?_) (a':=?_) #[T,T,F,F,F] rfl rfl (by kernel_rfl) (fun _ _ _ h=>h) (Or.inl ⟨by rfl,?_⟩) hHeld ?_ ?_
      rotate_left
      ·rintro w' ⟨s0,s1,s2,s3⟩
       go_simp
       with_reducible rfl
      rotate_left
      ·simp only [Act.put,zz21,zz22,zz23,i64_w,i32_w]
       rfl
      refine one_ (i:=2) (N:=some 43) #[T,T,T,F,F] rfl rfl (by kernel_rfl) (by decide) (fun K hK=>?_)
      refine goes_ Tryd.func11 (by kernel_rfl) rfl #[.agg #[.int .i64 a0_0,.slice A0_1 l0_1.length c0_1]] (by rfl) rfl rfl (by (try simp only [zz26,zz27,zz28]);first | done | rfl | (simp only [zz24,zz25];rfl)) ?_
      with_reducible refine (laws_toParty.calls kj10 a0_0 _ _ l0_1 t332 t333 _ ?side1 ?side2 A33.out).mono ?_
      (case side1=>repeat (first | exact (Kd.C_below HR0_1.out HB.out) | (with_reducible refine zz18 ?_ _) | (with_reducible refine zz19 ?_ _) | (with_reducible refine zz20 ?_)))
      (case side2=>exact HC0_1.out)
      rintro e w39 ⟨v334,rfl,ho0,hb⟩
      refine ⟨_,rfl,?_⟩
      have n0_:=zz31 (Kd.V_elder' (by (with_reducible repeat (first | apply Kd.V_alloc | apply Kd.V_drewN | apply Kd.V_drew));exact HO_4.out) (Kd.R_base ho0) hb)
      have n1_:=zz31 (Kd.R_below (by (with_reducible repeat (first | apply zz12 | apply zz13 | apply zz14));exact HO_7.out) hb)
      have n2_:=zz31 (Kd.R_elder' (by (with_reducible repeat (first | apply zz12 | apply zz13 | apply zz14));exact HO_327001.out) (Kd.R_base ho0) hb)
      have n3_:=zz31 (Kd.R_lower (Kd.R_new' ho0 (Kd.R_lt (by (with_reducible repeat (first | apply zz12 | apply zz13 | apply zz14));exact HO_327001.out))) (zz5 (by repeat first | exact HB.out | apply zz2 | apply zz0 | apply zz1 | refine zz3 ?_ GE312.out | refine zz3 ?_ GE326.out)))
      have n4_:=zz31 (zz11 (g:=gb312) (o:=.cells #[.int .i64 a0_0,.slice A0_1 l0_1.length c0_1] 24 (0,0)) (by (with_reducible repeat (first | refine zz6 ?_ _ | refine zz7 ?_ | refine zz8 ?_ _));exact BK312.out) hb)
      have n5_:=zz31 (zz11 (g:=gb326) (o:=.cells #[.int .i64 t322,.slice Ao24 t323.length co24] 30 (0,0)) (by (with_reducible repeat (first | refine zz6 ?_ _ | refine zz7 ?_ | refine zz8 ?_ _));exact BK326.out) hb)
      have n6_:=zz31 (zz4 (by repeat first | exact HB.out | apply zz2 | apply zz0 | apply zz1 | refine zz3 ?_ GE312.out | refine zz3 ?_ GE326.out) hb)
      clear HO_4
      clear HO_7
      clear HO_327001
      clear BK312
      clear BK326
      clear HB
      have HO_4:=n0_
      have HO_7:=n1_
      have HO_327001:=n2_
      have HO335:=n3_
      have BK312:=n4_
      have BK326:=n5_
      have HB:=n6_
      clear n0_ n1_ n2_ n3_ n4_ n5_ n6_
      (try clear hb)
      (try clear hb2)
      (try clear hk)
      (try clear hi)
      (try clear ho0)
      obtain ⟨Ao40,co40,eo40⟩:=Kd.R_slice HO335.out
      (first | subst eo40 | (injection eo40 with f1_ f2_ f3_;have f4_:=f1_.symm;have f5_:=f3_.symm;clear f1_ f2_ f3_;subst f4_;subst f5_))
      refine hK.out _ _ ⟨(zz9 BK326.out 0).trans rfl,(zz9 BK326.out 1).trans rfl,(zz9 BK312.out 0).trans rfl,(zz9 BK312.out 1).trans rfl⟩ (fun hHeld=>?_)
      clear hK K
      refine norm_ (a':=?_) ?_ ?_
      rotate_left
      ·show Act.put _ (some 43) _=_
       simp only [Act.put,zz21,zz22,zz23,i64_w,i32_w]
       rfl
      refine one_ (i:=3) (N:=some 44) #[T,T,T,T,F] rfl rfl (by kernel_rfl) (by decide) (fun K hK=>?_)
      refine goes_ Tryd.func13 (by kernel_rfl) rfl #[.agg #[.int .i64 t322,.slice Ao24 t323.length co24],.agg #[.int .i64 t332,.slice Ao40 t333.length co40]] (by rfl) rfl rfl (by (try simp only [zz26,zz27,zz28]);first | done | rfl | (simp only [zz24,zz25];rfl)) ?_
      with_reducible refine (laws_eqParty.calls kj10 t322 _ _ t323 t332 _ _ t333 true _ ?side1 ?side2 ?side3 ?side4 A34.out).mono ?_
      (case side1=>repeat (first | exact (Kd.R_reads' HO_327001.out).2.2 | (with_reducible refine zz18 ?_ _) | (with_reducible refine zz19 ?_ _) | (with_reducible refine zz20 ?_)))
      (case side2=>exact (Kd.R_reads' HO_327001.out).2.1)
      (case side3=>repeat (first | exact (Kd.R_reads' HO335.out).2.2 | (with_reducible refine zz18 ?_ _) | (with_reducible refine zz19 ?_ _) | (with_reducible refine zz20 ?_)))
      (case side4=>exact (Kd.R_reads' HO335.out).2.1)
      rintro e w41 ⟨rfl,hb⟩
      refine ⟨_,rfl,?_⟩
      have n0_:=zz31 (Kd.V_below (by (with_reducible repeat (first | apply Kd.V_alloc | apply Kd.V_drewN | apply Kd.V_drew));exact HO_4.out) hb)
      have n1_:=zz31 (Kd.R_below (by (with_reducible repeat (first | apply zz12 | apply zz13 | apply zz14));exact HO_7.out) hb)
      have n2_:=zz31 (Kd.R_below (by (with_reducible repeat (first | apply zz12 | apply zz13 | apply zz14));exact HO_327001.out) hb)
      have n3_:=zz31 (Kd.R_below (by (with_reducible repeat (first | apply zz12 | apply zz13 | apply zz14));exact HO335.out) hb)
      have n4_:=zz31 (zz11 (g:=gb312) (o:=.cells #[.int .i64 a0_0,.slice A0_1 l0_1.length c0_1] 24 (0,0)) (by (with_reducible repeat (first | refine zz6 ?_ _ | refine zz7 ?_ | refine zz8 ?_ _));exact BK312.out) hb)
      have n5_:=zz31 (zz11 (g:=gb326) (o:=.cells #[.int .i64 t322,.slice Ao24 t323.length co24] 30 (0,0)) (by (with_reducible repeat (first | refine zz6 ?_ _ | refine zz7 ?_ | refine zz8 ?_ _));exact BK326.out) hb)
      have n6_:=zz31 (zz4 (by repeat first | exact HB.out | apply zz2 | apply zz0 | apply zz1 | refine zz3 ?_ GE312.out | refine zz3 ?_ GE326.out) hb)
      clear HO_4
      clear HO_7
      clear HO_327001
      clear HO335
      clear BK312
      clear BK326
      clear HB
      have HO_4:=n0_
      have HO_7:=n1_
      have HO_327001:=n2_
      have HO335:=n3_
      have BK312:=n4_
      have BK326:=n5_
      have HB:=n6_
      clear n0_ n1_ n2_ n3_ n4_ n5_ n6_
      (try clear hb)
      (try clear hb2)
      (try clear hk)
      (try clear hi)
      refine hK.out _ _ ⟨(zz9 BK326.out 0).trans rfl,(zz9 BK326.out 1).trans rfl,(zz9 BK312.out 0).trans rfl,(zz9 BK312.out 1).trans rfl⟩ (fun hHeld=>?_)
      clear hK K
      refine norm_ (a':=?_) ?_ ?_
      rotate_left
      ·show Act.put _ (some 44) _=_
       simp only [Act.put,zz21,zz22,zz23,i64_w,i32_w]
       rfl
      refine pure_ (i:=4) (N:=some 45) (v:=?_) (a':=?_) #[T,T,T,T,T] rfl rfl (by kernel_rfl) (fun _ _ _ h=>h) (Or.inl ⟨by rfl,?_⟩) ?_ ?_
      rotate_left
      ·intro w'
       go_simp
       with_reducible rfl
      rotate_left
      ·simp only [Act.put,zz21,zz22,zz23,i64_w,i32_w]
       rfl
      refine done_ (by kernel_rfl) ?_
      have hnb42:=NB326_312.out
      have hnc42:=NB312_326.out
      have hcz43_0:w41.cell? ⟨gb326,0,none⟩=some (.int .i64 t322):=(zz9 BK326.out 0).trans rfl
      have hcz43_1:w41.cell? ⟨gb326,1,none⟩=some (.slice Ao24 t323.length co24):=(zz9 BK326.out 1).trans rfl
      have hfz43_0:=zz10 BK326.out 0
      have hfz43_1:=zz10 BK326.out 1
      go_upto_region 14 with (first | ((with_reducible refine gate_callee (f:=19) rfl ?_);refine goesL_ (some 48) rfl rfl Tryd.func19 (by kernel_rfl) rfl #[.agg #[.int .i64 t322,.slice Ao24 t323.length co24],.int .i64 1] rfl (by (try simp only [zz26,zz27,zz28]);first | done | rfl | (simp only [zz24,zz25];rfl)) ?_;(with_reducible refine (laws_markParty.calls kj10 t322 (fun k_=>some k_=(.slice Ao24 t323.length co24:Value).ownBlock) (.slice Ao24 t323.length co24) t323 1 t337 t338 w _ ?side1 ?side2 A36.out).mono ?_);(case side1=>repeat first | exact HB.out | apply zz2 | apply zz0 | apply zz1 | refine zz3 ?_ GE312.out | refine zz3 ?_ GE326.out);(case side2=>exact Kd.R_tight rfl HO_327001.out);rintro e w44 ⟨rfl,hy0,hb,hkp⟩;refine ⟨_,rfl,?_⟩;have n0_:=zz31 (Kd.V_mono (ok':=fun k_=>some k_ ≠ (v328:Value).ownBlock∧some k_ ≠ (.slice Ao24 t323.length co24:Value).ownBlock∧some k_ ≠ (.slice Ao40 t333.length co40:Value).ownBlock∧k_ ≠ gb312∧k_ ≠ gb326) (Kd.V_keptB (HO_4.out) hkp (fun k_ hk_ hs_=>(hk_.1.2.1) hs_)) (fun k_ hk_=>⟨hk_.1.1.1,hk_.1.1.2.1,hk_.1.2,hk_.1.1.2.2.1,hk_.1.1.2.2.2⟩));have n1_:=zz31 (Kd.R_mono (ok':=fun k_=>True) (Kd.R_keptB ((Kd.R_apart' HO_7.out (Kd.R_typed HO_327001.out) (by decide))) hkp (fun k_ hk_ hs_=>(hk_.2) hs_)) (fun k_ hk_=>trivial));have n2_:=zz31 (Kd.R_reok rfl hy0 (fun k_ e_=>HO_327001.out.1 k_ e_));(first | have n3_:=zz31 (blk_kept BK312.out hkp (fun hs_=>(fun e_=>(Kd.R_ne HO_327001.out BK312.out (by decide)) e_) hs_)) | have n3_:=zz31 (blk_kept (by (with_reducible repeat (first | refine zz6 ?_ _ | refine zz7 ?_ | refine zz8 ?_ _));exact BK312.out) hkp (fun hs_=>(fun e_=>(Kd.R_ne HO_327001.out BK312.out (by decide)) e_) hs_)));(first | have n4_:=zz31 (blk_kept BK326.out hkp (fun hs_=>(fun e_=>(Kd.R_ne HO_327001.out BK326.out (by decide)) e_) hs_)) | have n4_:=zz31 (blk_kept (by (with_reducible repeat (first | refine zz6 ?_ _ | refine zz7 ?_ | refine zz8 ?_ _));exact BK326.out) hkp (fun hs_=>(fun e_=>(Kd.R_ne HO_327001.out BK326.out (by decide)) e_) hs_)));have n5_:=zz31 (Kd.R_mono (ok':=fun k_=>some k_ ≠ (.slice Ao24 t323.length co24:Value).ownBlock) (Kd.R_keptB (HO335.out) hkp (fun k_ hk_ hs_=>(hk_.2) hs_)) (fun k_ hk_=>hk_.1.2));have n6_:=zz31 (hb);clear HO_4;clear HO_7;clear HO_327001;clear BK312;clear BK326;clear HO335;clear HB;have HO_4:=n0_;have HO_7:=n1_;have HO_327001:=n2_;have BK312:=n3_;have BK326:=n4_;have HO335:=n5_;have HB:=n6_;clear n0_ n1_ n2_ n3_ n4_ n5_ n6_;(try clear hb);(try clear hkp);(try clear hy0)))
      (try simp only [Act.put,zz21,zz22,zz23])
      go_cut [61] (fun v61 wc=>∃ (kq:Nat) (x61_36:Bool),v61=.bool x61_36∧Aside0 (laws_FnExactGreatestGroup.j1 kq t318 t321 t327 x61_36 a0_0 l0_1=some r)∧Aside0 (kq≤kj10)∧Aside0 (Kd.V (Kd.int .i64) 3 wc w.heap.size (fun k_=>some k_ ≠ (v328:Value).ownBlock∧some k_ ≠ ((.slice Ao24 t323.length co24):Value).ownBlock∧k_ ≠ gb312∧k_ ≠ gb326) v319 t318)∧Aside0 (Kd.R (Kd.int .i64) 3 wc w.heap.size (fun _=>True) v328 t327)∧Aside0 (Kd.R k74 74 wc w.heap.size (fun _=>True) (.slice Ao24 t323.length co24) t338)∧Aside0 (wc.heap[gb312]?=some (.cells #[.int .i64 a0_0,(.slice A0_1 l0_1.length c0_1)] 24 (0,0)))∧Aside0 (wc.heap[gb326]?=some (.cells #[.int .i64 t322,(.slice Ao24 t323.length co24)] 30 (0,0)))∧Aside0 (Below w.heap.size w wc))
      case first =>
       have H:=HC37.out
       clear HC37
       by_cases c45:t337 < 0
       ·rw [if_pos c45] at H
        have c45b0:decide (t337 < 0)=true:=decide_eq_true c45
        clear c45
        (first | rw [c45b0] | (simp only [i64_w,i32_w];rw [c45b0]) | skip)
        have H':=zz31 H
        clear H
        go_wp2
        go_meet
        case rel=>exact ⟨_,(true),(by first | rfl | (simp;done) | (simp [*];done)),H',⟨by have:=HJ10.out;first | omega | exact Nat.le_refl _⟩,⟨by (with_reducible repeat (first | apply Kd.V_alloc | apply Kd.V_drewN | apply Kd.V_drew));exact Kd.V_mono HO_4.out (fun _ hk=>⟨hk.1,⟨hk.2.1,⟨hk.2.2.2.1,hk.2.2.2.2⟩⟩⟩)⟩,⟨by (with_reducible repeat (first | apply zz12 | apply zz13 | apply zz14));exact HO_7.out⟩,⟨by (with_reducible repeat (first | apply zz12 | apply zz13 | apply zz14));exact Kd.R_mono HO_327001.out (fun _ hk=>trivial)⟩,⟨by (with_reducible repeat (first | refine zz6 ?_ _ | refine zz7 ?_ | refine zz8 ?_ _));exact BK312.out⟩,⟨by (with_reducible repeat (first | refine zz6 ?_ _ | refine zz7 ?_ | refine zz8 ?_ _));exact BK326.out⟩,⟨by repeat first | exact HB.out | apply zz2 | apply zz0 | apply zz1 | refine zz3 ?_ GE312.out | refine zz3 ?_ GE326.out⟩⟩
       ·rw [if_neg c45] at H
        have c45b0:decide (t337 < 0)=false:=decide_eq_false c45
        clear c45
        (first | rw [c45b0] | (simp only [i64_w,i32_w];rw [c45b0]) | skip)
        replace H:=zz30.mp H
        obtain ⟨t339,A460,H⟩:=H
        replace H:(if t339=true then (laws_FnExactGreatestGroup.j1 kj10 t318 t321 t327 (t330 != t321) a0_0 l0_1) else (laws_FnExactGreatestGroup.j1 kj10 t318 t321 t327 true a0_0 l0_1))=some r:=H
        have A46:=zz31 A460
        clear A460
        by_cases c47:t339=true
        ·subst c47
         have H1:(laws_FnExactGreatestGroup.j1 kj10 t318 t321 t327 (t330 != t321) a0_0 l0_1)=some r:=by rw [if_pos rfl] at H;exact H
         clear H
         have H:=H1
         clear H1
         have H':=zz31 H
         clear H
         obtain ⟨Ao48,co48,eo48⟩:=Kd.R_slice HO_7.out
         subst eo48
         obtain ⟨Ao49,co49,eo49⟩:=Kd.V_slice HO_4.out
         subst eo49
         go_wp2_with (first | (go_at_call 18;(with_reducible refine (laws_eqIntS.calls kj10 _ _ t327 _ _ t318 true _ ?side1 ?side2 ?side3 ?side4 A46.out).mono ?_);(case side1=>repeat (first | exact (Kd.R_reads' HO_7.out).2.2 | (with_reducible refine zz18 ?_ _) | (with_reducible refine zz19 ?_ _) | (with_reducible refine zz20 ?_)));(case side2=>exact (Kd.R_reads' HO_7.out).2.1);(case side3=>repeat (first | exact (Kd.V_reads' HO_4.out).2.2 | (with_reducible refine zz18 ?_ _) | (with_reducible refine zz19 ?_ _) | (with_reducible refine zz20 ?_)));(case side4=>exact (Kd.V_reads' HO_4.out).2.1);rintro e w' ⟨rfl,⟨nd,rfl⟩⟩))
         go_meet
         case rel=>exact ⟨_,((t330 != t321)),(by first | rfl | (simp;done) | (simp [*];done)),H',⟨by have:=HJ10.out;first | omega | exact Nat.le_refl _⟩,⟨by (with_reducible repeat (first | apply Kd.V_alloc | apply Kd.V_drewN | apply Kd.V_drew));exact Kd.V_mono HO_4.out (fun _ hk=>⟨hk.1,⟨hk.2.1,⟨hk.2.2.2.1,hk.2.2.2.2⟩⟩⟩)⟩,⟨by (with_reducible repeat (first | apply zz12 | apply zz13 | apply zz14));exact HO_7.out⟩,⟨by (with_reducible repeat (first | apply zz12 | apply zz13 | apply zz14));exact Kd.R_mono HO_327001.out (fun _ hk=>trivial)⟩,⟨by (with_reducible repeat (first | refine zz6 ?_ _ | refine zz7 ?_ | refine zz8 ?_ _));exact BK312.out⟩,⟨by (with_reducible repeat (first | refine zz6 ?_ _ | refine zz7 ?_ | refine zz8 ?_ _));exact BK326.out⟩,⟨by repeat first | exact HB.out | apply zz2 | apply zz0 | apply zz1 | refine zz3 ?_ GE312.out | refine zz3 ?_ GE326.out⟩⟩
        ·replace c47:=Bool.eq_false_iff.mpr c47
         subst c47
         have H1:(laws_FnExactGreatestGroup.j1 kj10 t318 t321 t327 true a0_0 l0_1)=some r:=by rw [if_neg (show ¬ (false=true) by decide)] at H;exact H
         clear H
         have H:=H1
         clear H1
         have H':=zz31 H
         clear H
         obtain ⟨Ao50,co50,eo50⟩:=Kd.R_slice HO_7.out
         subst eo50
         obtain ⟨Ao51,co51,eo51⟩:=Kd.V_slice HO_4.out
         subst eo51
         go_wp2_with (first | (go_at_call 18;(with_reducible refine (laws_eqIntS.calls kj10 _ _ t327 _ _ t318 false _ ?side1 ?side2 ?side3 ?side4 A46.out).mono ?_);(case side1=>repeat (first | exact (Kd.R_reads' HO_7.out).2.2 | (with_reducible refine zz18 ?_ _) | (with_reducible refine zz19 ?_ _) | (with_reducible refine zz20 ?_)));(case side2=>exact (Kd.R_reads' HO_7.out).2.1);(case side3=>repeat (first | exact (Kd.V_reads' HO_4.out).2.2 | (with_reducible refine zz18 ?_ _) | (with_reducible refine zz19 ?_ _) | (with_reducible refine zz20 ?_)));(case side4=>exact (Kd.V_reads' HO_4.out).2.1);rintro e w' ⟨rfl,⟨nd,rfl⟩⟩))
         go_meet
         case rel=>exact ⟨_,(true),(by first | rfl | (simp;done) | (simp [*];done)),H',⟨by have:=HJ10.out;first | omega | exact Nat.le_refl _⟩,⟨by (with_reducible repeat (first | apply Kd.V_alloc | apply Kd.V_drewN | apply Kd.V_drew));exact Kd.V_mono HO_4.out (fun _ hk=>⟨hk.1,⟨hk.2.1,⟨hk.2.2.2.1,hk.2.2.2.2⟩⟩⟩)⟩,⟨by (with_reducible repeat (first | apply zz12 | apply zz13 | apply zz14));exact HO_7.out⟩,⟨by (with_reducible repeat (first | apply zz12 | apply zz13 | apply zz14));exact Kd.R_mono HO_327001.out (fun _ hk=>trivial)⟩,⟨by (with_reducible repeat (first | refine zz6 ?_ _ | refine zz7 ?_ | refine zz8 ?_ _));exact BK312.out⟩,⟨by (with_reducible repeat (first | refine zz6 ?_ _ | refine zz7 ?_ | refine zz8 ?_ _));exact BK326.out⟩,⟨by repeat first | exact HB.out | apply zz2 | apply zz0 | apply zz1 | refine zz3 ?_ GE312.out | refine zz3 ?_ GE326.out⟩⟩
      case rest =>
       clear HC37
       try clear c1
       try clear c2
       try clear p2
       try clear c3
       try clear c3b0
       try clear c4
       try clear c6
       try clear c9
       try clear c11
       try clear c13
       try clear c18
       try clear c19
       try clear c22
       try clear c23
       try clear c27
       try clear c32
       try clear c35
       try clear c42
       try clear c45
       try clear c45b0
       try clear c47
       try clear hcz13_0
       try clear hcz13_1
       try clear hcz15_0
       try clear hcz15_1
       try clear hcz19_0
       try clear hcz19_1
       try clear hcz23_0
       try clear hcz23_1
       try clear hcz43_0
       try clear hcz43_1
       try clear hcz5_0
       try clear hcz5_1
       try clear hfz13_0
       try clear hfz13_1
       try clear hfz15_0
       try clear hfz15_1
       try clear hfz19_0
       try clear hfz19_1
       try clear hfz23_0
       try clear hfz23_1
       try clear hfz43_0
       try clear hfz43_1
       try clear hfz5_0
       try clear hfz5_1
       try clear p2
       obtain ⟨kq,x61_36,rfl,HA,HJ36,HO_4,HO_7,HO_327001,BK312,BK326,HB⟩:=hcut
       have hl327001_36:=(Kd.R_reads' HO_327001.out).1
       rw [hl327001_36] at HO_327001
       (try simp only [hl327001_36])
       (try simp only [hl327001_36] at BK312)
       (try simp only [hl327001_36] at BK326)
       (try simp only [hl327001_36] at HO_4)
       (try simp only [hl327001_36] at HO_7)
       cases kq with
       | zero=>exact absurd HA.out (by simp [laws_FnExactGreatestGroup.j1])
       | succ kj36 =>
        have H:=HA.out
        clear HA
        simp only [laws_FnExactGreatestGroup.j1] at H
        by_cases c52:x61_36=true
        ·subst c52
         have H1:(some false)=some r:=by rw [if_pos rfl] at H;exact H
         clear H
         have H:=H1
         clear H1
         obtain rfl:=Option.some.inj H
         go_wp2
         go_ret
         exact ⟨by first | rfl | (simp [errW_none,errW_some] <;> rfl) | (simp [*,errW_none,errW_some] <;> rfl),by repeat first | exact HB.out | apply zz2 | apply zz0 | apply zz1 | refine zz3 ?_ GE312.out | refine zz3 ?_ GE326.out⟩
        ·replace c52:=Bool.eq_false_iff.mpr c52
         subst c52
         have H1:((laws_markIntS.f kj36 t327 1).bind fun bt340=>((laws_heldIntS.f kj36 bt340.2 1).bind fun t342=>(if t342 < 0 then (some false) else (if t342=bt340.1 then ((laws_toParty.f kj36 a0_0 l0_1).bind fun bt343=>((impl_GreatestGroup.f kj36 bt343.1 bt343.2).bind fun bt347=>((laws_eqIntS.f kj36 bt347.1 t318).bind fun t351=>(if t351=true then (laws_FnExactGreatestGroup.j2 kj36 bt340.2 bt340.1 (bt347.2 != t321)) else (laws_FnExactGreatestGroup.j2 kj36 bt340.2 bt340.1 true))))) else (some false)))))=some r:=by rw [if_neg (show ¬ (false=true) by decide)] at H;exact H
         clear H
         have H:=H1
         clear H1
         replace H:=zz30.mp H
         obtain ⟨⟨t340,t341⟩,A530,H⟩:=H
         replace H:((laws_heldIntS.f kj36 t341 1).bind fun t342=>(if t342 < 0 then (some false) else (if t342=t340 then ((laws_toParty.f kj36 a0_0 l0_1).bind fun bt343=>((impl_GreatestGroup.f kj36 bt343.1 bt343.2).bind fun bt347=>((laws_eqIntS.f kj36 bt347.1 t318).bind fun t351=>(if t351=true then (laws_FnExactGreatestGroup.j2 kj36 t341 t340 (bt347.2 != t321)) else (laws_FnExactGreatestGroup.j2 kj36 t341 t340 true))))) else (some false))))=some r:=H
         have A53:=zz31 A530
         clear A530
         replace H:=zz30.mp H
         obtain ⟨t342,A540,H⟩:=H
         replace H:(if t342 < 0 then (some false) else (if t342=t340 then ((laws_toParty.f kj36 a0_0 l0_1).bind fun bt343=>((impl_GreatestGroup.f kj36 bt343.1 bt343.2).bind fun bt347=>((laws_eqIntS.f kj36 bt347.1 t318).bind fun t351=>(if t351=true then (laws_FnExactGreatestGroup.j2 kj36 t341 t340 (bt347.2 != t321)) else (laws_FnExactGreatestGroup.j2 kj36 t341 t340 true))))) else (some false)))=some r:=H
         have A54:=zz31 A540
         clear A540
         by_cases c55:t342 < 0
         ·rw [if_pos c55] at H
          have c55b0:decide (t342 < 0)=true:=decide_eq_true c55
          clear c55
          obtain rfl:=Option.some.inj H
          obtain ⟨Ao56,co56,eo56⟩:=Kd.R_slice HO_7.out
          subst eo56
          go_wp2_with (first | ((with_reducible refine gate_callee (f:=20) rfl ?_);refine goesL_ (some 64) rfl rfl Tryd.func20 (by kernel_rfl) rfl #[.slice Ao56 t327.length co56,.int .i64 1] rfl (by (try simp only [zz26,zz27,zz28]);first | done | rfl | (simp only [zz24,zz25];rfl)) ?_;(with_reducible refine (laws_markIntS.calls kj36 (fun k_=>some k_=(.slice Ao56 t327.length co56:Value).ownBlock) (.slice Ao56 t327.length co56) t327 1 t340 t341 w _ ?side1 ?side2 A53.out).mono ?_);(case side1=>repeat first | exact HB.out | apply zz2 | apply zz0 | apply zz1 | refine zz3 ?_ GE312.out | refine zz3 ?_ GE326.out);(case side2=>exact Kd.R_tight rfl HO_7.out);rintro e w57 ⟨rfl,hy0,hb,hkp⟩;refine ⟨_,rfl,?_⟩;have n0_:=zz31 (Kd.V_mono (ok':=fun k_=>some k_ ≠ (.slice Ao56 t327.length co56:Value).ownBlock∧some k_ ≠ (.slice Ao24 t338.length co24:Value).ownBlock∧k_ ≠ gb312∧k_ ≠ gb326) (Kd.V_keptB (HO_4.out) hkp (fun k_ hk_ hs_=>(hk_.1) hs_)) (fun k_ hk_=>⟨hk_.1.1,hk_.1.2.1,hk_.1.2.2.1,hk_.1.2.2.2⟩));have n1_:=zz31 (Kd.R_reok rfl hy0 (fun k_ e_=>HO_7.out.1 k_ e_));have n2_:=zz31 (Kd.R_mono (ok':=fun k_=>True) (Kd.R_keptB ((Kd.R_apart' HO_327001.out (Kd.R_typed HO_7.out) (by decide))) hkp (fun k_ hk_ hs_=>(hk_.2) hs_)) (fun k_ hk_=>trivial));(first | have n3_:=zz31 (blk_kept BK312.out hkp (fun hs_=>(fun e_=>(Kd.R_ne HO_7.out BK312.out (by decide)) e_) hs_)) | have n3_:=zz31 (blk_kept (by (with_reducible repeat (first | refine zz6 ?_ _ | refine zz7 ?_ | refine zz8 ?_ _));exact BK312.out) hkp (fun hs_=>(fun e_=>(Kd.R_ne HO_7.out BK312.out (by decide)) e_) hs_)));(first | have n4_:=zz31 (blk_kept BK326.out hkp (fun hs_=>(fun e_=>(Kd.R_ne HO_7.out BK326.out (by decide)) e_) hs_)) | have n4_:=zz31 (blk_kept (by (with_reducible repeat (first | refine zz6 ?_ _ | refine zz7 ?_ | refine zz8 ?_ _));exact BK326.out) hkp (fun hs_=>(fun e_=>(Kd.R_ne HO_7.out BK326.out (by decide)) e_) hs_)));have n5_:=zz31 (hb);clear HO_4;clear HO_7;clear HO_327001;clear BK312;clear BK326;clear HB;have HO_4:=n0_;have HO_7:=n1_;have HO_327001:=n2_;have BK312:=n3_;have BK326:=n4_;have HB:=n5_;clear n0_ n1_ n2_ n3_ n4_ n5_;(try clear hb);(try clear hkp);(try clear hy0)) | ((with_reducible refine gate_callee (f:=21) rfl ?_);refine goesL_ (some 67) rfl rfl Tryd.func21 (by kernel_rfl) rfl #[.slice Ao56 t341.length co56,.int .i64 1] rfl (by (try simp only [zz26,zz27,zz28]);first | done | (rw [show t341.length=t327.length from (Kd.R_reads' HO_7.out).1.symm] <;> rfl) | rfl | (simp only [zz24,zz25];rfl)) ?_;(with_reducible refine (laws_heldIntS.calls kj36 _ _ t341 1 t342 _ ?side1 ?side2 A54.out).mono ?_);(case side1=>repeat (first | exact (Kd.R_reads' HO_7.out).2.2 | (with_reducible refine zz18 ?_ _) | (with_reducible refine zz19 ?_ _) | (with_reducible refine zz20 ?_)));(case side2=>rw [show t341.length=t327.length from (Kd.R_reads' HO_7.out).1.symm];exact (Kd.R_reads' HO_7.out).2.1);rintro e w' ⟨rfl,⟨nd,rfl⟩⟩;refine ⟨_,rfl,?_⟩))
          go_ret
          exact ⟨by first | rfl | (simp [errW_none,errW_some] <;> rfl) | (simp [*,errW_none,errW_some] <;> rfl),by repeat first | exact HB.out | apply zz2 | apply zz0 | apply zz1 | refine zz3 ?_ GE312.out | refine zz3 ?_ GE326.out⟩
         ·rw [if_neg c55] at H
          have c55b0:decide (t342 < 0)=false:=decide_eq_false c55
          clear c55
          by_cases c58:t342=t340
          ·rw [if_pos c58] at H
           have c58b0:(t342 == t340)=true:=beq_iff_eq.mpr c58
           have c58b1:(t342 != t340)=false:=bne_eq_false_iff_eq.mpr c58
           clear c58
           replace H:=zz30.mp H
           obtain ⟨⟨t343,t344⟩,A590,H⟩:=H
           replace H:((impl_GreatestGroup.f kj36 t343 t344).bind fun bt347=>((laws_eqIntS.f kj36 bt347.1 t318).bind fun t351=>(if t351=true then (laws_FnExactGreatestGroup.j2 kj36 t341 t340 (bt347.2 != t321)) else (laws_FnExactGreatestGroup.j2 kj36 t341 t340 true))))=some r:=H
           have A59:=zz31 A590
           clear A590
           replace H:=zz30.mp H
           obtain ⟨⟨t347,t350⟩,A600,H⟩:=H
           replace H:((laws_eqIntS.f kj36 t347 t318).bind fun t351=>(if t351=true then (laws_FnExactGreatestGroup.j2 kj36 t341 t340 (t350 != t321)) else (laws_FnExactGreatestGroup.j2 kj36 t341 t340 true)))=some r:=H
           have A60:=zz31 A600
           clear A600
           have HC61:=zz31 H
           clear H
           obtain ⟨Ao62,co62,eo62⟩:=Kd.R_slice HO_7.out
           subst eo62
           go_upto_region 25 with (first | ((with_reducible refine gate_callee (f:=20) rfl ?_);refine goesL_ (some 64) rfl rfl Tryd.func20 (by kernel_rfl) rfl #[.slice Ao62 t327.length co62,.int .i64 1] rfl (by (try simp only [zz26,zz27,zz28]);first | done | rfl | (simp only [zz24,zz25];rfl)) ?_;(with_reducible refine (laws_markIntS.calls kj36 (fun k_=>some k_=(.slice Ao62 t327.length co62:Value).ownBlock) (.slice Ao62 t327.length co62) t327 1 t340 t341 w _ ?side1 ?side2 A53.out).mono ?_);(case side1=>repeat first | exact HB.out | apply zz2 | apply zz0 | apply zz1 | refine zz3 ?_ GE312.out | refine zz3 ?_ GE326.out);(case side2=>exact Kd.R_tight rfl HO_7.out);rintro e w63 ⟨rfl,hy0,hb,hkp⟩;refine ⟨_,rfl,?_⟩;have n0_:=zz31 (Kd.V_mono (ok':=fun k_=>some k_ ≠ (.slice Ao62 t327.length co62:Value).ownBlock∧some k_ ≠ (.slice Ao24 t338.length co24:Value).ownBlock∧k_ ≠ gb312∧k_ ≠ gb326) (Kd.V_keptB (HO_4.out) hkp (fun k_ hk_ hs_=>(hk_.1) hs_)) (fun k_ hk_=>⟨hk_.1.1,hk_.1.2.1,hk_.1.2.2.1,hk_.1.2.2.2⟩));have n1_:=zz31 (Kd.R_reok rfl hy0 (fun k_ e_=>HO_7.out.1 k_ e_));have n2_:=zz31 (Kd.R_mono (ok':=fun k_=>True) (Kd.R_keptB ((Kd.R_apart' HO_327001.out (Kd.R_typed HO_7.out) (by decide))) hkp (fun k_ hk_ hs_=>(hk_.2) hs_)) (fun k_ hk_=>trivial));(first | have n3_:=zz31 (blk_kept BK312.out hkp (fun hs_=>(fun e_=>(Kd.R_ne HO_7.out BK312.out (by decide)) e_) hs_)) | have n3_:=zz31 (blk_kept (by (with_reducible repeat (first | refine zz6 ?_ _ | refine zz7 ?_ | refine zz8 ?_ _));exact BK312.out) hkp (fun hs_=>(fun e_=>(Kd.R_ne HO_7.out BK312.out (by decide)) e_) hs_)));(first | have n4_:=zz31 (blk_kept BK326.out hkp (fun hs_=>(fun e_=>(Kd.R_ne HO_7.out BK326.out (by decide)) e_) hs_)) | have n4_:=zz31 (blk_kept (by (with_reducible repeat (first | refine zz6 ?_ _ | refine zz7 ?_ | refine zz8 ?_ _));exact BK326.out) hkp (fun hs_=>(fun e_=>(Kd.R_ne HO_7.out BK326.out (by decide)) e_) hs_)));have n5_:=zz31 (hb);clear HO_4;clear HO_7;clear HO_327001;clear BK312;clear BK326;clear HB;have HO_4:=n0_;have HO_7:=n1_;have HO_327001:=n2_;have BK312:=n3_;have BK326:=n4_;have HB:=n5_;clear n0_ n1_ n2_ n3_ n4_ n5_;(try clear hb);(try clear hkp);(try clear hy0)) | ((with_reducible refine gate_callee (f:=21) rfl ?_);refine goesL_ (some 67) rfl rfl Tryd.func21 (by kernel_rfl) rfl #[.slice Ao62 t341.length co62,.int .i64 1] rfl (by (try simp only [zz26,zz27,zz28]);first | done | (rw [show t341.length=t327.length from (Kd.R_reads' HO_7.out).1.symm] <;> rfl) | rfl | (simp only [zz24,zz25];rfl)) ?_;(with_reducible refine (laws_heldIntS.calls kj36 _ _ t341 1 t342 _ ?side1 ?side2 A54.out).mono ?_);(case side1=>repeat (first | exact (Kd.R_reads' HO_7.out).2.2 | (with_reducible refine zz18 ?_ _) | (with_reducible refine zz19 ?_ _) | (with_reducible refine zz20 ?_)));(case side2=>rw [show t341.length=t327.length from (Kd.R_reads' HO_7.out).1.symm];exact (Kd.R_reads' HO_7.out).2.1);rintro e w' ⟨rfl,⟨nd,rfl⟩⟩;refine ⟨_,rfl,?_⟩;have hnb64:=NB312_326.out;have hnc64:=NB326_312.out;have hcz65_0:w63.cell? ⟨gb312,0,none⟩=some (.int .i64 a0_0):=(zz9 BK312.out 0).trans rfl;have hcz65_1:w63.cell? ⟨gb312,1,none⟩=some (.slice A0_1 l0_1.length c0_1):=(zz9 BK312.out 1).trans rfl;have hfz65_0:=zz10 BK312.out 0;have hfz65_1:=zz10 BK312.out 1) | ((with_reducible refine gate_callee (f:=11) rfl ?_);refine goesL_ (some 75) rfl rfl Tryd.func11 (by kernel_rfl) rfl #[.agg #[.int .i64 a0_0,.slice A0_1 l0_1.length c0_1]] rfl (by (try simp only [zz26,zz27,zz28]);first | done | rfl | (simp only [zz24,zz25];rfl)) ?_;(with_reducible refine (laws_toParty.calls kj36 a0_0 _ _ l0_1 t343 t344 _ ?side1 ?side2 A59.out).mono ?_);(case side1=>repeat (first | exact (Kd.C_below HR0_1.out (by repeat first | exact HB.out | apply zz2 | apply zz0 | apply zz1 | refine zz3 ?_ GE312.out | refine zz3 ?_ GE326.out)) | (with_reducible refine zz18 ?_ _) | (with_reducible refine zz19 ?_ _) | (with_reducible refine zz20 ?_)));(case side2=>exact HC0_1.out);rintro e w66 ⟨v345,rfl,ho0,hb⟩;refine ⟨_,rfl,?_⟩;have n0_:=zz31 (Kd.V_elder' (by (with_reducible repeat (first | apply Kd.V_alloc | apply Kd.V_drewN | apply Kd.V_drew));exact HO_4.out) (Kd.R_base ho0) hb);have n1_:=zz31 (Kd.R_below (by (with_reducible repeat (first | apply zz12 | apply zz13 | apply zz14));exact HO_7.out) hb);have n2_:=zz31 (Kd.R_elder' (by (with_reducible repeat (first | apply zz12 | apply zz13 | apply zz14));exact HO_327001.out) (Kd.R_base ho0) hb);have n3_:=zz31 (Kd.R_lower (Kd.R_new' ho0 (Kd.R_lt (by (with_reducible repeat (first | apply zz12 | apply zz13 | apply zz14));exact HO_327001.out))) (zz5 (by repeat first | exact HB.out | apply zz2 | apply zz0 | apply zz1 | refine zz3 ?_ GE312.out | refine zz3 ?_ GE326.out)));have n4_:=zz31 (zz11 (g:=gb312) (o:=.cells #[.int .i64 a0_0,.slice A0_1 l0_1.length c0_1] 24 (0,0)) (by (with_reducible repeat (first | refine zz6 ?_ _ | refine zz7 ?_ | refine zz8 ?_ _));exact BK312.out) hb);have n5_:=zz31 (zz11 (g:=gb326) (o:=.cells #[.int .i64 t322,.slice Ao24 t338.length co24] 30 (0,0)) (by (with_reducible repeat (first | refine zz6 ?_ _ | refine zz7 ?_ | refine zz8 ?_ _));exact BK326.out) hb);have n6_:=zz31 (zz4 (by repeat first | exact HB.out | apply zz2 | apply zz0 | apply zz1 | refine zz3 ?_ GE312.out | refine zz3 ?_ GE326.out) hb);clear HO_4;clear HO_7;clear HO_327001;clear BK312;clear BK326;clear HB;have HO_4:=n0_;have HO_7:=n1_;have HO_327001:=n2_;have HO346:=n3_;have BK312:=n4_;have BK326:=n5_;have HB:=n6_;clear n0_ n1_ n2_ n3_ n4_ n5_ n6_;(try clear hb);(try clear hb2);(try clear hk);(try clear hi);(try clear ho0);obtain ⟨Ao67,co67,eo67⟩:=Kd.R_slice HO346.out;subst eo67) | ((with_reducible refine gate_callee (f:=23) rfl ?_);refine goesL_ (some 76) rfl rfl Tryd.func23 (by kernel_rfl) rfl #[.agg #[.int .i64 t343,.slice Ao67 t344.length co67]] rfl (by (try simp only [zz26,zz27,zz28]);first | done | rfl | (simp only [zz24,zz25];rfl)) ?_;(with_reducible refine (impl_GreatestGroup.calls kj36 t343 _ _ t344 t347 t350 _ ?side1 ?side2 A60.out (HT.out.below (by repeat first | exact HB.out | apply zz2 | apply zz0 | apply zz1 | refine zz3 ?_ GE312.out | refine zz3 ?_ GE326.out))).mono ?_);(case side1=>repeat (first | exact (Kd.R_reads' HO346.out).2.2 | (with_reducible refine zz18 ?_ _) | (with_reducible refine zz19 ?_ _) | (with_reducible refine zz20 ?_)));(case side2=>exact (Kd.R_reads' HO346.out).2.1);rintro e w68 ⟨v348,rfl,ho0,hb⟩;refine ⟨_,rfl,?_⟩;have n0_:=zz31 (Kd.V_elder' (by (with_reducible repeat (first | apply Kd.V_alloc | apply Kd.V_drewN | apply Kd.V_drew));exact HO_4.out) (Kd.R_base ho0) hb);have n1_:=zz31 (Kd.R_elder' (by (with_reducible repeat (first | apply zz12 | apply zz13 | apply zz14));exact HO_7.out) (Kd.R_base ho0) hb);have n2_:=zz31 (Kd.R_below (by (with_reducible repeat (first | apply zz12 | apply zz13 | apply zz14));exact HO_327001.out) hb);have n3_:=zz31 (Kd.R_below (by (with_reducible repeat (first | apply zz12 | apply zz13 | apply zz14));exact HO346.out) hb);have n4_:=zz31 (Kd.R_lower (Kd.R_new' ho0 (Kd.R_lt (by (with_reducible repeat (first | apply zz12 | apply zz13 | apply zz14));exact HO_7.out))) (zz5 (by repeat first | exact HB.out | apply zz2 | apply zz0 | apply zz1 | refine zz3 ?_ GE312.out | refine zz3 ?_ GE326.out)));have n5_:=zz31 (zz11 (g:=gb312) (o:=.cells #[.int .i64 a0_0,.slice A0_1 l0_1.length c0_1] 24 (0,0)) (by (with_reducible repeat (first | refine zz6 ?_ _ | refine zz7 ?_ | refine zz8 ?_ _));exact BK312.out) hb);have n6_:=zz31 (zz11 (g:=gb326) (o:=.cells #[.int .i64 t322,.slice Ao24 t338.length co24] 30 (0,0)) (by (with_reducible repeat (first | refine zz6 ?_ _ | refine zz7 ?_ | refine zz8 ?_ _));exact BK326.out) hb);have n7_:=zz31 (zz4 (by repeat first | exact HB.out | apply zz2 | apply zz0 | apply zz1 | refine zz3 ?_ GE312.out | refine zz3 ?_ GE326.out) hb);clear HO_4;clear HO_7;clear HO_327001;clear HO346;clear BK312;clear BK326;clear HB;have HO_4:=n0_;have HO_7:=n1_;have HO_327001:=n2_;have HO346:=n3_;have HO349:=n4_;have BK312:=n5_;have BK326:=n6_;have HB:=n7_;clear n0_ n1_ n2_ n3_ n4_ n5_ n6_ n7_;(try clear hb);(try clear hb2);(try clear hk);(try clear hi);(try clear ho0)))
           (try simp only [Act.put,zz21,zz22,zz23])
           go_cut [87] (fun v87 wc=>∃ (kq:Nat) (x87_60:Bool),v87=.bool x87_60∧Aside0 (laws_FnExactGreatestGroup.j2 kq t341 t340 x87_60=some r)∧Aside0 (kq≤kj36)∧Aside0 (Kd.R (Kd.int .i64) 3 wc w.heap.size (fun _=>True) (.slice Ao62 t327.length co62) t341)∧Aside0 (Kd.R k74 74 wc w.heap.size (fun _=>True) (.slice Ao24 t338.length co24) t338)∧Aside0 (wc.heap[gb312]?=some (.cells #[.int .i64 a0_0,(.slice A0_1 l0_1.length c0_1)] 24 (0,0)))∧Aside0 (wc.heap[gb326]?=some (.cells #[.int .i64 t322,(.slice Ao24 t338.length co24)] 30 (0,0)))∧Aside0 (Below w.heap.size w wc))
           case first =>
            have H:=HC61.out
            clear HC61
            replace H:=zz30.mp H
            obtain ⟨t351,A690,H⟩:=H
            replace H:(if t351=true then (laws_FnExactGreatestGroup.j2 kj36 t341 t340 (t350 != t321)) else (laws_FnExactGreatestGroup.j2 kj36 t341 t340 true))=some r:=H
            have A69:=zz31 A690
            clear A690
            by_cases c70:t351=true
            ·subst c70
             have H1:(laws_FnExactGreatestGroup.j2 kj36 t341 t340 (t350 != t321))=some r:=by rw [if_pos rfl] at H;exact H
             clear H
             have H:=H1
             clear H1
             have H':=zz31 H
             clear H
             obtain ⟨Ao71,co71,eo71⟩:=Kd.R_slice HO349.out
             subst eo71
             obtain ⟨Ao72,co72,eo72⟩:=Kd.V_slice HO_4.out
             subst eo72
             go_wp2_with (first | ((with_reducible refine gate_callee (f:=18) rfl ?_);refine goesL_ (some 81) rfl rfl Tryd.func18 (by kernel_rfl) rfl #[.slice Ao71 t347.length co71,.slice Ao72 t318.length co72] rfl (by (try simp only [zz26,zz27,zz28]);first | done | rfl | (simp only [zz24,zz25];rfl)) ?_;(with_reducible refine (laws_eqIntS.calls kj36 _ _ t347 _ _ t318 true _ ?side1 ?side2 ?side3 ?side4 A69.out).mono ?_);(case side1=>repeat (first | exact (Kd.R_reads' HO349.out).2.2 | (with_reducible refine zz18 ?_ _) | (with_reducible refine zz19 ?_ _) | (with_reducible refine zz20 ?_)));(case side2=>exact (Kd.R_reads' HO349.out).2.1);(case side3=>repeat (first | exact (Kd.V_reads' HO_4.out).2.2 | (with_reducible refine zz18 ?_ _) | (with_reducible refine zz19 ?_ _) | (with_reducible refine zz20 ?_)));(case side4=>exact (Kd.V_reads' HO_4.out).2.1);rintro e w' ⟨rfl,⟨nd,rfl⟩⟩;refine ⟨_,rfl,?_⟩))
             go_meet
             case rel=>exact ⟨_,((t350 != t321)),(by first | rfl | (simp;done) | (simp [*];done)),H',⟨by have:=HJ10.out;have:=HJ36.out;first | omega | exact Nat.le_refl _⟩,⟨by (try simp only [hl327001_36]);(with_reducible repeat (first | apply zz12 | apply zz13 | apply zz14));exact Kd.R_mono HO_7.out (fun _ hk=>trivial)⟩,⟨by (try simp only [hl327001_36]);(with_reducible repeat (first | apply zz12 | apply zz13 | apply zz14));exact Kd.R_mono HO_327001.out (fun _ hk=>trivial)⟩,⟨by (try simp only [hl327001_36]);(with_reducible repeat (first | refine zz6 ?_ _ | refine zz7 ?_ | refine zz8 ?_ _));exact BK312.out⟩,⟨by (try simp only [hl327001_36]);(with_reducible repeat (first | refine zz6 ?_ _ | refine zz7 ?_ | refine zz8 ?_ _));exact BK326.out⟩,⟨by repeat first | exact HB.out | apply zz2 | apply zz0 | apply zz1 | refine zz3 ?_ GE312.out | refine zz3 ?_ GE326.out⟩⟩
            ·replace c70:=Bool.eq_false_iff.mpr c70
             subst c70
             have H1:(laws_FnExactGreatestGroup.j2 kj36 t341 t340 true)=some r:=by rw [if_neg (show ¬ (false=true) by decide)] at H;exact H
             clear H
             have H:=H1
             clear H1
             have H':=zz31 H
             clear H
             obtain ⟨Ao73,co73,eo73⟩:=Kd.R_slice HO349.out
             subst eo73
             obtain ⟨Ao74,co74,eo74⟩:=Kd.V_slice HO_4.out
             subst eo74
             go_wp2_with (first | ((with_reducible refine gate_callee (f:=18) rfl ?_);refine goesL_ (some 81) rfl rfl Tryd.func18 (by kernel_rfl) rfl #[.slice Ao73 t347.length co73,.slice Ao74 t318.length co74] rfl (by (try simp only [zz26,zz27,zz28]);first | done | rfl | (simp only [zz24,zz25];rfl)) ?_;(with_reducible refine (laws_eqIntS.calls kj36 _ _ t347 _ _ t318 false _ ?side1 ?side2 ?side3 ?side4 A69.out).mono ?_);(case side1=>repeat (first | exact (Kd.R_reads' HO349.out).2.2 | (with_reducible refine zz18 ?_ _) | (with_reducible refine zz19 ?_ _) | (with_reducible refine zz20 ?_)));(case side2=>exact (Kd.R_reads' HO349.out).2.1);(case side3=>repeat (first | exact (Kd.V_reads' HO_4.out).2.2 | (with_reducible refine zz18 ?_ _) | (with_reducible refine zz19 ?_ _) | (with_reducible refine zz20 ?_)));(case side4=>exact (Kd.V_reads' HO_4.out).2.1);rintro e w' ⟨rfl,⟨nd,rfl⟩⟩;refine ⟨_,rfl,?_⟩))
             go_meet
             case rel=>exact ⟨_,(true),(by first | rfl | (simp;done) | (simp [*];done)),H',⟨by have:=HJ10.out;have:=HJ36.out;first | omega | exact Nat.le_refl _⟩,⟨by (try simp only [hl327001_36]);(with_reducible repeat (first | apply zz12 | apply zz13 | apply zz14));exact Kd.R_mono HO_7.out (fun _ hk=>trivial)⟩,⟨by (try simp only [hl327001_36]);(with_reducible repeat (first | apply zz12 | apply zz13 | apply zz14));exact Kd.R_mono HO_327001.out (fun _ hk=>trivial)⟩,⟨by (try simp only [hl327001_36]);(with_reducible repeat (first | refine zz6 ?_ _ | refine zz7 ?_ | refine zz8 ?_ _));exact BK312.out⟩,⟨by (try simp only [hl327001_36]);(with_reducible repeat (first | refine zz6 ?_ _ | refine zz7 ?_ | refine zz8 ?_ _));exact BK326.out⟩,⟨by repeat first | exact HB.out | apply zz2 | apply zz0 | apply zz1 | refine zz3 ?_ GE312.out | refine zz3 ?_ GE326.out⟩⟩
           case rest =>
            clear HC61
            try clear c1
            try clear c2
            try clear p2
            try clear c3
            try clear c3b0
            try clear c4
            try clear c5
            try clear c6
            try clear c7
            try clear c9
            try clear c11
            try clear c13
            try clear c18
            try clear c19
            try clear c20
            try clear c21
            try clear c22
            try clear c23
            try clear c27
            try clear c32
            try clear c35
            try clear c42
            try clear c45
            try clear c45b0
            try clear c47
            try clear c52
            try clear c55
            try clear c55b0
            try clear c58
            try clear c58b0
            try clear c58b1
            try clear c64
            try clear c70
            try clear hcz13_0
            try clear hcz13_1
            try clear hcz15_0
            try clear hcz15_1
            try clear hcz19_0
            try clear hcz19_1
            try clear hcz23_0
            try clear hcz23_1
            try clear hcz43_0
            try clear hcz43_1
            try clear hcz5_0
            try clear hcz5_1
            try clear hcz65_0
            try clear hcz65_1
            try clear hfz13_0
            try clear hfz13_1
            try clear hfz15_0
            try clear hfz15_1
            try clear hfz19_0
            try clear hfz19_1
            try clear hfz23_0
            try clear hfz23_1
            try clear hfz43_0
            try clear hfz43_1
            try clear hfz5_0
            try clear hfz5_1
            try clear hfz65_0
            try clear hfz65_1
            try clear p2
            obtain ⟨kq,x87_60,rfl,HA,HJ60,HO_7,HO_327001,BK312,BK326,HB⟩:=hcut
            have hl7_60:=(Kd.R_reads' HO_7.out).1
            rw [hl7_60] at HO_7
            (try simp only [hl7_60])
            (try simp only [hl7_60] at BK312)
            (try simp only [hl7_60] at BK326)
            (try simp only [hl7_60] at HO_327001)
            cases kq with
            | zero=>exact absurd HA.out (by simp [laws_FnExactGreatestGroup.j2])
            | succ kj60 =>
             have H:=HA.out
             clear HA
             simp only [laws_FnExactGreatestGroup.j2] at H
             by_cases c75:x87_60=true
             ·subst c75
              have H1:(some false)=some r:=by rw [if_pos rfl] at H;exact H
              clear H
              have H:=H1
              clear H1
              obtain rfl:=Option.some.inj H
              go_wp2
              go_ret
              exact ⟨by first | rfl | (simp [errW_none,errW_some] <;> rfl) | (simp [*,errW_none,errW_some] <;> rfl),by repeat first | exact HB.out | apply zz2 | apply zz0 | apply zz1 | refine zz3 ?_ GE312.out | refine zz3 ?_ GE326.out⟩
             ·replace c75:=Bool.eq_false_iff.mpr c75
              subst c75
              have H1:((laws_heldIntS.f kj60 t341 1).bind fun t352=>(if t352 < 0 then (some false) else (if t352=t340 then (some true) else (some false))))=some r:=by rw [if_neg (show ¬ (false=true) by decide)] at H;exact H
              clear H
              have H:=H1
              clear H1
              replace H:=zz30.mp H
              obtain ⟨t352,A760,H⟩:=H
              replace H:(if t352 < 0 then (some false) else (if t352=t340 then (some true) else (some false)))=some r:=H
              have A76:=zz31 A760
              clear A760
              by_cases c77:t352 < 0
              ·rw [if_pos c77] at H
               have c77b0:decide (t352 < 0)=true:=decide_eq_true c77
               clear c77
               obtain rfl:=Option.some.inj H
               go_wp2_with (first | ((with_reducible refine gate_callee (f:=21) rfl ?_);refine goesL_ (some 90) rfl rfl Tryd.func21 (by kernel_rfl) rfl #[.slice Ao62 t341.length co62,.int .i64 1] rfl (by (try simp only [zz26,zz27,zz28]);first | done | rfl | (simp only [zz24,zz25];rfl)) ?_;(with_reducible refine (laws_heldIntS.calls kj60 _ _ t341 1 t352 _ ?side1 ?side2 A76.out).mono ?_);(case side1=>repeat (first | exact (Kd.R_reads' HO_7.out).2.2 | (with_reducible refine zz18 ?_ _) | (with_reducible refine zz19 ?_ _) | (with_reducible refine zz20 ?_)));(case side2=>exact (Kd.R_reads' HO_7.out).2.1);rintro e w' ⟨rfl,⟨nd,rfl⟩⟩;refine ⟨_,rfl,?_⟩))
               go_ret
               exact ⟨by first | rfl | (simp [errW_none,errW_some] <;> rfl) | (simp [*,errW_none,errW_some] <;> rfl),by repeat first | exact HB.out | apply zz2 | apply zz0 | apply zz1 | refine zz3 ?_ GE312.out | refine zz3 ?_ GE326.out⟩
              ·rw [if_neg c77] at H
               have c77b0:decide (t352 < 0)=false:=decide_eq_false c77
               clear c77
               by_cases c78:t352=t340
               ·rw [if_pos c78] at H
                have c78b0:(t352 == t340)=true:=beq_iff_eq.mpr c78
                have c78b1:(t352 != t340)=false:=bne_eq_false_iff_eq.mpr c78
                clear c78
                obtain rfl:=Option.some.inj H
                go_wp2_with (first | ((with_reducible refine gate_callee (f:=21) rfl ?_);refine goesL_ (some 90) rfl rfl Tryd.func21 (by kernel_rfl) rfl #[.slice Ao62 t341.length co62,.int .i64 1] rfl (by (try simp only [zz26,zz27,zz28]);first | done | rfl | (simp only [zz24,zz25];rfl)) ?_;(with_reducible refine (laws_heldIntS.calls kj60 _ _ t341 1 t352 _ ?side1 ?side2 A76.out).mono ?_);(case side1=>repeat (first | exact (Kd.R_reads' HO_7.out).2.2 | (with_reducible refine zz18 ?_ _) | (with_reducible refine zz19 ?_ _) | (with_reducible refine zz20 ?_)));(case side2=>exact (Kd.R_reads' HO_7.out).2.1);rintro e w' ⟨rfl,⟨nd,rfl⟩⟩;refine ⟨_,rfl,?_⟩))
                go_ret
                exact ⟨by first | rfl | (simp [errW_none,errW_some] <;> rfl) | (simp [*,errW_none,errW_some] <;> rfl),by repeat first | exact HB.out | apply zz2 | apply zz0 | apply zz1 | refine zz3 ?_ GE312.out | refine zz3 ?_ GE326.out⟩
               ·rw [if_neg c78] at H
                have c78b0:(t352 == t340)=false:=beq_eq_false_iff_ne.mpr c78
                have c78b1:(t352 != t340)=true:=bne_iff_ne.mpr c78
                obtain rfl:=Option.some.inj H
                go_wp2_with (first | ((with_reducible refine gate_callee (f:=21) rfl ?_);refine goesL_ (some 90) rfl rfl Tryd.func21 (by kernel_rfl) rfl #[.slice Ao62 t341.length co62,.int .i64 1] rfl (by (try simp only [zz26,zz27,zz28]);first | done | rfl | (simp only [zz24,zz25];rfl)) ?_;(with_reducible refine (laws_heldIntS.calls kj60 _ _ t341 1 t352 _ ?side1 ?side2 A76.out).mono ?_);(case side1=>repeat (first | exact (Kd.R_reads' HO_7.out).2.2 | (with_reducible refine zz18 ?_ _) | (with_reducible refine zz19 ?_ _) | (with_reducible refine zz20 ?_)));(case side2=>exact (Kd.R_reads' HO_7.out).2.1);rintro e w' ⟨rfl,⟨nd,rfl⟩⟩;refine ⟨_,rfl,?_⟩))
                go_ret
                exact ⟨by first | rfl | (simp [errW_none,errW_some] <;> rfl) | (simp [*,errW_none,errW_some] <;> rfl),by repeat first | exact HB.out | apply zz2 | apply zz0 | apply zz1 | refine zz3 ?_ GE312.out | refine zz3 ?_ GE326.out⟩
          ·rw [if_neg c58] at H
           have c58b0:(t342 == t340)=false:=beq_eq_false_iff_ne.mpr c58
           have c58b1:(t342 != t340)=true:=bne_iff_ne.mpr c58
           obtain rfl:=Option.some.inj H
           obtain ⟨Ao79,co79,eo79⟩:=Kd.R_slice HO_7.out
           subst eo79
           go_wp2_with (first | ((with_reducible refine gate_callee (f:=20) rfl ?_);refine goesL_ (some 64) rfl rfl Tryd.func20 (by kernel_rfl) rfl #[.slice Ao79 t327.length co79,.int .i64 1] rfl (by (try simp only [zz26,zz27,zz28]);first | done | rfl | (simp only [zz24,zz25];rfl)) ?_;(with_reducible refine (laws_markIntS.calls kj36 (fun k_=>some k_=(.slice Ao79 t327.length co79:Value).ownBlock) (.slice Ao79 t327.length co79) t327 1 t340 t341 w _ ?side1 ?side2 A53.out).mono ?_);(case side1=>repeat first | exact HB.out | apply zz2 | apply zz0 | apply zz1 | refine zz3 ?_ GE312.out | refine zz3 ?_ GE326.out);(case side2=>exact Kd.R_tight rfl HO_7.out);rintro e w80 ⟨rfl,hy0,hb,hkp⟩;refine ⟨_,rfl,?_⟩;have n0_:=zz31 (Kd.V_mono (ok':=fun k_=>some k_ ≠ (.slice Ao79 t327.length co79:Value).ownBlock∧some k_ ≠ (.slice Ao24 t338.length co24:Value).ownBlock∧k_ ≠ gb312∧k_ ≠ gb326) (Kd.V_keptB (HO_4.out) hkp (fun k_ hk_ hs_=>(hk_.1) hs_)) (fun k_ hk_=>⟨hk_.1.1,hk_.1.2.1,hk_.1.2.2.1,hk_.1.2.2.2⟩));have n1_:=zz31 (Kd.R_reok rfl hy0 (fun k_ e_=>HO_7.out.1 k_ e_));have n2_:=zz31 (Kd.R_mono (ok':=fun k_=>True) (Kd.R_keptB ((Kd.R_apart' HO_327001.out (Kd.R_typed HO_7.out) (by decide))) hkp (fun k_ hk_ hs_=>(hk_.2) hs_)) (fun k_ hk_=>trivial));(first | have n3_:=zz31 (blk_kept BK312.out hkp (fun hs_=>(fun e_=>(Kd.R_ne HO_7.out BK312.out (by decide)) e_) hs_)) | have n3_:=zz31 (blk_kept (by (with_reducible repeat (first | refine zz6 ?_ _ | refine zz7 ?_ | refine zz8 ?_ _));exact BK312.out) hkp (fun hs_=>(fun e_=>(Kd.R_ne HO_7.out BK312.out (by decide)) e_) hs_)));(first | have n4_:=zz31 (blk_kept BK326.out hkp (fun hs_=>(fun e_=>(Kd.R_ne HO_7.out BK326.out (by decide)) e_) hs_)) | have n4_:=zz31 (blk_kept (by (with_reducible repeat (first | refine zz6 ?_ _ | refine zz7 ?_ | refine zz8 ?_ _));exact BK326.out) hkp (fun hs_=>(fun e_=>(Kd.R_ne HO_7.out BK326.out (by decide)) e_) hs_)));have n5_:=zz31 (hb);clear HO_4;clear HO_7;clear HO_327001;clear BK312;clear BK326;clear HB;have HO_4:=n0_;have HO_7:=n1_;have HO_327001:=n2_;have BK312:=n3_;have BK326:=n4_;have HB:=n5_;clear n0_ n1_ n2_ n3_ n4_ n5_;(try clear hb);(try clear hkp);(try clear hy0)) | ((with_reducible refine gate_callee (f:=21) rfl ?_);refine goesL_ (some 67) rfl rfl Tryd.func21 (by kernel_rfl) rfl #[.slice Ao79 t341.length co79,.int .i64 1] rfl (by (try simp only [zz26,zz27,zz28]);first | done | (rw [show t341.length=t327.length from (Kd.R_reads' HO_7.out).1.symm] <;> rfl) | rfl | (simp only [zz24,zz25];rfl)) ?_;(with_reducible refine (laws_heldIntS.calls kj36 _ _ t341 1 t342 _ ?side1 ?side2 A54.out).mono ?_);(case side1=>repeat (first | exact (Kd.R_reads' HO_7.out).2.2 | (with_reducible refine zz18 ?_ _) | (with_reducible refine zz19 ?_ _) | (with_reducible refine zz20 ?_)));(case side2=>rw [show t341.length=t327.length from (Kd.R_reads' HO_7.out).1.symm];exact (Kd.R_reads' HO_7.out).2.1);rintro e w' ⟨rfl,⟨nd,rfl⟩⟩;refine ⟨_,rfl,?_⟩))
           go_ret
           exact ⟨by first | rfl | (simp [errW_none,errW_some] <;> rfl) | (simp [*,errW_none,errW_some] <;> rfl),by repeat first | exact HB.out | apply zz2 | apply zz0 | apply zz1 | refine zz3 ?_ GE312.out | refine zz3 ?_ GE326.out⟩
     ·replace c35:=Bool.eq_false_iff.mpr c35
      subst c35
      have H1:(some false)=some r:=by rw [if_neg (show ¬ (false=true) by decide)] at H;exact H
      clear H
      have H:=H1
      clear H1
      obtain rfl:=Option.some.inj H
      try go_wp2
      have n0_:=zz31 (Kd.V_drew HO_4.out)
      have n1_:=zz31 (zz14 HO_7.out)
      have n2_:=zz31 (zz14 HO_327001.out)
      have n3_:=zz31 (zz7 BK312.out)
      have n4_:=zz31 (zz7 BK326.out)
      have n5_:=zz31 (zz1 HB.out)
      clear HO_4
      clear HO_7
      clear HO_327001
      clear BK312
      clear BK326
      clear HB
      have HO_4:=n0_
      have HO_7:=n1_
      have HO_327001:=n2_
      have BK312:=n3_
      have BK326:=n4_
      have HB:=n5_
      clear n0_ n1_ n2_ n3_ n4_ n5_
      refine start_ (n:=5) (S:=fun w'=>w'.cell? ⟨gb326,0,none⟩=some (.int .i64 t322)∧w'.cell? ⟨gb326,1,none⟩=some (.slice Ao24 t323.length co24)∧w'.cell? ⟨gb312,0,none⟩=some (.int .i64 a0_0)∧w'.cell? ⟨gb312,1,none⟩=some (.slice A0_1 l0_1.length c0_1)) (ds:=[]) #[F,F,F,F,F] (by kernel_rfl) rfl rfl ⟨(zz9 BK326.out 0).trans rfl,(zz9 BK326.out 1).trans rfl,(zz9 BK312.out 0).trans rfl,(zz9 BK312.out 1).trans rfl⟩ (fun hHeld=>?_)
      generalize wc.drew=w81 at HO_4 HO_7 HO_327001 BK312 BK326 HB hHeld ⊢
      refine take_ (i:=0) (N:=some 41) (v:=?_) (a':=?_) #[T,F,F,F,F] rfl rfl (by kernel_rfl) (fun _ _ _ h=>h) (Or.inl ⟨by rfl,?_⟩) hHeld ?_ ?_
      rotate_left
      ·rintro w' ⟨s0,s1,s2,s3⟩
       go_simp
       with_reducible rfl
      rotate_left
      ·simp only [Act.put,zz21,zz22,zz23,i64_w,i32_w]
       rfl
      refine take_ (i:=1) (N:=some 42) (v:=?_) (a':=?_) #[T,T,F,F,F] rfl rfl (by kernel_rfl) (fun _ _ _ h=>h) (Or.inl ⟨by rfl,?_⟩) hHeld ?_ ?_
      rotate_left
      ·rintro w' ⟨s0,s1,s2,s3⟩
       go_simp
       with_reducible rfl
      rotate_left
      ·simp only [Act.put,zz21,zz22,zz23,i64_w,i32_w]
       rfl
      refine one_ (i:=2) (N:=some 43) #[T,T,T,F,F] rfl rfl (by kernel_rfl) (by decide) (fun K hK=>?_)
      refine goes_ Tryd.func11 (by kernel_rfl) rfl #[.agg #[.int .i64 a0_0,.slice A0_1 l0_1.length c0_1]] (by rfl) rfl rfl (by (try simp only [zz26,zz27,zz28]);first | done | rfl | (simp only [zz24,zz25];rfl)) ?_
      with_reducible refine (laws_toParty.calls kj10 a0_0 _ _ l0_1 t332 t333 _ ?side1 ?side2 A33.out).mono ?_
      (case side1=>repeat (first | exact (Kd.C_below HR0_1.out HB.out) | (with_reducible refine zz18 ?_ _) | (with_reducible refine zz19 ?_ _) | (with_reducible refine zz20 ?_)))
      (case side2=>exact HC0_1.out)
      rintro e w82 ⟨v334,rfl,ho0,hb⟩
      refine ⟨_,rfl,?_⟩
      have n0_:=zz31 (Kd.V_elder' (by (with_reducible repeat (first | apply Kd.V_alloc | apply Kd.V_drewN | apply Kd.V_drew));exact HO_4.out) (Kd.R_base ho0) hb)
      have n1_:=zz31 (Kd.R_below (by (with_reducible repeat (first | apply zz12 | apply zz13 | apply zz14));exact HO_7.out) hb)
      have n2_:=zz31 (Kd.R_elder' (by (with_reducible repeat (first | apply zz12 | apply zz13 | apply zz14));exact HO_327001.out) (Kd.R_base ho0) hb)
      have n3_:=zz31 (Kd.R_lower (Kd.R_new' ho0 (Kd.R_lt (by (with_reducible repeat (first | apply zz12 | apply zz13 | apply zz14));exact HO_327001.out))) (zz5 (by repeat first | exact HB.out | apply zz2 | apply zz0 | apply zz1 | refine zz3 ?_ GE312.out | refine zz3 ?_ GE326.out)))
      have n4_:=zz31 (zz11 (g:=gb312) (o:=.cells #[.int .i64 a0_0,.slice A0_1 l0_1.length c0_1] 24 (0,0)) (by (with_reducible repeat (first | refine zz6 ?_ _ | refine zz7 ?_ | refine zz8 ?_ _));exact BK312.out) hb)
      have n5_:=zz31 (zz11 (g:=gb326) (o:=.cells #[.int .i64 t322,.slice Ao24 t323.length co24] 30 (0,0)) (by (with_reducible repeat (first | refine zz6 ?_ _ | refine zz7 ?_ | refine zz8 ?_ _));exact BK326.out) hb)
      have n6_:=zz31 (zz4 (by repeat first | exact HB.out | apply zz2 | apply zz0 | apply zz1 | refine zz3 ?_ GE312.out | refine zz3 ?_ GE326.out) hb)
      clear HO_4
      clear HO_7
      clear HO_327001
      clear BK312
      clear BK326
      clear HB
      have HO_4:=n0_
      have HO_7:=n1_
      have HO_327001:=n2_
      have HO335:=n3_
      have BK312:=n4_
      have BK326:=n5_
      have HB:=n6_
      clear n0_ n1_ n2_ n3_ n4_ n5_ n6_
      (try clear hb)
      (try clear hb2)
      (try clear hk)
      (try clear hi)
      (try clear ho0)
      obtain ⟨Ao83,co83,eo83⟩:=Kd.R_slice HO335.out
      (first | subst eo83 | (injection eo83 with f1_ f2_ f3_;have f4_:=f1_.symm;have f5_:=f3_.symm;clear f1_ f2_ f3_;subst f4_;subst f5_))
      refine hK.out _ _ ⟨(zz9 BK326.out 0).trans rfl,(zz9 BK326.out 1).trans rfl,(zz9 BK312.out 0).trans rfl,(zz9 BK312.out 1).trans rfl⟩ (fun hHeld=>?_)
      clear hK K
      refine norm_ (a':=?_) ?_ ?_
      rotate_left
      ·show Act.put _ (some 43) _=_
       simp only [Act.put,zz21,zz22,zz23,i64_w,i32_w]
       rfl
      refine one_ (i:=3) (N:=some 44) #[T,T,T,T,F] rfl rfl (by kernel_rfl) (by decide) (fun K hK=>?_)
      refine goes_ Tryd.func13 (by kernel_rfl) rfl #[.agg #[.int .i64 t322,.slice Ao24 t323.length co24],.agg #[.int .i64 t332,.slice Ao83 t333.length co83]] (by rfl) rfl rfl (by (try simp only [zz26,zz27,zz28]);first | done | rfl | (simp only [zz24,zz25];rfl)) ?_
      with_reducible refine (laws_eqParty.calls kj10 t322 _ _ t323 t332 _ _ t333 false _ ?side1 ?side2 ?side3 ?side4 A34.out).mono ?_
      (case side1=>repeat (first | exact (Kd.R_reads' HO_327001.out).2.2 | (with_reducible refine zz18 ?_ _) | (with_reducible refine zz19 ?_ _) | (with_reducible refine zz20 ?_)))
      (case side2=>exact (Kd.R_reads' HO_327001.out).2.1)
      (case side3=>repeat (first | exact (Kd.R_reads' HO335.out).2.2 | (with_reducible refine zz18 ?_ _) | (with_reducible refine zz19 ?_ _) | (with_reducible refine zz20 ?_)))
      (case side4=>exact (Kd.R_reads' HO335.out).2.1)
      rintro e w84 ⟨rfl,hb⟩
      refine ⟨_,rfl,?_⟩
      have n0_:=zz31 (Kd.V_below (by (with_reducible repeat (first | apply Kd.V_alloc | apply Kd.V_drewN | apply Kd.V_drew));exact HO_4.out) hb)
      have n1_:=zz31 (Kd.R_below (by (with_reducible repeat (first | apply zz12 | apply zz13 | apply zz14));exact HO_7.out) hb)
      have n2_:=zz31 (Kd.R_below (by (with_reducible repeat (first | apply zz12 | apply zz13 | apply zz14));exact HO_327001.out) hb)
      have n3_:=zz31 (Kd.R_below (by (with_reducible repeat (first | apply zz12 | apply zz13 | apply zz14));exact HO335.out) hb)
      have n4_:=zz31 (zz11 (g:=gb312) (o:=.cells #[.int .i64 a0_0,.slice A0_1 l0_1.length c0_1] 24 (0,0)) (by (with_reducible repeat (first | refine zz6 ?_ _ | refine zz7 ?_ | refine zz8 ?_ _));exact BK312.out) hb)
      have n5_:=zz31 (zz11 (g:=gb326) (o:=.cells #[.int .i64 t322,.slice Ao24 t323.length co24] 30 (0,0)) (by (with_reducible repeat (first | refine zz6 ?_ _ | refine zz7 ?_ | refine zz8 ?_ _));exact BK326.out) hb)
      have n6_:=zz31 (zz4 (by repeat first | exact HB.out | apply zz2 | apply zz0 | apply zz1 | refine zz3 ?_ GE312.out | refine zz3 ?_ GE326.out) hb)
      clear HO_4
      clear HO_7
      clear HO_327001
      clear HO335
      clear BK312
      clear BK326
      clear HB
      have HO_4:=n0_
      have HO_7:=n1_
      have HO_327001:=n2_
      have HO335:=n3_
      have BK312:=n4_
      have BK326:=n5_
      have HB:=n6_
      clear n0_ n1_ n2_ n3_ n4_ n5_ n6_
      (try clear hb)
      (try clear hb2)
      (try clear hk)
      (try clear hi)
      refine hK.out _ _ ⟨(zz9 BK326.out 0).trans rfl,(zz9 BK326.out 1).trans rfl,(zz9 BK312.out 0).trans rfl,(zz9 BK312.out 1).trans rfl⟩ (fun hHeld=>?_)
      clear hK K
      refine norm_ (a':=?_) ?_ ?_
      rotate_left
      ·show Act.put _ (some 44) _=_
       simp only [Act.put,zz21,zz22,zz23,i64_w,i32_w]
       rfl
      refine pure_ (i:=4) (N:=some 45) (v:=?_) (a':=?_) #[T,T,T,T,T] rfl rfl (by kernel_rfl) (fun _ _ _ h=>h) (Or.inl ⟨by rfl,?_⟩) ?_ ?_
      rotate_left
      ·intro w'
       go_simp
       with_reducible rfl
      rotate_left
      ·simp only [Act.put,zz21,zz22,zz23,i64_w,i32_w]
       rfl
      refine done_ (by kernel_rfl) ?_
      try go_wp2
      go_ret
      exact ⟨by first | rfl | (simp [errW_none,errW_some] <;> rfl) | (simp [*,errW_none,errW_some] <;> rfl),by repeat first | exact HB.out | apply zz2 | apply zz0 | apply zz1 | refine zz3 ?_ GE312.out | refine zz3 ?_ GE326.out⟩

end Go.Proofs.YtifkaefccghgdaaDoor.P
