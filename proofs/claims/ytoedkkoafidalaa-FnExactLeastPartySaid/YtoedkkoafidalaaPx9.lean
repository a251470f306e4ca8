-- PRINTED by print.py (a twelfth state) out of the translation. Not trusted: Lean checks it.
import Derived.Test.YtoedkkoafidalaaPx0
import Derived.Test.YtoedkkoafidalaaPx2
import Derived.Test.YtoedkkoafidalaaPx5
namespace Go.Proofs.Ytoedkkoafidalaa.P
open Go.RowKit Go.Proofs.YtoedkkoafidalaaW.PrintWords Go.Proofs.YtoedkkoafidalaaW.PrintLast Go.Proofs.YtoedkkoafidalaaW.PrintMore
open Bool renaming true → T, false → F
attribute [local go_sem] max2_int min2_int max_two min_two max_three min_three max_four min_four   -- for this text's walks alone
set_option linter.unusedVariables false
set_option linter.unusedSimpArgs false

/-! ### laws_FnExactLeastParty: function 5 -/
mutual
def laws_FnExactLeastParty.j0:Nat→Bool→Bool→Bool→Int→List (S86)→Int→List (S70)→Int→List (S70)→Int→List (S70)→Option (Bool)
 | 0,_,_,_,_,_,_,_,_,_,_,_=>none
 | k+1,x5,x8,x40,x295000,x295001,x306000,x306001,x311000,x311001,x317000,x317001=>if x40=true then (some false) else ((laws_toParty.f k x295000 x295001).bind fun bt318=>((laws_eqParty.f k x311000 x311001 bt318.1 bt318.2).bind fun t322=>(if t322=true then ((laws_markParty.f k x311000 x311001 1).bind fun bt323=>(if bt323.1 < 0 then (laws_FnExactLeastParty.j1 k x5 true x295000 x295001 x306000 x306001 x317000 x317001) else ((laws_eqParty.f k x317000 x317001 x306000 x306001).bind fun t325=>(if t325=true then (laws_FnExactLeastParty.j1 k x5 (x8 != x5) x295000 x295001 x306000 x306001 x317000 x317001) else (laws_FnExactLeastParty.j1 k x5 true x295000 x295001 x306000 x306001 x317000 x317001))))) else (some false))))
def laws_FnExactLeastParty.j1:Nat→Bool→Bool→Int→List (S86)→Int→List (S70)→Int→List (S70)→Option (Bool)
 | 0,_,_,_,_,_,_,_,_=>none
 | k+1,x5,x61,x295000,x295001,x306000,x306001,x317000,x317001=>if x61=true then (some false) else ((laws_markParty.f k x317000 x317001 1).bind fun bt326=>((laws_heldParty.f k x317000 bt326.2 1).bind fun t328=>(if t328 < 0 then (some false) else (if t328=bt326.1 then ((laws_toParty.f k x295000 x295001).bind fun bt329=>((impl_LeastParty.f k bt329.1 bt329.2).bind fun bt333=>((laws_eqParty.f k bt333.1 bt333.2.1 x306000 x306001).bind fun t339=>(if t339=true then (laws_FnExactLeastParty.j2 k bt326.1 (bt333.2.2 != x5) x317000 bt326.2) else (laws_FnExactLeastParty.j2 k bt326.1 true x317000 bt326.2))))) else (some false)))))
def laws_FnExactLeastParty.j2:Nat→Int→Bool→Int→List (S70)→Option (Bool)
 | 0,_,_,_,_=>none
 | k+1,x10,x87,x317000,x317001=>if x87=true then (some false) else ((laws_heldParty.f k x317000 x317001 1).bind fun t340=>(if t340 < 0 then (some false) else (if t340=x10 then (some true) else (some false))))
end
def laws_FnExactLeastParty.f (k:Nat) (a0_0:Int) (l0_1:List (S86)):Option (Bool):=(laws_szParty.f a0_0 l0_1 1048576).bind fun t295=>(if t295 < 0 then (some true) else ((laws_toParty.f k a0_0 l0_1).bind fun bt296=>((spec_LeastParty.f k bt296.1 bt296.2).bind fun bt300=>((laws_toParty.f k a0_0 l0_1).bind fun bt306=>((impl_LeastParty.f k bt306.1 bt306.2).bind fun bt311=>((laws_eqParty.f k bt311.1 bt311.2.1 bt300.1 bt300.2.1).bind fun t317=>(if t317=true then (laws_FnExactLeastParty.j0 k bt300.2.2 bt311.2.2 (bt311.2.2 != bt300.2.2) a0_0 l0_1 bt300.1 bt300.2.1 bt306.1 bt306.2 bt311.1 bt311.2.1) else (laws_FnExactLeastParty.j0 k bt300.2.2 bt311.2.2 true a0_0 l0_1 bt300.1 bt300.2.1 bt306.1 bt306.2 bt311.1 bt311.2.1))))))))
theorem laws_FnExactLeastParty.mono_l:∀ k,(∀ y0 y1 y2 y3 y4 y5 y6 y7 y8 y9 y10,LeO (laws_FnExactLeastParty.j0 k y0 y1 y2 y3 y4 y5 y6 y7 y8 y9 y10) (laws_FnExactLeastParty.j0 (k+1) y0 y1 y2 y3 y4 y5 y6 y7 y8 y9 y10))∧(∀ y0 y1 y2 y3 y4 y5 y6 y7,LeO (laws_FnExactLeastParty.j1 k y0 y1 y2 y3 y4 y5 y6 y7) (laws_FnExactLeastParty.j1 (k+1) y0 y1 y2 y3 y4 y5 y6 y7))∧(∀ y0 y1 y2 y3,LeO (laws_FnExactLeastParty.j2 k y0 y1 y2 y3) (laws_FnExactLeastParty.j2 (k+1) y0 y1 y2 y3))
 | 0=>⟨fun _ _ _ _ _ _ _ _ _ _ _ r h=>by simp [laws_FnExactLeastParty.j0] at h,fun _ _ _ _ _ _ _ _ r h=>by simp [laws_FnExactLeastParty.j1] at h,fun _ _ _ _ r h=>by simp [laws_FnExactLeastParty.j2] at h⟩
 | k+1=>by
  obtain ⟨ih0,ih1,ih2⟩:=laws_FnExactLeastParty.mono_l k
  refine ⟨?_,?_,?_⟩
  ·intro y0 y1 y2 y3 y4 y5 y6 y7 y8 y9 y10
   unfold laws_FnExactLeastParty.j0
   repeat' first
   | (with_reducible exact ih0 _ _ _ _ _ _ _ _ _ _ _)
   | (with_reducible exact ih1 _ _ _ _ _ _ _ _)
   | (with_reducible exact ih2 _ _ _ _)
   | (with_reducible exact impl_LeastParty.mono _ _ _)
   | (with_reducible exact laws_eqParty.mono _ _ _ _ _)
   | (with_reducible exact laws_heldParty.mono _ _ _ _)
   | (with_reducible exact laws_markParty.mono _ _ _ _)
   | (with_reducible exact laws_toParty.mono _ _ _)
   | (with_reducible exact spec_LeastParty.mono _ _ _)
   | (with_reducible exact LeO.refl _)
   | (with_reducible exact LeO.none _)
   | (with_reducible refine LeO.ite ?_ ?_)
   | (with_reducible refine LeO.bind ?_ (fun _=>?_))
   | exact ih0 _ _ _ _ _ _ _ _ _ _ _
   | exact ih1 _ _ _ _ _ _ _ _
   | exact ih2 _ _ _ _
   | exact impl_LeastParty.mono _ _ _
   | exact laws_eqParty.mono _ _ _ _ _
   | exact laws_heldParty.mono _ _ _ _
   | exact laws_markParty.mono _ _ _ _
   | exact laws_toParty.mono _ _ _
   | exact spec_LeastParty.mono _ _ _
   | exact LeO.none _
   | refine LeO.ite ?_ ?_
   | refine LeO.bind ?_ (fun _=>?_)
  ·intro y0 y1 y2 y3 y4 y5 y6 y7
   unfold laws_FnExactLeastParty.j1
   repeat' first
   | (with_reducible exact ih0 _ _ _ _ _ _ _ _ _ _ _)
   | (with_reducible exact ih1 _ _ _ _ _ _ _ _)
   | (with_reducible exact ih2 _ _ _ _)
   | (with_reducible exact impl_LeastParty.mono _ _ _)
   | (with_reducible exact laws_eqParty.mono _ _ _ _ _)
   | (with_reducible exact laws_heldParty.mono _ _ _ _)
   | (with_reducible exact laws_markParty.mono _ _ _ _)
   | (with_reducible exact laws_toParty.mono _ _ _)
   | (with_reducible exact spec_LeastParty.mono _ _ _)
   | (with_reducible exact LeO.refl _)
   | (with_reducible exact LeO.none _)
   | (with_reducible refine LeO.ite ?_ ?_)
   | (with_reducible refine LeO.bind ?_ (fun _=>?_))
   | exact ih0 _ _ _ _ _ _ _ _ _ _ _
   | exact ih1 _ _ _ _ _ _ _ _
   | exact ih2 _ _ _ _
   | exact impl_LeastParty.mono _ _ _
   | exact laws_eqParty.mono _ _ _ _ _
   | exact laws_heldParty.mono _ _ _ _
   | exact laws_markParty.mono _ _ _ _
   | exact laws_toParty.mono _ _ _
   | exact spec_LeastParty.mono _ _ _
   | exact LeO.none _
   | refine LeO.ite ?_ ?_
   | refine LeO.bind ?_ (fun _=>?_)
  ·intro y0 y1 y2 y3
   unfold laws_FnExactLeastParty.j2
   repeat' first
   | (with_reducible exact ih0 _ _ _ _ _ _ _ _ _ _ _)
   | (with_reducible exact ih1 _ _ _ _ _ _ _ _)
   | (with_reducible exact ih2 _ _ _ _)
   | (with_reducible exact impl_LeastParty.mono _ _ _)
   | (with_reducible exact laws_eqParty.mono _ _ _ _ _)
   | (with_reducible exact laws_heldParty.mono _ _ _ _)
   | (with_reducible exact laws_markParty.mono _ _ _ _)
   | (with_reducible exact laws_toParty.mono _ _ _)
   | (with_reducible exact spec_LeastParty.mono _ _ _)
   | (with_reducible exact LeO.refl _)
   | (with_reducible exact LeO.none _)
   | (with_reducible refine LeO.ite ?_ ?_)
   | (with_reducible refine LeO.bind ?_ (fun _=>?_))
   | exact ih0 _ _ _ _ _ _ _ _ _ _ _
   | exact ih1 _ _ _ _ _ _ _ _
   | exact ih2 _ _ _ _
   | exact impl_LeastParty.mono _ _ _
   | exact laws_eqParty.mono _ _ _ _ _
   | exact laws_heldParty.mono _ _ _ _
   | exact laws_markParty.mono _ _ _ _
   | exact laws_toParty.mono _ _ _
   | exact spec_LeastParty.mono _ _ _
   | exact LeO.none _
   | refine LeO.ite ?_ ?_
   | refine LeO.bind ?_ (fun _=>?_)
theorem laws_FnExactLeastParty.mono:∀ a0 a1 k,LeO (laws_FnExactLeastParty.f k a0 a1) (laws_FnExactLeastParty.f (k+1) a0 a1):=by
 intro a0 a1 k
 obtain ⟨ih0,ih1,ih2⟩:=laws_FnExactLeastParty.mono_l k
 unfold laws_FnExactLeastParty.f
 repeat' first
   | (with_reducible exact ih0 _ _ _ _ _ _ _ _ _ _ _)
   | (with_reducible exact ih1 _ _ _ _ _ _ _ _)
   | (with_reducible exact ih2 _ _ _ _)
   | (with_reducible exact impl_LeastParty.mono _ _ _)
   | (with_reducible exact laws_eqParty.mono _ _ _ _ _)
   | (with_reducible exact laws_heldParty.mono _ _ _ _)
   | (with_reducible exact laws_markParty.mono _ _ _ _)
   | (with_reducible exact laws_toParty.mono _ _ _)
   | (with_reducible exact spec_LeastParty.mono _ _ _)
   | (with_reducible exact LeO.refl _)
   | (with_reducible exact LeO.none _)
   | (with_reducible refine LeO.ite ?_ ?_)
   | (with_reducible refine LeO.bind ?_ (fun _=>?_))
   | exact ih0 _ _ _ _ _ _ _ _ _ _ _
   | exact ih1 _ _ _ _ _ _ _ _
   | exact ih2 _ _ _ _
   | exact impl_LeastParty.mono _ _ _
   | exact laws_eqParty.mono _ _ _ _ _
   | exact laws_heldParty.mono _ _ _ _
   | exact laws_markParty.mono _ _ _ _
   | exact laws_toParty.mono _ _ _
   | exact spec_LeastParty.mono _ _ _
   | exact LeO.none _
   | refine LeO.ite ?_ ?_
   | refine LeO.bind ?_ (fun _=>?_)
set_option maxHeartbeats 8000000 in
set_option maxRecDepth 100000 in
theorem laws_FnExactLeastParty.calls (k:Nat) (a0_0:Int) (A0_1:Option Addr) (c0_1:Nat) (l0_1:List (S86)) (r:Bool) (w:World) (hr0_1:Kd.C k86 w A0_1 l0_1.length l0_1) (hc0_1:l0_1.length≤c0_1) (h:laws_FnExactLeastParty.f k a0_0 l0_1=some r) :
  Calls Try.prog 5 #[.agg #[.int .i64 a0_0,.slice A0_1 l0_1.length c0_1]] w fun e w'=>e=.returned (.bool r)∧Below w.heap.size w w':=by
 have hu24:=Try.underlying24
 have hu30:=Try.underlying30
 have HR0_1:=zz31 hr0_1
 have HC0_1:=zz31 hc0_1
 clear hr0_1 hc0_1
 have HB:=zz31 (Below.refl w.heap.size w)
 have H:((laws_szParty.f a0_0 l0_1 1048576).bind fun t295=>(if t295 < 0 then (some true) else ((laws_toParty.f k a0_0 l0_1).bind fun bt296=>((spec_LeastParty.f k bt296.1 bt296.2).bind fun bt300=>((laws_toParty.f k a0_0 l0_1).bind fun bt306=>((impl_LeastParty.f k bt306.1 bt306.2).bind fun bt311=>((laws_eqParty.f k bt311.1 bt311.2.1 bt300.1 bt300.2.1).bind fun t317=>(if t317=true then (laws_FnExactLeastParty.j0 k bt300.2.2 bt311.2.2 (bt311.2.2 != bt300.2.2) a0_0 l0_1 bt300.1 bt300.2.1 bt306.1 bt306.2 bt311.1 bt311.2.1) else (laws_FnExactLeastParty.j0 k bt300.2.2 bt311.2.2 true a0_0 l0_1 bt300.1 bt300.2.1 bt306.1 bt306.2 bt311.1 bt311.2.1)))))))))=some r:=h
 clear h
 replace H:=zz30.mp H
 obtain ⟨t295,A20,H⟩:=H
 replace H:(if t295 < 0 then (some true) else ((laws_toParty.f k a0_0 l0_1).bind fun bt296=>((spec_LeastParty.f k bt296.1 bt296.2).bind fun bt300=>((laws_toParty.f k a0_0 l0_1).bind fun bt306=>((impl_LeastParty.f k bt306.1 bt306.2).bind fun bt311=>((laws_eqParty.f k bt311.1 bt311.2.1 bt300.1 bt300.2.1).bind fun t317=>(if t317=true then (laws_FnExactLeastParty.j0 k bt300.2.2 bt311.2.2 (bt311.2.2 != bt300.2.2) a0_0 l0_1 bt300.1 bt300.2.1 bt306.1 bt306.2 bt311.1 bt311.2.1) else (laws_FnExactLeastParty.j0 k bt300.2.2 bt311.2.2 true a0_0 l0_1 bt300.1 bt300.2.1 bt306.1 bt306.2 bt311.1 bt311.2.1))))))))=some r:=H
 have A2:=zz31 A20
 clear A20
 by_cases c3:t295 < 0
 ·rw [if_pos c3] at H
  have c3b0:decide (t295 < 0)=true:=decide_eq_true c3
  clear c3
  obtain rfl:=Option.some.inj H
  go_enter Try.func5,Try.ntmps5
  go_wp2_with (first | ((with_reducible refine gate_dst (N:=1) rfl ?_);refine box_event ?hg (N:=1) ?hd (cs:=#[.int .i64 a0_0,.slice A0_1 l0_1.length c0_1]) (t:=24) ?hr ?_;(case hd=>rfl);(case hg=>rfl);(case hr=>first | (go_simp;done) | (go_simp;rfl));intro gb294 hg w4 hbox hb;have n0_:=zz31 (zz4 (by repeat first | exact HB.out | apply zz2 | apply zz0 | apply zz1) hb);have n1_:=zz31 (hbox);have n2_:=zz31 ((by rw [hg];exact (zz5 (by repeat first | exact HB.out | apply zz2 | apply zz0 | apply zz1)):w.heap.size≤gb294));have n3_:=zz31 ((by rw [hg];exact (zz5 (by repeat first | exact HB.out | apply zz2 | apply zz0 | apply zz1)):w.heap.size≤gb294));clear HB;have HB:=n0_;have BK294:=n1_;have GW294:=n2_;have GE294:=n3_;clear n0_ n1_ n2_ n3_;clear hb hbox hg;have hcz5_0:w4.cell? ⟨gb294,0,none⟩=some (.int .i64 a0_0):=(zz9 BK294.out 0).trans rfl;have hcz5_1:w4.cell? ⟨gb294,1,none⟩=some (.slice A0_1 l0_1.length c0_1):=(zz9 BK294.out 1).trans rfl;have hfz5_0:=zz10 BK294.out 0;have hfz5_1:=zz10 BK294.out 1) | ((with_reducible refine gate_callee (f:=8) rfl ?_);refine goesL_ (some 16) rfl rfl Try.func8 (by kernel_rfl) rfl #[.agg #[.int .i64 a0_0,.slice A0_1 l0_1.length c0_1],.int .i64 1048576] rfl (by (try simp only [zz26,zz27,zz28]);first | done | rfl | (simp only [zz24,zz25];rfl)) ?_;(with_reducible refine (laws_szParty.calls a0_0 _ _ l0_1 1048576 t295 _ ?side1 ?side2 A2.out).mono ?_);(case side1=>repeat (first | exact (Kd.C_below HR0_1.out HB.out) | (with_reducible refine zz18 ?_ _) | (with_reducible refine zz19 ?_ _) | (with_reducible refine zz20 ?_)));(case side2=>exact HC0_1.out);rintro e w6 ⟨rfl,hb⟩;refine ⟨_,rfl,?_⟩;have n0_:=zz31 (zz11 (g:=gb294) (o:=.cells #[.int .i64 a0_0,.slice A0_1 l0_1.length c0_1] 24 (0,0)) (by (with_reducible repeat (first | refine zz6 ?_ _ | refine zz7 ?_ | refine zz8 ?_ _));exact BK294.out) hb);have n1_:=zz31 (zz4 (by repeat first | exact HB.out | apply zz2 | apply zz0 | apply zz1 | refine zz3 ?_ GE294.out) hb);clear BK294;clear HB;have BK294:=n0_;have HB:=n1_;clear n0_ n1_;(try clear hb);(try clear hb2);(try clear hk);(try clear hi)))
  go_ret
  exact ⟨by first | rfl | (simp [errW_none,errW_some] <;> rfl) | (simp [*,errW_none,errW_some] <;> rfl),by repeat first | exact HB.out | apply zz2 | apply zz0 | apply zz1 | refine zz3 ?_ GE294.out⟩
 ·rw [if_neg c3] at H
  have c3b0:decide (t295 < 0)=false:=decide_eq_false c3
  clear c3
  replace H:=zz30.mp H
  obtain ⟨⟨t296,t297⟩,A70,H⟩:=H
  replace H:((spec_LeastParty.f k t296 t297).bind fun bt300=>((laws_toParty.f k a0_0 l0_1).bind fun bt306=>((impl_LeastParty.f k bt306.1 bt306.2).bind fun bt311=>((laws_eqParty.f k bt311.1 bt311.2.1 bt300.1 bt300.2.1).bind fun t317=>(if t317=true then (laws_FnExactLeastParty.j0 k bt300.2.2 bt311.2.2 (bt311.2.2 != bt300.2.2) a0_0 l0_1 bt300.1 bt300.2.1 bt306.1 bt306.2 bt311.1 bt311.2.1) else (laws_FnExactLeastParty.j0 k bt300.2.2 bt311.2.2 true a0_0 l0_1 bt300.1 bt300.2.1 bt306.1 bt306.2 bt311.1 bt311.2.1))))))=some r:=H
  have A7:=zz31 A70
  clear A70
  replace H:=zz30.mp H
  obtain ⟨⟨t300,t301,t304⟩,A80,H⟩:=H
  replace H:((laws_toParty.f k a0_0 l0_1).bind fun bt306=>((impl_LeastParty.f k bt306.1 bt306.2).bind fun bt311=>((laws_eqParty.f k bt311.1 bt311.2.1 t300 t301).bind fun t317=>(if t317=true then (laws_FnExactLeastParty.j0 k t304 bt311.2.2 (bt311.2.2 != t304) a0_0 l0_1 t300 t301 bt306.1 bt306.2 bt311.1 bt311.2.1) else (laws_FnExactLeastParty.j0 k t304 bt311.2.2 true a0_0 l0_1 t300 t301 bt306.1 bt306.2 bt311.1 bt311.2.1)))))=some r:=H
  have A8:=zz31 A80
  clear A80
  replace H:=zz30.mp H
  obtain ⟨⟨t306,t307⟩,A90,H⟩:=H
  replace H:((impl_LeastParty.f k t306 t307).bind fun bt311=>((laws_eqParty.f k bt311.1 bt311.2.1 t300 t301).bind fun t317=>(if t317=true then (laws_FnExactLeastParty.j0 k t304 bt311.2.2 (bt311.2.2 != t304) a0_0 l0_1 t300 t301 t306 t307 bt311.1 bt311.2.1) else (laws_FnExactLeastParty.j0 k t304 bt311.2.2 true a0_0 l0_1 t300 t301 t306 t307 bt311.1 bt311.2.1))))=some r:=H
  have A9:=zz31 A90
  clear A90
  replace H:=zz30.mp H
  obtain ⟨⟨t311,t312,t315⟩,A100,H⟩:=H
  replace H:((laws_eqParty.f k t311 t312 t300 t301).bind fun t317=>(if t317=true then (laws_FnExactLeastParty.j0 k t304 t315 (t315 != t304) a0_0 l0_1 t300 t301 t306 t307 t311 t312) else (laws_FnExactLeastParty.j0 k t304 t315 true a0_0 l0_1 t300 t301 t306 t307 t311 t312)))=some r:=H
  have A10:=zz31 A100
  clear A100
  have HC11:=zz31 H
  clear H
  go_enter Try.func5,Try.ntmps5
  go_upto_region 8 with (first | ((with_reducible refine gate_dst (N:=1) rfl ?_);refine box_event ?hg (N:=1) ?hd (cs:=#[.int .i64 a0_0,.slice A0_1 l0_1.length c0_1]) (t:=24) ?hr ?_;(case hd=>rfl);(case hg=>rfl);(case hr=>first | (go_simp;done) | (go_simp;rfl));intro gb294 hg w12 hbox hb;have n0_:=zz31 (zz4 (by repeat first | exact HB.out | apply zz2 | apply zz0 | apply zz1) hb);have n1_:=zz31 (hbox);have n2_:=zz31 ((by rw [hg];exact (zz5 (by repeat first | exact HB.out | apply zz2 | apply zz0 | apply zz1)):w.heap.size≤gb294));have n3_:=zz31 ((by rw [hg];exact (zz5 (by repeat first | exact HB.out | apply zz2 | apply zz0 | apply zz1)):w.heap.size≤gb294));clear HB;have HB:=n0_;have BK294:=n1_;have GW294:=n2_;have GE294:=n3_;clear n0_ n1_ n2_ n3_;clear hb hbox hg;have hcz13_0:w12.cell? ⟨gb294,0,none⟩=some (.int .i64 a0_0):=(zz9 BK294.out 0).trans rfl;have hcz13_1:w12.cell? ⟨gb294,1,none⟩=some (.slice A0_1 l0_1.length c0_1):=(zz9 BK294.out 1).trans rfl;have hfz13_0:=zz10 BK294.out 0;have hfz13_1:=zz10 BK294.out 1) | ((with_reducible refine gate_callee (f:=8) rfl ?_);refine goesL_ (some 16) rfl rfl Try.func8 (by kernel_rfl) rfl #[.agg #[.int .i64 a0_0,.slice A0_1 l0_1.length c0_1],.int .i64 1048576] rfl (by (try simp only [zz26,zz27,zz28]);first | done | rfl | (simp only [zz24,zz25];rfl)) ?_;(with_reducible refine (laws_szParty.calls a0_0 _ _ l0_1 1048576 t295 _ ?side1 ?side2 A2.out).mono ?_);(case side1=>repeat (first | exact (Kd.C_below HR0_1.out HB.out) | (with_reducible refine zz18 ?_ _) | (with_reducible refine zz19 ?_ _) | (with_reducible refine zz20 ?_)));(case side2=>exact HC0_1.out);rintro e w14 ⟨rfl,hb⟩;refine ⟨_,rfl,?_⟩;have n0_:=zz31 (zz11 (g:=gb294) (o:=.cells #[.int .i64 a0_0,.slice A0_1 l0_1.length c0_1] 24 (0,0)) (by (with_reducible repeat (first | refine zz6 ?_ _ | refine zz7 ?_ | refine zz8 ?_ _));exact BK294.out) hb);have n1_:=zz31 (zz4 (by repeat first | exact HB.out | apply zz2 | apply zz0 | apply zz1 | refine zz3 ?_ GE294.out) hb);clear BK294;clear HB;have BK294:=n0_;have HB:=n1_;clear n0_ n1_;(try clear hb);(try clear hb2);(try clear hk);(try clear hi);have hcz15_0:w14.cell? ⟨gb294,0,none⟩=some (.int .i64 a0_0):=(zz9 BK294.out 0).trans rfl;have hcz15_1:w14.cell? ⟨gb294,1,none⟩=some (.slice A0_1 l0_1.length c0_1):=(zz9 BK294.out 1).trans rfl;have hfz15_0:=zz10 BK294.out 0;have hfz15_1:=zz10 BK294.out 1) | ((with_reducible refine gate_callee (f:=10) rfl ?_);refine goesL_ (some 21) rfl rfl Try.func10 (by kernel_rfl) rfl #[.agg #[.int .i64 a0_0,.slice A0_1 l0_1.length c0_1]] rfl (by (try simp only [zz26,zz27,zz28]);first | done | rfl | (simp only [zz24,zz25];rfl)) ?_;(with_reducible refine (laws_toParty.calls k a0_0 _ _ l0_1 t296 t297 _ ?side1 ?side2 A7.out).mono ?_);(case side1=>repeat (first | exact (Kd.C_below HR0_1.out HB.out) | (with_reducible refine zz18 ?_ _) | (with_reducible refine zz19 ?_ _) | (with_reducible refine zz20 ?_)));(case side2=>exact HC0_1.out);rintro e w16 ⟨v298,rfl,ho0,hb⟩;refine ⟨_,rfl,?_⟩;have n0_:=zz31 (Kd.R_lower ho0 (zz5 (by repeat first | exact HB.out | apply zz2 | apply zz0 | apply zz1 | refine zz3 ?_ GE294.out)));have n1_:=zz31 (zz11 (g:=gb294) (o:=.cells #[.int .i64 a0_0,.slice A0_1 l0_1.length c0_1] 24 (0,0)) (by (with_reducible repeat (first | refine zz6 ?_ _ | refine zz7 ?_ | refine zz8 ?_ _));exact BK294.out) hb);have n2_:=zz31 (zz4 (by repeat first | exact HB.out | apply zz2 | apply zz0 | apply zz1 | refine zz3 ?_ GE294.out) hb);clear BK294;clear HB;have HO299:=n0_;have BK294:=n1_;have HB:=n2_;clear n0_ n1_ n2_;(try clear hb);(try clear hb2);(try clear hk);(try clear hi);(try clear ho0);obtain ⟨Ao17,co17,eo17⟩:=Kd.R_slice HO299.out;subst eo17) | ((with_reducible refine gate_callee (f:=15) rfl ?_);refine goesL_ (some 22) rfl rfl Try.func15 (by kernel_rfl) rfl #[.agg #[.int .i64 t296,.slice Ao17 t297.length co17]] rfl (by (try simp only [zz26,zz27,zz28]);first | done | rfl | (simp only [zz24,zz25];rfl)) ?_;(with_reducible refine (spec_LeastParty.calls k t296 _ _ t297 t300 t301 t304 _ ?side1 ?side2 A8.out).mono ?_);(case side1=>repeat (first | exact (Kd.R_reads' HO299.out).2.2 | (with_reducible refine zz18 ?_ _) | (with_reducible refine zz19 ?_ _) | (with_reducible refine zz20 ?_)));(case side2=>exact (Kd.R_reads' HO299.out).2.1);rintro e w18 ⟨v302,rfl,ho0,hb⟩;refine ⟨_,rfl,?_⟩;have n0_:=zz31 (Kd.R_elder' (by (with_reducible repeat (first | apply zz12 | apply zz13 | apply zz14));exact HO299.out) (Kd.R_base ho0) hb);have n1_:=zz31 (Kd.R_lower (Kd.R_new' ho0 (Kd.R_lt (by (with_reducible repeat (first | apply zz12 | apply zz13 | apply zz14));exact HO299.out))) (zz5 (by repeat first | exact HB.out | apply zz2 | apply zz0 | apply zz1 | refine zz3 ?_ GE294.out)));have n2_:=zz31 (zz11 (g:=gb294) (o:=.cells #[.int .i64 a0_0,.slice A0_1 l0_1.length c0_1] 24 (0,0)) (by (with_reducible repeat (first | refine zz6 ?_ _ | refine zz7 ?_ | refine zz8 ?_ _));exact BK294.out) hb);have n3_:=zz31 (zz4 (by repeat first | exact HB.out | apply zz2 | apply zz0 | apply zz1 | refine zz3 ?_ GE294.out) hb);clear HO299;clear BK294;clear HB;have HO299:=n0_;have HO303:=n1_;have BK294:=n2_;have HB:=n3_;clear n0_ n1_ n2_ n3_;(try clear hb);(try clear hb2);(try clear hk);(try clear hi);(try clear ho0)) | ((with_reducible refine gate_dst (N:=4) rfl ?_);refine box_event ?hg (N:=4) ?hd (cs:=#[.int .i64 0,.slice none 0 0]) (t:=30) ?hr ?_;(case hd=>rfl);(case hg=>rfl);(case hr=>first | (go_simp;done) | (go_simp;rfl));intro gb305 hg w19 hbox hb;have n0_:=zz31 (Kd.R_below (by (with_reducible repeat (first | apply zz12 | apply zz13 | apply zz14));exact HO299.out) hb);have n1_:=zz31 (Kd.R_below (by (with_reducible repeat (first | apply zz12 | apply zz13 | apply zz14));exact HO303.out) hb);have n2_:=zz31 (zz11 (g:=gb294) (o:=.cells #[.int .i64 a0_0,.slice A0_1 l0_1.length c0_1] 24 (0,0)) (by (with_reducible repeat (first | refine zz6 ?_ _ | refine zz7 ?_ | refine zz8 ?_ _));exact BK294.out) hb);have n3_:=zz31 (zz4 (by repeat first | exact HB.out | apply zz2 | apply zz0 | apply zz1 | refine zz3 ?_ GE294.out) hb);have n4_:=zz31 (hbox);have n5_:=zz31 ((by rw [hg];exact (zz5 (by repeat first | exact HB.out | apply zz2 | apply zz0 | apply zz1 | refine zz3 ?_ GE294.out)):w.heap.size≤gb305));have n6_:=zz31 ((by rw [hg];exact (zz5 (by repeat first | exact HB.out | apply zz2 | apply zz0 | apply zz1 | refine zz3 ?_ GE294.out)):w.heap.size≤gb305));have n7_:=zz31 ((by rw [hg];exact Nat.ne_of_lt (blk_lt (g:=gb294) (o:=.cells #[.int .i64 a0_0,.slice A0_1 l0_1.length c0_1] 24 (0,0)) (by (with_reducible repeat (first | refine zz6 ?_ _ | refine zz7 ?_ | refine zz8 ?_ _));exact BK294.out)):gb294 ≠ gb305));have n8_:=zz31 ((by rw [hg];exact Nat.ne_of_gt (blk_lt (g:=gb294) (o:=.cells #[.int .i64 a0_0,.slice A0_1 l0_1.length c0_1] 24 (0,0)) (by (with_reducible repeat (first | refine zz6 ?_ _ | refine zz7 ?_ | refine zz8 ?_ _));exact BK294.out)):gb305 ≠ gb294));clear HO299;clear HO303;clear BK294;clear HB;have HO299:=n0_;have HO303:=n1_;have BK294:=n2_;have HB:=n3_;have BK305:=n4_;have GW305:=n5_;have GE305:=n6_;have NB294_305:=n7_;have NB305_294:=n8_;clear n0_ n1_ n2_ n3_ n4_ n5_ n6_ n7_ n8_;clear hb hbox hg;have hnb20:=NB305_294.out;have hnc20:=NB294_305.out;have hcz21_0:w19.cell? ⟨gb305,0,none⟩=some (.int .i64 0):=(zz9 BK305.out 0).trans rfl;have hcz21_1:w19.cell? ⟨gb305,1,none⟩=some (.slice none 0 0):=(zz9 BK305.out 1).trans rfl;have hfz21_0:=zz10 BK305.out 0;have hfz21_1:=zz10 BK305.out 1;obtain ⟨Ao22,co22,eo22⟩:=Kd.R_slice HO303.out;subst eo22;have hcz23_0:w19.cell? ⟨gb294,0,none⟩=some (.int .i64 a0_0):=(zz9 BK294.out 0).trans rfl;have hcz23_1:w19.cell? ⟨gb294,1,none⟩=some (.slice A0_1 l0_1.length c0_1):=(zz9 BK294.out 1).trans rfl;have hfz23_0:=zz10 BK294.out 0;have hfz23_1:=zz10 BK294.out 1) | ((with_reducible refine gate_callee (f:=10) rfl ?_);refine goesL_ (some 26) rfl rfl Try.func10 (by kernel_rfl) rfl #[.agg #[.int .i64 a0_0,.slice A0_1 l0_1.length c0_1]] rfl (by (try simp only [zz26,zz27,zz28]);first | done | rfl | (simp only [zz24,zz25];rfl)) ?_;(with_reducible refine (laws_toParty.calls k a0_0 _ _ l0_1 t306 t307 _ ?side1 ?side2 A9.out).mono ?_);(case side1=>exact Kd.C_below HR0_1.out (by repeat first | exact HB.out | apply zz2 | apply zz0 | apply zz1 | refine zz3 ?_ GE294.out | refine zz3 ?_ GE305.out));(case side2=>exact HC0_1.out);rintro e w24 ⟨v308,rfl,ho0,hb⟩;refine ⟨_,rfl,?_⟩;have n0_:=zz31 (Kd.R_elder' (by (with_reducible repeat (first | apply zz12 | apply zz13 | apply zz14));exact (Kd.R_mono (Kd.R_far (p:=⟨gb305,1,none⟩) (Kd.R_far (p:=⟨gb305,0,none⟩) (Kd.R_types HO299.out BK305.out (by decide)) (fun _ hk=>hk.2) (.int .i64 t300)) (fun _ hk=>hk.2) (.slice Ao22 t301.length co22)) (fun _ h_=>h_.1))) (Kd.R_base ho0) hb);have n1_:=zz31 (Kd.R_elder' (by (with_reducible repeat (first | apply zz12 | apply zz13 | apply zz14));exact (Kd.R_mono (Kd.R_far (p:=⟨gb305,1,none⟩) (Kd.R_far (p:=⟨gb305,0,none⟩) (Kd.R_types HO303.out BK305.out (by decide)) (fun _ hk=>hk.2) (.int .i64 t300)) (fun _ hk=>hk.2) (.slice Ao22 t301.length co22)) (fun _ h_=>h_.1))) (Kd.R_base ho0) hb);have n2_:=zz31 (Kd.R_lower (Kd.R_new' (Kd.R_new' ho0 (Kd.R_lt (by (with_reducible repeat (first | apply zz12 | apply zz13 | apply zz14));exact (Kd.R_mono (Kd.R_far (p:=⟨gb305,1,none⟩) (Kd.R_far (p:=⟨gb305,0,none⟩) (Kd.R_types HO299.out BK305.out (by decide)) (fun _ hk=>hk.2) (.int .i64 t300)) (fun _ hk=>hk.2) (.slice Ao22 t301.length co22)) (fun _ h_=>h_.1))))) (Kd.R_lt (by (with_reducible repeat (first | apply zz12 | apply zz13 | apply zz14));exact (Kd.R_mono (Kd.R_far (p:=⟨gb305,1,none⟩) (Kd.R_far (p:=⟨gb305,0,none⟩) (Kd.R_types HO303.out BK305.out (by decide)) (fun _ hk=>hk.2) (.int .i64 t300)) (fun _ hk=>hk.2) (.slice Ao22 t301.length co22)) (fun _ h_=>h_.1))))) (zz5 (by repeat first | exact HB.out | apply zz2 | apply zz0 | apply zz1 | refine zz3 ?_ GE294.out | refine zz3 ?_ GE305.out)));have n3_:=zz31 (zz11 (g:=gb294) (o:=.cells #[.int .i64 a0_0,.slice A0_1 l0_1.length c0_1] 24 (0,0)) (by (with_reducible repeat (first | refine zz6 ?_ _ | refine zz7 ?_ | refine zz8 ?_ _));refine blk_far ?_ NB294_305.out _;(with_reducible repeat (first | refine zz6 ?_ _ | refine zz7 ?_ | refine zz8 ?_ _));refine blk_far ?_ NB294_305.out _;(with_reducible repeat (first | refine zz6 ?_ _ | refine zz7 ?_ | refine zz8 ?_ _));exact BK294.out) hb);have n4_:=zz31 (zz11 (g:=gb305) (o:=.cells #[.int .i64 t300,.slice Ao22 t301.length co22] 30 (0,0)) (by (with_reducible repeat (first | refine zz6 ?_ _ | refine zz7 ?_ | refine zz8 ?_ _));refine blk_put (cs:=#[.int .i64 t300,.slice none 0 0]) ?_ 1 _ rfl;(with_reducible repeat (first | refine zz6 ?_ _ | refine zz7 ?_ | refine zz8 ?_ _));refine blk_put (cs:=#[.int .i64 0,.slice none 0 0]) ?_ 0 _ rfl;(with_reducible repeat (first | refine zz6 ?_ _ | refine zz7 ?_ | refine zz8 ?_ _));exact BK305.out) hb);have n5_:=zz31 (zz4 (by repeat first | exact HB.out | apply zz2 | apply zz0 | apply zz1 | refine zz3 ?_ GE294.out | refine zz3 ?_ GE305.out) hb);clear HO299;clear HO303;clear BK294;clear BK305;clear HB;have HO299:=n0_;have HO303:=n1_;have HO309:=n2_;have BK294:=n3_;have BK305:=n4_;have HB:=n5_;clear n0_ n1_ n2_ n3_ n4_ n5_;(try clear hb);(try clear hb2);(try clear hk);(try clear hi);(try clear ho0)) | ((with_reducible refine gate_dst (N:=6) rfl ?_);refine box_event ?hg (N:=6) ?hd (cs:=#[.int .i64 0,.slice none 0 0]) (t:=30) ?hr ?_;(case hd=>rfl);(case hg=>rfl);(case hr=>first | (go_simp;done) | (go_simp;rfl));intro gb310 hg w25 hbox hb;have n0_:=zz31 (Kd.R_below (by (with_reducible repeat (first | apply zz12 | apply zz13 | apply zz14));exact HO299.out) hb);have n1_:=zz31 (Kd.R_below (by (with_reducible repeat (first | apply zz12 | apply zz13 | apply zz14));exact HO303.out) hb);have n2_:=zz31 (Kd.R_below (by (with_reducible repeat (first | apply zz12 | apply zz13 | apply zz14));exact HO309.out) hb);have n3_:=zz31 (zz11 (g:=gb294) (o:=.cells #[.int .i64 a0_0,.slice A0_1 l0_1.length c0_1] 24 (0,0)) (by (with_reducible repeat (first | refine zz6 ?_ _ | refine zz7 ?_ | refine zz8 ?_ _));exact BK294.out) hb);have n4_:=zz31 (zz11 (g:=gb305) (o:=.cells #[.int .i64 t300,.slice Ao22 t301.length co22] 30 (0,0)) (by (with_reducible repeat (first | refine zz6 ?_ _ | refine zz7 ?_ | refine zz8 ?_ _));exact BK305.out) hb);have n5_:=zz31 (zz4 (by repeat first | exact HB.out | apply zz2 | apply zz0 | apply zz1 | refine zz3 ?_ GE294.out | refine zz3 ?_ GE305.out) hb);have n6_:=zz31 (hbox);have n7_:=zz31 ((by rw [hg];exact (zz5 (by repeat first | exact HB.out | apply zz2 | apply zz0 | apply zz1 | refine zz3 ?_ GE294.out | refine zz3 ?_ GE305.out)):w.heap.size≤gb310));have n8_:=zz31 ((by rw [hg];exact (zz5 (by repeat first | exact HB.out | apply zz2 | apply zz0 | apply zz1 | refine zz3 ?_ GE294.out | refine zz3 ?_ GE305.out)):w.heap.size≤gb310));have n9_:=zz31 ((by rw [hg];exact Nat.ne_of_lt (blk_lt (g:=gb294) (o:=.cells #[.int .i64 a0_0,.slice A0_1 l0_1.length c0_1] 24 (0,0)) (by (with_reducible repeat (first | refine zz6 ?_ _ | refine zz7 ?_ | refine zz8 ?_ _));exact BK294.out)):gb294 ≠ gb310));have n10_:=zz31 ((by rw [hg];exact Nat.ne_of_gt (blk_lt (g:=gb294) (o:=.cells #[.int .i64 a0_0,.slice A0_1 l0_1.length c0_1] 24 (0,0)) (by (with_reducible repeat (first | refine zz6 ?_ _ | refine zz7 ?_ | refine zz8 ?_ _));exact BK294.out)):gb310 ≠ gb294));have n11_:=zz31 ((by rw [hg];exact Nat.ne_of_lt (blk_lt (g:=gb305) (o:=.cells #[.int .i64 t300,.slice Ao22 t301.length co22] 30 (0,0)) (by (with_reducible repeat (first | refine zz6 ?_ _ | refine zz7 ?_ | refine zz8 ?_ _));exact BK305.out)):gb305 ≠ gb310));have n12_:=zz31 ((by rw [hg];exact Nat.ne_of_gt (blk_lt (g:=gb305) (o:=.cells #[.int .i64 t300,.slice Ao22 t301.length co22] 30 (0,0)) (by (with_reducible repeat (first | refine zz6 ?_ _ | refine zz7 ?_ | refine zz8 ?_ _));exact BK305.out)):gb310 ≠ gb305));clear HO299;clear HO303;clear HO309;clear BK294;clear BK305;clear HB;have HO299:=n0_;have HO303:=n1_;have HO309:=n2_;have BK294:=n3_;have BK305:=n4_;have HB:=n5_;have BK310:=n6_;have GW310:=n7_;have GE310:=n8_;have NB294_310:=n9_;have NB310_294:=n10_;have NB305_310:=n11_;have NB310_305:=n12_;clear n0_ n1_ n2_ n3_ n4_ n5_ n6_ n7_ n8_ n9_ n10_ n11_ n12_;clear hb hbox hg;have hnb26:=NB310_294.out;have hnc26:=NB294_310.out;have hnb27:=NB310_305.out;have hnc27:=NB305_310.out;have hcz28_0:w25.cell? ⟨gb310,0,none⟩=some (.int .i64 0):=(zz9 BK310.out 0).trans rfl;have hcz28_1:w25.cell? ⟨gb310,1,none⟩=some (.slice none 0 0):=(zz9 BK310.out 1).trans rfl;have hfz28_0:=zz10 BK310.out 0;have hfz28_1:=zz10 BK310.out 1;obtain ⟨Ao29,co29,eo29⟩:=Kd.R_slice HO309.out;subst eo29) | ((with_reducible refine gate_callee (f:=16) rfl ?_);refine goesL_ (some 29) rfl rfl Try.func16 (by kernel_rfl) rfl #[.agg #[.int .i64 t306,.slice Ao29 t307.length co29]] rfl (by (try simp only [zz26,zz27,zz28]);first | done | rfl | (simp only [zz24,zz25];rfl)) ?_;(with_reducible refine (impl_LeastParty.calls k t306 _ _ t307 t311 t312 t315 _ ?side1 ?side2 A10.out).mono ?_);(case side1=>refine (Kd.R_reads' (e:=70) (base:=w.heap.size) (ok:=fun k_=>((True∧some k_ ≠ (.slice Ao17 t297.length co17:Value).ownBlock)∧some k_ ≠ (.slice Ao22 t301.length co22:Value).ownBlock)) (n:=t307.length) (c:=co29) ?_).2.2;exact (by (with_reducible repeat (first | apply zz12 | apply zz13 | apply zz14));exact (Kd.R_mono (Kd.R_far (p:=⟨gb310,1,none⟩) (Kd.R_far (p:=⟨gb310,0,none⟩) (Kd.R_types HO309.out BK310.out (by decide)) (fun _ hk=>hk.2) (.int .i64 t306)) (fun _ hk=>hk.2) (.slice Ao29 t307.length co29)) (fun _ h_=>h_.1))));(case side2=>exact (Kd.R_reads' HO309.out).2.1);rintro e w30 ⟨v313,rfl,ho0,hb⟩;refine ⟨_,rfl,?_⟩;have n0_:=zz31 (Kd.R_elder' (by (with_reducible repeat (first | apply zz12 | apply zz13 | apply zz14));exact (Kd.R_mono (Kd.R_far (p:=⟨gb310,1,none⟩) (Kd.R_far (p:=⟨gb310,0,none⟩) (Kd.R_types HO299.out BK310.out (by decide)) (fun _ hk=>hk.2) (.int .i64 t306)) (fun _ hk=>hk.2) (.slice Ao29 t307.length co29)) (fun _ h_=>h_.1))) (Kd.R_base ho0) hb);have n1_:=zz31 (Kd.R_elder' (by (with_reducible repeat (first | apply zz12 | apply zz13 | apply zz14));exact (Kd.R_mono (Kd.R_far (p:=⟨gb310,1,none⟩) (Kd.R_far (p:=⟨gb310,0,none⟩) (Kd.R_types HO303.out BK310.out (by decide)) (fun _ hk=>hk.2) (.int .i64 t306)) (fun _ hk=>hk.2) (.slice Ao29 t307.length co29)) (fun _ h_=>h_.1))) (Kd.R_base ho0) hb);have n2_:=zz31 (Kd.R_elder' (by (with_reducible repeat (first | apply zz12 | apply zz13 | apply zz14));exact (Kd.R_mono (Kd.R_far (p:=⟨gb310,1,none⟩) (Kd.R_far (p:=⟨gb310,0,none⟩) (Kd.R_types HO309.out BK310.out (by decide)) (fun _ hk=>hk.2) (.int .i64 t306)) (fun _ hk=>hk.2) (.slice Ao29 t307.length co29)) (fun _ h_=>h_.1))) (Kd.R_base ho0) hb);have n3_:=zz31 (Kd.R_lower (Kd.R_new' (Kd.R_new' (Kd.R_new' ho0 (Kd.R_lt (by (with_reducible repeat (first | apply zz12 | apply zz13 | apply zz14));exact (Kd.R_mono (Kd.R_far (p:=⟨gb310,1,none⟩) (Kd.R_far (p:=⟨gb310,0,none⟩) (Kd.R_types HO299.out BK310.out (by decide)) (fun _ hk=>hk.2) (.int .i64 t306)) (fun _ hk=>hk.2) (.slice Ao29 t307.length co29)) (fun _ h_=>h_.1))))) (Kd.R_lt (by (with_reducible repeat (first | apply zz12 | apply zz13 | apply zz14));exact (Kd.R_mono (Kd.R_far (p:=⟨gb310,1,none⟩) (Kd.R_far (p:=⟨gb310,0,none⟩) (Kd.R_types HO303.out BK310.out (by decide)) (fun _ hk=>hk.2) (.int .i64 t306)) (fun _ hk=>hk.2) (.slice Ao29 t307.length co29)) (fun _ h_=>h_.1))))) (Kd.R_lt (by (with_reducible repeat (first | apply zz12 | apply zz13 | apply zz14));exact (Kd.R_mono (Kd.R_far (p:=⟨gb310,1,none⟩) (Kd.R_far (p:=⟨gb310,0,none⟩) (Kd.R_types HO309.out BK310.out (by decide)) (fun _ hk=>hk.2) (.int .i64 t306)) (fun _ hk=>hk.2) (.slice Ao29 t307.length co29)) (fun _ h_=>h_.1))))) (zz5 (by repeat first | exact HB.out | apply zz2 | apply zz0 | apply zz1 | refine zz3 ?_ GE294.out | refine zz3 ?_ GE305.out | refine zz3 ?_ GE310.out)));have n4_:=zz31 (zz11 (g:=gb294) (o:=.cells #[.int .i64 a0_0,.slice A0_1 l0_1.length c0_1] 24 (0,0)) (by (with_reducible repeat (first | refine zz6 ?_ _ | refine zz7 ?_ | refine zz8 ?_ _));refine blk_far ?_ NB294_310.out _;(with_reducible repeat (first | refine zz6 ?_ _ | refine zz7 ?_ | refine zz8 ?_ _));refine blk_far ?_ NB294_310.out _;(with_reducible repeat (first | refine zz6 ?_ _ | refine zz7 ?_ | refine zz8 ?_ _));exact BK294.out) hb);have n5_:=zz31 (zz11 (g:=gb305) (o:=.cells #[.int .i64 t300,.slice Ao22 t301.length co22] 30 (0,0)) (by (with_reducible repeat (first | refine zz6 ?_ _ | refine zz7 ?_ | refine zz8 ?_ _));refine blk_far ?_ NB305_310.out _;(with_reducible repeat (first | refine zz6 ?_ _ | refine zz7 ?_ | refine zz8 ?_ _));refine blk_far ?_ NB305_310.out _;(with_reducible repeat (first | refine zz6 ?_ _ | refine zz7 ?_ | refine zz8 ?_ _));exact BK305.out) hb);have n6_:=zz31 (zz11 (g:=gb310) (o:=.cells #[.int .i64 t306,.slice Ao29 t307.length co29] 30 (0,0)) (by (with_reducible repeat (first | refine zz6 ?_ _ | refine zz7 ?_ | refine zz8 ?_ _));refine blk_put (cs:=#[.int .i64 t306,.slice none 0 0]) ?_ 1 _ rfl;(with_reducible repeat (first | refine zz6 ?_ _ | refine zz7 ?_ | refine zz8 ?_ _));refine blk_put (cs:=#[.int .i64 0,.slice none 0 0]) ?_ 0 _ rfl;(with_reducible repeat (first | refine zz6 ?_ _ | refine zz7 ?_ | refine zz8 ?_ _));exact BK310.out) hb);have n7_:=zz31 (zz4 (by repeat first | exact HB.out | apply zz2 | apply zz0 | apply zz1 | refine zz3 ?_ GE294.out | refine zz3 ?_ GE305.out | refine zz3 ?_ GE310.out) hb);clear HO299;clear HO303;clear HO309;clear BK294;clear BK305;clear BK310;clear HB;have HO299:=n0_;have HO303:=n1_;have HO309:=n2_;have HO314:=n3_;have BK294:=n4_;have BK305:=n5_;have BK310:=n6_;have HB:=n7_;clear n0_ n1_ n2_ n3_ n4_ n5_ n6_ n7_;(try clear hb);(try clear hb2);(try clear hk);(try clear hi);(try clear ho0)) | ((with_reducible refine gate_dst (N:=7) rfl ?_);refine box_event ?hg (N:=7) ?hd (cs:=#[.int .i64 0,.slice none 0 0]) (t:=30) ?hr ?_;(case hd=>rfl);(case hg=>rfl);(case hr=>first | (go_simp;done) | (go_simp;rfl));intro gb316 hg w31 hbox hb;have n0_:=zz31 (Kd.R_below (by (with_reducible repeat (first | apply zz12 | apply zz13 | apply zz14));exact HO299.out) hb);have n1_:=zz31 (Kd.R_below (by (with_reducible repeat (first | apply zz12 | apply zz13 | apply zz14));exact HO303.out) hb);have n2_:=zz31 (Kd.R_below (by (with_reducible repeat (first | apply zz12 | apply zz13 | apply zz14));exact HO309.out) hb);have n3_:=zz31 (Kd.R_below (by (with_reducible repeat (first | apply zz12 | apply zz13 | apply zz14));exact HO314.out) hb);have n4_:=zz31 (zz11 (g:=gb294) (o:=.cells #[.int .i64 a0_0,.slice A0_1 l0_1.length c0_1] 24 (0,0)) (by (with_reducible repeat (first | refine zz6 ?_ _ | refine zz7 ?_ | refine zz8 ?_ _));exact BK294.out) hb);have n5_:=zz31 (zz11 (g:=gb305) (o:=.cells #[.int .i64 t300,.slice Ao22 t301.length co22] 30 (0,0)) (by (with_reducible repeat (first | refine zz6 ?_ _ | refine zz7 ?_ | refine zz8 ?_ _));exact BK305.out) hb);have n6_:=zz31 (zz11 (g:=gb310) (o:=.cells #[.int .i64 t306,.slice Ao29 t307.length co29] 30 (0,0)) (by (with_reducible repeat (first | refine zz6 ?_ _ | refine zz7 ?_ | refine zz8 ?_ _));exact BK310.out) hb);have n7_:=zz31 (zz4 (by repeat first | exact HB.out | apply zz2 | apply zz0 | apply zz1 | refine zz3 ?_ GE294.out | refine zz3 ?_ GE305.out | refine zz3 ?_ GE310.out) hb);have n8_:=zz31 (hbox);have n9_:=zz31 ((by rw [hg];exact (zz5 (by repeat first | exact HB.out | apply zz2 | apply zz0 | apply zz1 | refine zz3 ?_ GE294.out | refine zz3 ?_ GE305.out | refine zz3 ?_ GE310.out)):w.heap.size≤gb316));have n10_:=zz31 ((by rw [hg];exact (zz5 (by repeat first | exact HB.out | apply zz2 | apply zz0 | apply zz1 | refine zz3 ?_ GE294.out | refine zz3 ?_ GE305.out | refine zz3 ?_ GE310.out)):w.heap.size≤gb316));have n11_:=zz31 ((by rw [hg];exact Nat.ne_of_lt (blk_lt (g:=gb294) (o:=.cells #[.int .i64 a0_0,.slice A0_1 l0_1.length c0_1] 24 (0,0)) (by (with_reducible repeat (first | refine zz6 ?_ _ | refine zz7 ?_ | refine zz8 ?_ _));exact BK294.out)):gb294 ≠ gb316));have n12_:=zz31 ((by rw [hg];exact Nat.ne_of_gt (blk_lt (g:=gb294) (o:=.cells #[.int .i64 a0_0,.slice A0_1 l0_1.length c0_1] 24 (0,0)) (by (with_reducible repeat (first | refine zz6 ?_ _ | refine zz7 ?_ | refine zz8 ?_ _));exact BK294.out)):gb316 ≠ gb294));have n13_:=zz31 ((by rw [hg];exact Nat.ne_of_lt (blk_lt (g:=gb305) (o:=.cells #[.int .i64 t300,.slice Ao22 t301.length co22] 30 (0,0)) (by (with_reducible repeat (first | refine zz6 ?_ _ | refine zz7 ?_ | refine zz8 ?_ _));exact BK305.out)):gb305 ≠ gb316));have n14_:=zz31 ((by rw [hg];exact Nat.ne_of_gt (blk_lt (g:=gb305) (o:=.cells #[.int .i64 t300,.slice Ao22 t301.length co22] 30 (0,0)) (by (with_reducible repeat (first | refine zz6 ?_ _ | refine zz7 ?_ | refine zz8 ?_ _));exact BK305.out)):gb316 ≠ gb305));have n15_:=zz31 ((by rw [hg];exact Nat.ne_of_lt (blk_lt (g:=gb310) (o:=.cells #[.int .i64 t306,.slice Ao29 t307.length co29] 30 (0,0)) (by (with_reducible repeat (first | refine zz6 ?_ _ | refine zz7 ?_ | refine zz8 ?_ _));exact BK310.out)):gb310 ≠ gb316));have n16_:=zz31 ((by rw [hg];exact Nat.ne_of_gt (blk_lt (g:=gb310) (o:=.cells #[.int .i64 t306,.slice Ao29 t307.length co29] 30 (0,0)) (by (with_reducible repeat (first | refine zz6 ?_ _ | refine zz7 ?_ | refine zz8 ?_ _));exact BK310.out)):gb316 ≠ gb310));clear HO299;clear HO303;clear HO309;clear HO314;clear BK294;clear BK305;clear BK310;clear HB;have HO299:=n0_;have HO303:=n1_;have HO309:=n2_;have HO314:=n3_;have BK294:=n4_;have BK305:=n5_;have BK310:=n6_;have HB:=n7_;have BK316:=n8_;have GW316:=n9_;have GE316:=n10_;have NB294_316:=n11_;have NB316_294:=n12_;have NB305_316:=n13_;have NB316_305:=n14_;have NB310_316:=n15_;have NB316_310:=n16_;clear n0_ n1_ n2_ n3_ n4_ n5_ n6_ n7_ n8_ n9_ n10_ n11_ n12_ n13_ n14_ n15_ n16_;clear hb hbox hg;have hnb32:=NB316_294.out;have hnc32:=NB294_316.out;have hnb33:=NB316_305.out;have hnc33:=NB305_316.out;have hnb34:=NB316_310.out;have hnc34:=NB310_316.out;have hcz35_0:w31.cell? ⟨gb316,0,none⟩=some (.int .i64 0):=(zz9 BK316.out 0).trans rfl;have hcz35_1:w31.cell? ⟨gb316,1,none⟩=some (.slice none 0 0):=(zz9 BK316.out 1).trans rfl;have hfz35_0:=zz10 BK316.out 0;have hfz35_1:=zz10 BK316.out 1;obtain ⟨Ao36,co36,eo36⟩:=Kd.R_slice HO314.out;subst eo36))
  (try simp only [Act.put,zz21,zz22,zz23])
  go_cut [40] (fun v40 wc=>∃ (kq:Nat) (x40_10:Bool),v40=.bool x40_10∧Aside0 (laws_FnExactLeastParty.j0 kq t304 t315 x40_10 a0_0 l0_1 t300 t301 t306 t307 t311 t312=some r)∧Aside0 (kq≤k)∧Aside0 (Kd.R k70 70 wc w.heap.size (fun k_=>some k_ ≠ ((.slice Ao29 t307.length co29):Value).ownBlock∧some k_ ≠ ((.slice Ao36 t312.length co36):Value).ownBlock) (.slice Ao22 t301.length co22) t301)∧Aside0 (Kd.R k70 70 wc w.heap.size (fun k_=>some k_ ≠ ((.slice Ao22 t301.length co22):Value).ownBlock∧some k_ ≠ ((.slice Ao36 t312.length co36):Value).ownBlock) (.slice Ao29 t307.length co29) t307)∧Aside0 (Kd.R k70 70 wc w.heap.size (fun k_=>some k_ ≠ ((.slice Ao22 t301.length co22):Value).ownBlock∧some k_ ≠ ((.slice Ao29 t307.length co29):Value).ownBlock) (.slice Ao36 t312.length co36) t312)∧Aside0 (wc.heap[gb294]?=some (.cells #[.int .i64 a0_0,(.slice A0_1 l0_1.length c0_1)] 24 (0,0)))∧Aside0 (wc.heap[gb305]?=some (.cells #[.int .i64 t300,(.slice Ao22 t301.length co22)] 30 (0,0)))∧Aside0 (wc.heap[gb310]?=some (.cells #[.int .i64 t306,(.slice Ao29 t307.length co29)] 30 (0,0)))∧Aside0 (wc.heap[gb316]?=some (.cells #[.int .i64 t311,(.slice Ao36 t312.length co36)] 30 (0,0)))∧Aside0 (Below w.heap.size w wc))
  case first =>
   have H:=HC11.out
   clear HC11
   replace H:=zz30.mp H
   obtain ⟨t317,A370,H⟩:=H
   replace H:(if t317=true then (laws_FnExactLeastParty.j0 k t304 t315 (t315 != t304) a0_0 l0_1 t300 t301 t306 t307 t311 t312) else (laws_FnExactLeastParty.j0 k t304 t315 true a0_0 l0_1 t300 t301 t306 t307 t311 t312))=some r:=H
   have A37:=zz31 A370
   clear A370
   by_cases c38:t317=true
   ·subst c38
    have H1:(laws_FnExactLeastParty.j0 k t304 t315 (t315 != t304) a0_0 l0_1 t300 t301 t306 t307 t311 t312)=some r:=by rw [if_pos rfl] at H;exact H
    clear H
    have H:=H1
    clear H1
    have H':=zz31 H
    clear H
    have hnb39:=NB316_294.out
    have hnc39:=NB294_316.out
    have hnb40:=NB316_305.out
    have hnc40:=NB305_316.out
    have hnb41:=NB316_310.out
    have hnc41:=NB310_316.out
    have hcz42_0:w31.cell? ⟨gb316,0,none⟩=some (.int .i64 0):=(zz9 BK316.out 0).trans rfl
    have hcz42_1:w31.cell? ⟨gb316,1,none⟩=some (.slice none 0 0):=(zz9 BK316.out 1).trans rfl
    have hfz42_0:=zz10 BK316.out 0
    have hfz42_1:=zz10 BK316.out 1
    have hnb43:=NB305_294.out
    have hnc43:=NB294_305.out
    have hnb44:=NB305_310.out
    have hnc44:=NB310_305.out
    have hcz45_0:w31.cell? ⟨gb305,0,none⟩=some (.int .i64 t300):=(zz9 BK305.out 0).trans rfl
    have hcz45_1:w31.cell? ⟨gb305,1,none⟩=some (.slice Ao22 t301.length co22):=(zz9 BK305.out 1).trans rfl
    have hfz45_0:=zz10 BK305.out 0
    have hfz45_1:=zz10 BK305.out 1
    go_wp2_with (first | ((with_reducible refine gate_callee (f:=12) rfl ?_);refine goesL_ (some 34) rfl rfl Try.func12 (by kernel_rfl) rfl #[.agg #[.int .i64 t311,.slice Ao36 t312.length co36],.agg #[.int .i64 t300,.slice Ao22 t301.length co22]] rfl (by (try simp only [zz26,zz27,zz28]);first | done | rfl | (simp only [zz24,zz25];rfl)) ?_;(with_reducible refine (laws_eqParty.calls k t311 _ _ t312 t300 _ _ t301 true _ ?side1 ?side2 ?side3 ?side4 A37.out).mono ?_);(case side1=>refine (Kd.R_reads' (e:=70) (base:=w.heap.size) (ok:=fun k_=>(((True∧some k_ ≠ (.slice Ao17 t297.length co17:Value).ownBlock)∧some k_ ≠ (.slice Ao22 t301.length co22:Value).ownBlock)∧some k_ ≠ (.slice Ao29 t307.length co29:Value).ownBlock)) (n:=t312.length) (c:=co36) ?_).2.2;exact (by (with_reducible repeat (first | apply zz12 | apply zz13 | apply zz14));exact (Kd.R_mono (Kd.R_far (p:=⟨gb316,1,none⟩) (Kd.R_far (p:=⟨gb316,0,none⟩) (Kd.R_types HO314.out BK316.out (by decide)) (fun _ hk=>hk.2) (.int .i64 t311)) (fun _ hk=>hk.2) (.slice Ao36 t312.length co36)) (fun _ h_=>h_.1))));(case side2=>exact (Kd.R_reads' HO314.out).2.1);(case side3=>refine (Kd.R_reads' (e:=70) (base:=w.heap.size) (ok:=fun k_=>(((True∧some k_ ≠ (.slice Ao17 t297.length co17:Value).ownBlock)∧some k_ ≠ (.slice Ao29 t307.length co29:Value).ownBlock)∧some k_ ≠ (.slice Ao36 t312.length co36:Value).ownBlock)) (n:=t301.length) (c:=co22) ?_).2.2;exact (by (with_reducible repeat (first | apply zz12 | apply zz13 | apply zz14));exact (Kd.R_mono (Kd.R_far (p:=⟨gb316,1,none⟩) (Kd.R_far (p:=⟨gb316,0,none⟩) (Kd.R_types HO303.out BK316.out (by decide)) (fun _ hk=>hk.2) (.int .i64 t311)) (fun _ hk=>hk.2) (.slice Ao36 t312.length co36)) (fun _ h_=>h_.1))));(case side4=>exact (Kd.R_reads' HO303.out).2.1);rintro e w46 ⟨rfl,hb⟩;refine ⟨_,rfl,?_⟩;have n0_:=zz31 (Kd.R_below (by (with_reducible repeat (first | apply zz12 | apply zz13 | apply zz14));exact (Kd.R_mono (Kd.R_far (p:=⟨gb316,1,none⟩) (Kd.R_far (p:=⟨gb316,0,none⟩) (Kd.R_types HO299.out BK316.out (by decide)) (fun _ hk=>hk.2) (.int .i64 t311)) (fun _ hk=>hk.2) (.slice Ao36 t312.length co36)) (fun _ h_=>h_.1))) hb);have n1_:=zz31 (Kd.R_below (by (with_reducible repeat (first | apply zz12 | apply zz13 | apply zz14));exact (Kd.R_mono (Kd.R_far (p:=⟨gb316,1,none⟩) (Kd.R_far (p:=⟨gb316,0,none⟩) (Kd.R_types HO303.out BK316.out (by decide)) (fun _ hk=>hk.2) (.int .i64 t311)) (fun _ hk=>hk.2) (.slice Ao36 t312.length co36)) (fun _ h_=>h_.1))) hb);have n2_:=zz31 (Kd.R_below (by (with_reducible repeat (first | apply zz12 | apply zz13 | apply zz14));exact (Kd.R_mono (Kd.R_far (p:=⟨gb316,1,none⟩) (Kd.R_far (p:=⟨gb316,0,none⟩) (Kd.R_types HO309.out BK316.out (by decide)) (fun _ hk=>hk.2) (.int .i64 t311)) (fun _ hk=>hk.2) (.slice Ao36 t312.length co36)) (fun _ h_=>h_.1))) hb);have n3_:=zz31 (Kd.R_below (by (with_reducible repeat (first | apply zz12 | apply zz13 | apply zz14));exact (Kd.R_mono (Kd.R_far (p:=⟨gb316,1,none⟩) (Kd.R_far (p:=⟨gb316,0,none⟩) (Kd.R_types HO314.out BK316.out (by decide)) (fun _ hk=>hk.2) (.int .i64 t311)) (fun _ hk=>hk.2) (.slice Ao36 t312.length co36)) (fun _ h_=>h_.1))) hb);have n4_:=zz31 (zz11 (g:=gb294) (o:=.cells #[.int .i64 a0_0,.slice A0_1 l0_1.length c0_1] 24 (0,0)) (by (with_reducible repeat (first | refine zz6 ?_ _ | refine zz7 ?_ | refine zz8 ?_ _));refine blk_far ?_ NB294_316.out _;(with_reducible repeat (first | refine zz6 ?_ _ | refine zz7 ?_ | refine zz8 ?_ _));refine blk_far ?_ NB294_316.out _;(with_reducible repeat (first | refine zz6 ?_ _ | refine zz7 ?_ | refine zz8 ?_ _));exact BK294.out) hb);have n5_:=zz31 (zz11 (g:=gb305) (o:=.cells #[.int .i64 t300,.slice Ao22 t301.length co22] 30 (0,0)) (by (with_reducible repeat (first | refine zz6 ?_ _ | refine zz7 ?_ | refine zz8 ?_ _));refine blk_far ?_ NB305_316.out _;(with_reducible repeat (first | refine zz6 ?_ _ | refine zz7 ?_ | refine zz8 ?_ _));refine blk_far ?_ NB305_316.out _;(with_reducible repeat (first | refine zz6 ?_ _ | refine zz7 ?_ | refine zz8 ?_ _));exact BK305.out) hb);have n6_:=zz31 (zz11 (g:=gb310) (o:=.cells #[.int .i64 t306,.slice Ao29 t307.length co29] 30 (0,0)) (by (with_reducible repeat (first | refine zz6 ?_ _ | refine zz7 ?_ | refine zz8 ?_ _));refine blk_far ?_ NB310_316.out _;(with_reducible repeat (first | refine zz6 ?_ _ | refine zz7 ?_ | refine zz8 ?_ _));refine blk_far ?_ NB310_316.out _;(with_reducible repeat (first | refine zz6 ?_ _ | refine zz7 ?_ | refine zz8 ?_ _));exact BK310.out) hb);have n7_:=zz31 (zz11 (g:=gb316) (o:=.cells #[.int .i64 t311,.slice Ao36 t312.length co36] 30 (0,0)) (by (with_reducible repeat (first | refine zz6 ?_ _ | refine zz7 ?_ | refine zz8 ?_ _));refine blk_put (cs:=#[.int .i64 t311,.slice none 0 0]) ?_ 1 _ rfl;(with_reducible repeat (first | refine zz6 ?_ _ | refine zz7 ?_ | refine zz8 ?_ _));refine blk_put (cs:=#[.int .i64 0,.slice none 0 0]) ?_ 0 _ rfl;(with_reducible repeat (first | refine zz6 ?_ _ | refine zz7 ?_ | refine zz8 ?_ _));exact BK316.out) hb);have n8_:=zz31 (zz4 (by repeat first | exact HB.out | apply zz2 | apply zz0 | apply zz1 | refine zz3 ?_ GE294.out | refine zz3 ?_ GE305.out | refine zz3 ?_ GE310.out | refine zz3 ?_ GE316.out) hb);clear HO299;clear HO303;clear HO309;clear HO314;clear BK294;clear BK305;clear BK310;clear BK316;clear HB;have HO299:=n0_;have HO303:=n1_;have HO309:=n2_;have HO314:=n3_;have BK294:=n4_;have BK305:=n5_;have BK310:=n6_;have BK316:=n7_;have HB:=n8_;clear n0_ n1_ n2_ n3_ n4_ n5_ n6_ n7_ n8_;(try clear hb);(try clear hb2);(try clear hk);(try clear hi)))
    go_meet
    case rel=>exact ⟨_,((t315 != t304)),(by first | rfl | (simp;done) | (simp [*];done)),H',⟨by first | omega | exact Nat.le_refl _⟩,⟨by (with_reducible repeat (first | apply zz12 | apply zz13 | apply zz14));exact Kd.R_mono HO303.out (fun _ hk=>⟨hk.1.2,hk.2⟩)⟩,⟨by (with_reducible repeat (first | apply zz12 | apply zz13 | apply zz14));exact Kd.R_mono HO309.out (fun _ hk=>⟨hk.1.2,hk.2⟩)⟩,⟨by (with_reducible repeat (first | apply zz12 | apply zz13 | apply zz14));exact Kd.R_mono HO314.out (fun _ hk=>⟨hk.1.2,hk.2⟩)⟩,⟨by (with_reducible repeat (first | refine zz6 ?_ _ | refine zz7 ?_ | refine zz8 ?_ _));exact BK294.out⟩,⟨by (with_reducible repeat (first | refine zz6 ?_ _ | refine zz7 ?_ | refine zz8 ?_ _));exact BK305.out⟩,⟨by (with_reducible repeat (first | refine zz6 ?_ _ | refine zz7 ?_ | refine zz8 ?_ _));exact BK310.out⟩,⟨by (with_reducible repeat (first | refine zz6 ?_ _ | refine zz7 ?_ | refine zz8 ?_ _));exact BK316.out⟩,⟨by repeat first | exact HB.out | apply zz2 | apply zz0 | apply zz1 | refine zz3 ?_ GE294.out | refine zz3 ?_ GE305.out | refine zz3 ?_ GE310.out | refine zz3 ?_ GE316.out⟩⟩
   ·replace c38:=Bool.eq_false_iff.mpr c38
    subst c38
    have H1:(laws_FnExactLeastParty.j0 k t304 t315 true a0_0 l0_1 t300 t301 t306 t307 t311 t312)=some r:=by rw [if_neg (show ¬ (false=true) by decide)] at H;exact H
    clear H
    have H:=H1
    clear H1
    have H':=zz31 H
    clear H
    have hnb47:=NB316_294.out
    have hnc47:=NB294_316.out
    have hnb48:=NB316_305.out
    have hnc48:=NB305_316.out
    have hnb49:=NB316_310.out
    have hnc49:=NB310_316.out
    have hcz50_0:w31.cell? ⟨gb316,0,none⟩=some (.int .i64 0):=(zz9 BK316.out 0).trans rfl
    have hcz50_1:w31.cell? ⟨gb316,1,none⟩=some (.slice none 0 0):=(zz9 BK316.out 1).trans rfl
    have hfz50_0:=zz10 BK316.out 0
    have hfz50_1:=zz10 BK316.out 1
    have hnb51:=NB305_294.out
    have hnc51:=NB294_305.out
    have hnb52:=NB305_310.out
    have hnc52:=NB310_305.out
    have hcz53_0:w31.cell? ⟨gb305,0,none⟩=some (.int .i64 t300):=(zz9 BK305.out 0).trans rfl
    have hcz53_1:w31.cell? ⟨gb305,1,none⟩=some (.slice Ao22 t301.length co22):=(zz9 BK305.out 1).trans rfl
    have hfz53_0:=zz10 BK305.out 0
    have hfz53_1:=zz10 BK305.out 1
    go_wp2_with (first | ((with_reducible refine gate_callee (f:=12) rfl ?_);refine goesL_ (some 34) rfl rfl Try.func12 (by kernel_rfl) rfl #[.agg #[.int .i64 t311,.slice Ao36 t312.length co36],.agg #[.int .i64 t300,.slice Ao22 t301.length co22]] rfl (by (try simp only [zz26,zz27,zz28]);first | done | rfl | (simp only [zz24,zz25];rfl)) ?_;(with_reducible refine (laws_eqParty.calls k t311 _ _ t312 t300 _ _ t301 false _ ?side1 ?side2 ?side3 ?side4 A37.out).mono ?_);(case side1=>refine (Kd.R_reads' (e:=70) (base:=w.heap.size) (ok:=fun k_=>(((True∧some k_ ≠ (.slice Ao17 t297.length co17:Value).ownBlock)∧some k_ ≠ (.slice Ao22 t301.length co22:Value).ownBlock)∧some k_ ≠ (.slice Ao29 t307.length co29:Value).ownBlock)) (n:=t312.length) (c:=co36) ?_).2.2;exact (by (with_reducible repeat (first | apply zz12 | apply zz13 | apply zz14));exact (Kd.R_mono (Kd.R_far (p:=⟨gb316,1,none⟩) (Kd.R_far (p:=⟨gb316,0,none⟩) (Kd.R_types HO314.out BK316.out (by decide)) (fun _ hk=>hk.2) (.int .i64 t311)) (fun _ hk=>hk.2) (.slice Ao36 t312.length co36)) (fun _ h_=>h_.1))));(case side2=>exact (Kd.R_reads' HO314.out).2.1);(case side3=>refine (Kd.R_reads' (e:=70) (base:=w.heap.size) (ok:=fun k_=>(((True∧some k_ ≠ (.slice Ao17 t297.length co17:Value).ownBlock)∧some k_ ≠ (.slice Ao29 t307.length co29:Value).ownBlock)∧some k_ ≠ (.slice Ao36 t312.length co36:Value).ownBlock)) (n:=t301.length) (c:=co22) ?_).2.2;exact (by (with_reducible repeat (first | apply zz12 | apply zz13 | apply zz14));exact (Kd.R_mono (Kd.R_far (p:=⟨gb316,1,none⟩) (Kd.R_far (p:=⟨gb316,0,none⟩) (Kd.R_types HO303.out BK316.out (by decide)) (fun _ hk=>hk.2) (.int .i64 t311)) (fun _ hk=>hk.2) (.slice Ao36 t312.length co36)) (fun _ h_=>h_.1))));(case side4=>exact (Kd.R_reads' HO303.out).2.1);rintro e w54 ⟨rfl,hb⟩;refine ⟨_,rfl,?_⟩;have n0_:=zz31 (Kd.R_below (by (with_reducible repeat (first | apply zz12 | apply zz13 | apply zz14));exact (Kd.R_mono (Kd.R_far (p:=⟨gb316,1,none⟩) (Kd.R_far (p:=⟨gb316,0,none⟩) (Kd.R_types HO299.out BK316.out (by decide)) (fun _ hk=>hk.2) (.int .i64 t311)) (fun _ hk=>hk.2) (.slice Ao36 t312.length co36)) (fun _ h_=>h_.1))) hb);have n1_:=zz31 (Kd.R_below (by (with_reducible repeat (first | apply zz12 | apply zz13 | apply zz14));exact (Kd.R_mono (Kd.R_far (p:=⟨gb316,1,none⟩) (Kd.R_far (p:=⟨gb316,0,none⟩) (Kd.R_types HO303.out BK316.out (by decide)) (fun _ hk=>hk.2) (.int .i64 t311)) (fun _ hk=>hk.2) (.slice Ao36 t312.length co36)) (fun _ h_=>h_.1))) hb);have n2_:=zz31 (Kd.R_below (by (with_reducible repeat (first | apply zz12 | apply zz13 | apply zz14));exact (Kd.R_mono (Kd.R_far (p:=⟨gb316,1,none⟩) (Kd.R_far (p:=⟨gb316,0,none⟩) (Kd.R_types HO309.out BK316.out (by decide)) (fun _ hk=>hk.2) (.int .i64 t311)) (fun _ hk=>hk.2) (.slice Ao36 t312.length co36)) (fun _ h_=>h_.1))) hb);have n3_:=zz31 (Kd.R_below (by (with_reducible repeat (first | apply zz12 | apply zz13 | apply zz14));exact (Kd.R_mono (Kd.R_far (p:=⟨gb316,1,none⟩) (Kd.R_far (p:=⟨gb316,0,none⟩) (Kd.R_types HO314.out BK316.out (by decide)) (fun _ hk=>hk.2) (.int .i64 t311)) (fun _ hk=>hk.2) (.slice Ao36 t312.length co36)) (fun _ h_=>h_.1))) hb);have n4_:=zz31 (zz11 (g:=gb294) (o:=.cells #[.int .i64 a0_0,.slice A0_1 l0_1.length c0_1] 24 (0,0)) (by (with_reducible repeat (first | refine zz6 ?_ _ | refine zz7 ?_ | refine zz8 ?_ _));refine blk_far ?_ NB294_316.out _;(with_reducible repeat (first | refine zz6 ?_ _ | refine zz7 ?_ | refine zz8 ?_ _));refine blk_far ?_ NB294_316.out _;(with_reducible repeat (first | refine zz6 ?_ _ | refine zz7 ?_ | refine zz8 ?_ _));exact BK294.out) hb);have n5_:=zz31 (zz11 (g:=gb305) (o:=.cells #[.int .i64 t300,.slice Ao22 t301.length co22] 30 (0,0)) (by (with_reducible repeat (first | refine zz6 ?_ _ | refine zz7 ?_ | refine zz8 ?_ _));refine blk_far ?_ NB305_316.out _;(with_reducible repeat (first | refine zz6 ?_ _ | refine zz7 ?_ | refine zz8 ?_ _));refine blk_far ?_ NB305_316.out _;(with_reducible repeat (first | refine zz6 ?_ _ | refine zz7 ?_ | refine zz8 ?_ _));exact BK305.out) hb);have n6_:=zz31 (zz11 (g:=gb310) (o:=.cells #[.int .i64 t306,.slice Ao29 t307.length co29] 30 (0,0)) (by (with_reducible repeat (first | refine zz6 ?_ _ | refine zz7 ?_ | refine zz8 ?_ _));refine blk_far ?_ NB310_316.out _;(with_reducible repeat (first | refine zz6 ?_ _ | refine zz7 ?_ | refine zz8 ?_ _));refine blk_far ?_ NB310_316.out _;(with_reducible repeat (first | refine zz6 ?_ _ | refine zz7 ?_ | refine zz8 ?_ _));exact BK310.out) hb);have n7_:=zz31 (zz11 (g:=gb316) (o:=.cells #[.int .i64 t311,.slice Ao36 t312.length co36] 30 (0,0)) (by (with_reducible repeat (first | refine zz6 ?_ _ | refine zz7 ?_ | refine zz8 ?_ _));refine blk_put (cs:=#[.int .i64 t311,.slice none 0 0]) ?_ 1 _ rfl;(with_reducible repeat (first | refine zz6 ?_ _ | refine zz7 ?_ | refine zz8 ?_ _));refine blk_put (cs:=#[.int .i64 0,.slice none 0 0]) ?_ 0 _ rfl;(with_reducible repeat (first | refine zz6 ?_ _ | refine zz7 ?_ | refine zz8 ?_ _));exact BK316.out) hb);have n8_:=zz31 (zz4 (by repeat first | exact HB.out | apply zz2 | apply zz0 | apply zz1 | refine zz3 ?_ GE294.out | refine zz3 ?_ GE305.out | refine zz3 ?_ GE310.out | refine zz3 ?_ GE316.out) hb);clear HO299;clear HO303;clear HO309;clear HO314;clear BK294;clear BK305;clear BK310;clear BK316;clear HB;have HO299:=n0_;have HO303:=n1_;have HO309:=n2_;have HO314:=n3_;have BK294:=n4_;have BK305:=n5_;have BK310:=n6_;have BK316:=n7_;have HB:=n8_;clear n0_ n1_ n2_ n3_ n4_ n5_ n6_ n7_ n8_;(try clear hb);(try clear hb2);(try clear hk);(try clear hi)))
    go_meet
    case rel=>exact ⟨_,(true),(by first | rfl | (simp;done) | (simp [*];done)),H',⟨by first | omega | exact Nat.le_refl _⟩,⟨by (with_reducible repeat (first | apply zz12 | apply zz13 | apply zz14));exact Kd.R_mono HO303.out (fun _ hk=>⟨hk.1.2,hk.2⟩)⟩,⟨by (with_reducible repeat (first | apply zz12 | apply zz13 | apply zz14));exact Kd.R_mono HO309.out (fun _ hk=>⟨hk.1.2,hk.2⟩)⟩,⟨by (with_reducible repeat (first | apply zz12 | apply zz13 | apply zz14));exact Kd.R_mono HO314.out (fun _ hk=>⟨hk.1.2,hk.2⟩)⟩,⟨by (with_reducible repeat (first | refine zz6 ?_ _ | refine zz7 ?_ | refine zz8 ?_ _));exact BK294.out⟩,⟨by (with_reducible repeat (first | refine zz6 ?_ _ | refine zz7 ?_ | refine zz8 ?_ _));exact BK305.out⟩,⟨by (with_reducible repeat (first | refine zz6 ?_ _ | refine zz7 ?_ | refine zz8 ?_ _));exact BK310.out⟩,⟨by (with_reducible repeat (first | refine zz6 ?_ _ | refine zz7 ?_ | refine zz8 ?_ _));exact BK316.out⟩,⟨by repeat first | exact HB.out | apply zz2 | apply zz0 | apply zz1 | refine zz3 ?_ GE294.out | refine zz3 ?_ GE305.out | refine zz3 ?_ GE310.out | refine zz3 ?_ GE316.out⟩⟩
  case rest =>
   clear HC11
   try clear c1
   try clear c2
   try clear p2
   try clear c3
   try clear c3b0
   try clear c4
   try clear c5
   try clear c8
   try clear c10
   try clear c12
   try clear c15
   try clear c16
   try clear c20
   try clear c26
   try clear c27
   try clear c32
   try clear c33
   try clear c34
   try clear c38
   try clear c39
   try clear c40
   try clear c41
   try clear c43
   try clear c44
   try clear c47
   try clear c48
   try clear c49
   try clear c51
   try clear c52
   try clear hcz13_0
   try clear hcz13_1
   try clear hcz15_0
   try clear hcz15_1
   try clear hcz21_0
   try clear hcz21_1
   try clear hcz23_0
   try clear hcz23_1
   try clear hcz28_0
   try clear hcz28_1
   try clear hcz35_0
   try clear hcz35_1
   try clear hcz42_0
   try clear hcz42_1
   try clear hcz45_0
   try clear hcz45_1
   try clear hcz50_0
   try clear hcz50_1
   try clear hcz53_0
   try clear hcz53_1
   try clear hcz5_0
   try clear hcz5_1
   try clear hfz13_0
   try clear hfz13_1
   try clear hfz15_0
   try clear hfz15_1
   try clear hfz21_0
   try clear hfz21_1
   try clear hfz23_0
   try clear hfz23_1
   try clear hfz28_0
   try clear hfz28_1
   try clear hfz35_0
   try clear hfz35_1
   try clear hfz42_0
   try clear hfz42_1
   try clear hfz45_0
   try clear hfz45_1
   try clear hfz50_0
   try clear hfz50_1
   try clear hfz53_0
   try clear hfz53_1
   try clear hfz5_0
   try clear hfz5_1
   obtain ⟨kq,x40_10,rfl,HA,HJ10,HO_306001,HO_311001,HO_317001,BK294,BK305,BK310,BK316,HB⟩:=hcut
   cases kq with
   | zero=>exact absurd HA.out (by simp [laws_FnExactLeastParty.j0])
   | succ kj10 =>
    have H:=HA.out
    clear HA
    simp only [laws_FnExactLeastParty.j0] at H
    by_cases c55:x40_10=true
    ·subst c55
     have H1:(some false)=some r:=by rw [if_pos rfl] at H;exact H
     clear H
     have H:=H1
     clear H1
     obtain rfl:=Option.some.inj H
     go_wp2
     go_ret
     exact ⟨by first | rfl | (simp [errW_none,errW_some] <;> rfl) | (simp [*,errW_none,errW_some] <;> rfl),by repeat first | exact HB.out | apply zz2 | apply zz0 | apply zz1 | refine zz3 ?_ GE294.out | refine zz3 ?_ GE305.out | refine zz3 ?_ GE310.out | refine zz3 ?_ GE316.out⟩
    ·replace c55:=Bool.eq_false_iff.mpr c55
     subst c55
     have H1:((laws_toParty.f kj10 a0_0 l0_1).bind fun bt318=>((laws_eqParty.f kj10 t306 t307 bt318.1 bt318.2).bind fun t322=>(if t322=true then ((laws_markParty.f kj10 t306 t307 1).bind fun bt323=>(if bt323.1 < 0 then (laws_FnExactLeastParty.j1 kj10 t304 true a0_0 l0_1 t300 t301 t311 t312) else ((laws_eqParty.f kj10 t311 t312 t300 t301).bind fun t325=>(if t325=true then (laws_FnExactLeastParty.j1 kj10 t304 (t315 != t304) a0_0 l0_1 t300 t301 t311 t312) else (laws_FnExactLeastParty.j1 kj10 t304 true a0_0 l0_1 t300 t301 t311 t312))))) else (some false))))=some r:=by rw [if_neg (show ¬ (false=true) by decide)] at H;exact H
     clear H
     have H:=H1
     clear H1
     replace H:=zz30.mp H
     obtain ⟨⟨t318,t319⟩,A560,H⟩:=H
     replace H:((laws_eqParty.f kj10 t306 t307 t318 t319).bind fun t322=>(if t322=true then ((laws_markParty.f kj10 t306 t307 1).bind fun bt323=>(if bt323.1 < 0 then (laws_FnExactLeastParty.j1 kj10 t304 true a0_0 l0_1 t300 t301 t311 t312) else ((laws_eqParty.f kj10 t311 t312 t300 t301).bind fun t325=>(if t325=true then (laws_FnExactLeastParty.j1 kj10 t304 (t315 != t304) a0_0 l0_1 t300 t301 t311 t312) else (laws_FnExactLeastParty.j1 kj10 t304 true a0_0 l0_1 t300 t301 t311 t312))))) else (some false)))=some r:=H
     have A56:=zz31 A560
     clear A560
     replace H:=zz30.mp H
     obtain ⟨t322,A570,H⟩:=H
     replace H:(if t322=true then ((laws_markParty.f kj10 t306 t307 1).bind fun bt323=>(if bt323.1 < 0 then (laws_FnExactLeastParty.j1 kj10 t304 true a0_0 l0_1 t300 t301 t311 t312) else ((laws_eqParty.f kj10 t311 t312 t300 t301).bind fun t325=>(if t325=true then (laws_FnExactLeastParty.j1 kj10 t304 (t315 != t304) a0_0 l0_1 t300 t301 t311 t312) else (laws_FnExactLeastParty.j1 kj10 t304 true a0_0 l0_1 t300 t301 t311 t312))))) else (some false))=some r:=H
     have A57:=zz31 A570
     clear A570
     by_cases c58:t322=true
     ·subst c58
      have H1:((laws_markParty.f kj10 t306 t307 1).bind fun bt323=>(if bt323.1 < 0 then (laws_FnExactLeastParty.j1 kj10 t304 true a0_0 l0_1 t300 t301 t311 t312) else ((laws_eqParty.f kj10 t311 t312 t300 t301).bind fun t325=>(if t325=true then (laws_FnExactLeastParty.j1 kj10 t304 (t315 != t304) a0_0 l0_1 t300 t301 t311 t312) else (laws_FnExactLeastParty.j1 kj10 t304 true a0_0 l0_1 t300 t301 t311 t312)))))=some r:=by rw [if_pos rfl] at H;exact H
      clear H
      have H:=H1
      clear H1
      replace H:=zz30.mp H
      obtain ⟨⟨t323,t324⟩,A590,H⟩:=H
      replace H:(if t323 < 0 then (laws_FnExactLeastParty.j1 kj10 t304 true a0_0 l0_1 t300 t301 t311 t312) else ((laws_eqParty.f kj10 t311 t312 t300 t301).bind fun t325=>(if t325=true then (laws_FnExactLeastParty.j1 kj10 t304 (t315 != t304) a0_0 l0_1 t300 t301 t311 t312) else (laws_FnExactLeastParty.j1 kj10 t304 true a0_0 l0_1 t300 t301 t311 t312))))=some r:=H
      have A59:=zz31 A590
      clear A590
      have HC60:=zz31 H
      clear H
      try go_wp2
      have n0_:=zz31 (zz14 HO_306001.out)
      have n1_:=zz31 (zz14 HO_311001.out)
      have n2_:=zz31 (zz14 HO_317001.out)
      have n3_:=zz31 (zz7 BK294.out)
      have n4_:=zz31 (zz7 BK305.out)
      have n5_:=zz31 (zz7 BK310.out)
      have n6_:=zz31 (zz7 BK316.out)
      have n7_:=zz31 (zz1 HB.out)
      clear HO_306001
      clear HO_311001
      clear HO_317001
      clear BK294
      clear BK305
      clear BK310
      clear BK316
      clear HB
      have HO_306001:=n0_
      have HO_311001:=n1_
      have HO_317001:=n2_
      have BK294:=n3_
      have BK305:=n4_
      have BK310:=n5_
      have BK316:=n6_
      have HB:=n7_
      clear n0_ n1_ n2_ n3_ n4_ n5_ n6_ n7_
      refine start_ (n:=5) (S:=fun w'=>w'.cell? ⟨gb310,0,none⟩=some (.int .i64 t306)∧w'.cell? ⟨gb310,1,none⟩=some (.slice Ao29 t307.length co29)∧w'.cell? ⟨gb294,0,none⟩=some (.int .i64 a0_0)∧w'.cell? ⟨gb294,1,none⟩=some (.slice A0_1 l0_1.length c0_1)) (ds:=[]) #[F,F,F,F,F] (by kernel_rfl) rfl rfl ⟨(zz9 BK310.out 0).trans rfl,(zz9 BK310.out 1).trans rfl,(zz9 BK294.out 0).trans rfl,(zz9 BK294.out 1).trans rfl⟩ (fun hHeld=>?_)
      generalize wc.drew=w61 at HO_306001 HO_311001 HO_317001 BK294 BK305 BK310 BK316 HB hHeld ⊢
      refine take_ (i:=0) (N:=some 41) (v:=?_) (a':=?_) #[T,F,F,F,F] rfl rfl (by kernel_rfl) (fun _ _ _ h=>h) (Or.inl ⟨by rfl,?_⟩) hHeld ?_ ?_
      rotate_left
      ·rintro w' ⟨s0,s1,s2,s3⟩
       go_simp
       with_reducible rfl
      rotate_left
      ·simp only [Act.put,zz21,zz22,zz23,i64_w,i32_w]
       rfl
      refine take_ (i:=1) (N:=some 42) (v:=?_) (a':=?_) #[T,T,F,F,F] rfl rfl (by kernel_rfl) (fun _ _ _ h=>h) (Or.inl ⟨by rfl,?_⟩) hHeld ?_ ?_
      rotate_left
      ·rintro w' ⟨s0,s1,s2,s3⟩
       go_simp
       with_reducible rfl
      rotate_left
      ·simp only [Act.put,zz21,zz22,zz23,i64_w,i32_w]
       rfl
      refine one_ (i:=2) (N:=some 43) #[T,T,T,F,F] rfl rfl (by kernel_rfl) (by decide) (fun K hK=>?_)
      refine goes_ Try.func10 (by kernel_rfl) rfl #[.agg #[.int .i64 a0_0,.slice A0_1 l0_1.length c0_1]] (by rfl) rfl rfl (by (try simp only [zz26,zz27,zz28]);first | done | rfl | (simp only [zz24,zz25];rfl)) ?_
      with_reducible refine (laws_toParty.calls kj10 a0_0 _ _ l0_1 t318 t319 _ ?side1 ?side2 A56.out).mono ?_
      (case side1=>repeat (first | exact (Kd.C_below HR0_1.out HB.out) | (with_reducible refine zz18 ?_ _) | (with_reducible refine zz19 ?_ _) | (with_reducible refine zz20 ?_)))
      (case side2=>exact HC0_1.out)
      rintro e w62 ⟨v320,rfl,ho0,hb⟩
      refine ⟨_,rfl,?_⟩
      have n0_:=zz31 (Kd.R_elder' (by (with_reducible repeat (first | apply zz12 | apply zz13 | apply zz14));exact HO_306001.out) (Kd.R_base ho0) hb)
      have n1_:=zz31 (Kd.R_elder' (by (with_reducible repeat (first | apply zz12 | apply zz13 | apply zz14));exact HO_311001.out) (Kd.R_base ho0) hb)
      have n2_:=zz31 (Kd.R_elder' (by (with_reducible repeat (first | apply zz12 | apply zz13 | apply zz14));exact HO_317001.out) (Kd.R_base ho0) hb)
      have n3_:=zz31 (Kd.R_lower (Kd.R_new' (Kd.R_new' (Kd.R_new' ho0 (Kd.R_lt (by (with_reducible repeat (first | apply zz12 | apply zz13 | apply zz14));exact HO_306001.out))) (Kd.R_lt (by (with_reducible repeat (first | apply zz12 | apply zz13 | apply zz14));exact HO_311001.out))) (Kd.R_lt (by (with_reducible repeat (first | apply zz12 | apply zz13 | apply zz14));exact HO_317001.out))) (zz5 (by repeat first | exact HB.out | apply zz2 | apply zz0 | apply zz1 | refine zz3 ?_ GE294.out | refine zz3 ?_ GE305.out | refine zz3 ?_ GE310.out | refine zz3 ?_ GE316.out)))
      have n4_:=zz31 (zz11 (g:=gb294) (o:=.cells #[.int .i64 a0_0,.slice A0_1 l0_1.length c0_1] 24 (0,0)) (by (with_reducible repeat (first | refine zz6 ?_ _ | refine zz7 ?_ | refine zz8 ?_ _));exact BK294.out) hb)
      have n5_:=zz31 (zz11 (g:=gb305) (o:=.cells #[.int .i64 t300,.slice Ao22 t301.length co22] 30 (0,0)) (by (with_reducible repeat (first | refine zz6 ?_ _ | refine zz7 ?_ | refine zz8 ?_ _));exact BK305.out) hb)
      have n6_:=zz31 (zz11 (g:=gb310) (o:=.cells #[.int .i64 t306,.slice Ao29 t307.length co29] 30 (0,0)) (by (with_reducible repeat (first | refine zz6 ?_ _ | refine zz7 ?_ | refine zz8 ?_ _));exact BK310.out) hb)
      have n7_:=zz31 (zz11 (g:=gb316) (o:=.cells #[.int .i64 t311,.slice Ao36 t312.length co36] 30 (0,0)) (by (with_reducible repeat (first | refine zz6 ?_ _ | refine zz7 ?_ | refine zz8 ?_ _));exact BK316.out) hb)
      have n8_:=zz31 (zz4 (by repeat first | exact HB.out | apply zz2 | apply zz0 | apply zz1 | refine zz3 ?_ GE294.out | refine zz3 ?_ GE305.out | refine zz3 ?_ GE310.out | refine zz3 ?_ GE316.out) hb)
      clear HO_306001
      clear HO_311001
      clear HO_317001
      clear BK294
      clear BK305
      clear BK310
      clear BK316
      clear HB
      have HO_306001:=n0_
      have HO_311001:=n1_
      have HO_317001:=n2_
      have HO321:=n3_
      have BK294:=n4_
      have BK305:=n5_
      have BK310:=n6_
      have BK316:=n7_
      have HB:=n8_
      clear n0_ n1_ n2_ n3_ n4_ n5_ n6_ n7_ n8_
      (try clear hb)
      (try clear hb2)
      (try clear hk)
      (try clear hi)
      (try clear ho0)
      obtain ⟨Ao63,co63,eo63⟩:=Kd.R_slice HO321.out
      (first | subst eo63 | (injection eo63 with f1_ f2_ f3_;have f4_:=f1_.symm;have f5_:=f3_.symm;clear f1_ f2_ f3_;subst f4_;subst f5_))
      refine hK.out _ _ ⟨(zz9 BK310.out 0).trans rfl,(zz9 BK310.out 1).trans rfl,(zz9 BK294.out 0).trans rfl,(zz9 BK294.out 1).trans rfl⟩ (fun hHeld=>?_)
      clear hK K
      refine norm_ (a':=?_) ?_ ?_
      rotate_left
      ·show Act.put _ (some 43) _=_
       simp only [Act.put,zz21,zz22,zz23,i64_w,i32_w]
       rfl
      refine one_ (i:=3) (N:=some 44) #[T,T,T,T,F] rfl rfl (by kernel_rfl) (by decide) (fun K hK=>?_)
      refine goes_ Try.func12 (by kernel_rfl) rfl #[.agg #[.int .i64 t306,.slice Ao29 t307.length co29],.agg #[.int .i64 t318,.slice Ao63 t319.length co63]] (by rfl) rfl rfl (by (try simp only [zz26,zz27,zz28]);first | done | rfl | (simp only [zz24,zz25];rfl)) ?_
      with_reducible refine (laws_eqParty.calls kj10 t306 _ _ t307 t318 _ _ t319 true _ ?side1 ?side2 ?side3 ?side4 A57.out).mono ?_
      (case side1=>repeat (first | exact (Kd.R_reads' HO_311001.out).2.2 | (with_reducible refine zz18 ?_ _) | (with_reducible refine zz19 ?_ _) | (with_reducible refine zz20 ?_)))
      (case side2=>exact (Kd.R_reads' HO_311001.out).2.1)
      (case side3=>repeat (first | exact (Kd.R_reads' HO321.out).2.2 | (with_reducible refine zz18 ?_ _) | (with_reducible refine zz19 ?_ _) | (with_reducible refine zz20 ?_)))
      (case side4=>exact (Kd.R_reads' HO321.out).2.1)
      rintro e w64 ⟨rfl,hb⟩
      refine ⟨_,rfl,?_⟩
      have n0_:=zz31 (Kd.R_below (by (with_reducible repeat (first | apply zz12 | apply zz13 | apply zz14));exact HO_306001.out) hb)
      have n1_:=zz31 (Kd.R_below (by (with_reducible repeat (first | apply zz12 | apply zz13 | apply zz14));exact HO_311001.out) hb)
      have n2_:=zz31 (Kd.R_below (by (with_reducible repeat (first | apply zz12 | apply zz13 | apply zz14));exact HO_317001.out) hb)
      have n3_:=zz31 (Kd.R_below (by (with_reducible repeat (first | apply zz12 | apply zz13 | apply zz14));exact HO321.out) hb)
      have n4_:=zz31 (zz11 (g:=gb294) (o:=.cells #[.int .i64 a0_0,.slice A0_1 l0_1.length c0_1] 24 (0,0)) (by (with_reducible repeat (first | refine zz6 ?_ _ | refine zz7 ?_ | refine zz8 ?_ _));exact BK294.out) hb)
      have n5_:=zz31 (zz11 (g:=gb305) (o:=.cells #[.int .i64 t300,.slice Ao22 t301.length co22] 30 (0,0)) (by (with_reducible repeat (first | refine zz6 ?_ _ | refine zz7 ?_ | refine zz8 ?_ _));exact BK305.out) hb)
      have n6_:=zz31 (zz11 (g:=gb310) (o:=.cells #[.int .i64 t306,.slice Ao29 t307.length co29] 30 (0,0)) (by (with_reducible repeat (first | refine zz6 ?_ _ | refine zz7 ?_ | refine zz8 ?_ _));exact BK310.out) hb)
      have n7_:=zz31 (zz11 (g:=gb316) (o:=.cells #[.int .i64 t311,.slice Ao36 t312.length co36] 30 (0,0)) (by (with_reducible repeat (first | refine zz6 ?_ _ | refine zz7 ?_ | refine zz8 ?_ _));exact BK316.out) hb)
      have n8_:=zz31 (zz4 (by repeat first | exact HB.out | apply zz2 | apply zz0 | apply zz1 | refine zz3 ?_ GE294.out | refine zz3 ?_ GE305.out | refine zz3 ?_ GE310.out | refine zz3 ?_ GE316.out) hb)
      clear HO_306001
      clear HO_311001
      clear HO_317001
      clear HO321
      clear BK294
      clear BK305
      clear BK310
      clear BK316
      clear HB
      have HO_306001:=n0_
      have HO_311001:=n1_
      have HO_317001:=n2_
      have HO321:=n3_
      have BK294:=n4_
      have BK305:=n5_
      have BK310:=n6_
      have BK316:=n7_
      have HB:=n8_
      clear n0_ n1_ n2_ n3_ n4_ n5_ n6_ n7_ n8_
      (try clear hb)
      (try clear hb2)
      (try clear hk)
      (try clear hi)
      refine hK.out _ _ ⟨(zz9 BK310.out 0).trans rfl,(zz9 BK310.out 1).trans rfl,(zz9 BK294.out 0).trans rfl,(zz9 BK294.out 1).trans rfl⟩ (fun hHeld=>?_)
      clear hK K
      refine norm_ (a':=?_) ?_ ?_
      rotate_left
      ·show Act.put _ (some 44) _=_
       simp only [Act.put,zz21,zz22,zz23,i64_w,i32_w]
       rfl
      refine pure_ (i:=4) (N:=some 45) (v:=?_) (a':=?_) #[T,T,T,T,T] rfl rfl (by kernel_rfl) (fun _ _ _ h=>h) (Or.inl ⟨by rfl,?_⟩) ?_ ?_
      rotate_left
      ·intro w'
       go_simp
       with_reducible rfl
      rotate_left
      ·simp only [Act.put,zz21,zz22,zz23,i64_w,i32_w]
       rfl
      refine done_ (by kernel_rfl) ?_
      have hnb65:=NB310_294.out
      have hnc65:=NB294_310.out
      have hnb66:=NB310_305.out
      have hnc66:=NB305_310.out
      have hnb67:=NB310_316.out
      have hnc67:=NB316_310.out
      have hcz68_0:w64.cell? ⟨gb310,0,none⟩=some (.int .i64 t306):=(zz9 BK310.out 0).trans rfl
      have hcz68_1:w64.cell? ⟨gb310,1,none⟩=some (.slice Ao29 t307.length co29):=(zz9 BK310.out 1).trans rfl
      have hfz68_0:=zz10 BK310.out 0
      have hfz68_1:=zz10 BK310.out 1
      go_upto_region 14 with (first | ((with_reducible refine gate_callee (f:=17) rfl ?_);refine goesL_ (some 48) rfl rfl Try.func17 (by kernel_rfl) rfl #[.agg #[.int .i64 t306,.slice Ao29 t307.length co29],.int .i64 1] rfl (by (try simp only [zz26,zz27,zz28]);first | done | rfl | (simp only [zz24,zz25];rfl)) ?_;(with_reducible refine (laws_markParty.calls kj10 t306 (fun k_=>some k_=(.slice Ao29 t307.length co29:Value).ownBlock) (.slice Ao29 t307.length co29) t307 1 t323 t324 w _ ?side1 ?side2 A59.out).mono ?_);(case side1=>repeat first | exact HB.out | apply zz2 | apply zz0 | apply zz1 | refine zz3 ?_ GE294.out | refine zz3 ?_ GE305.out | refine zz3 ?_ GE310.out | refine zz3 ?_ GE316.out);(case side2=>exact Kd.R_tight rfl HO_311001.out);rintro e w69 ⟨rfl,hy0,hb,hkp⟩;refine ⟨_,rfl,?_⟩;have n0_:=zz31 (Kd.R_mono (ok':=fun k_=>some k_ ≠ (.slice Ao29 t307.length co29:Value).ownBlock∧some k_ ≠ (.slice Ao36 t312.length co36:Value).ownBlock∧some k_ ≠ (.slice Ao63 t319.length co63:Value).ownBlock) (Kd.R_keptB (HO_306001.out) hkp (fun k_ hk_ hs_=>(hk_.1.1) hs_)) (fun k_ hk_=>⟨hk_.1.1.1,hk_.1.1.2,hk_.1.2⟩));have n1_:=zz31 (Kd.R_reok rfl hy0 (fun k_ e_=>HO_311001.out.1 k_ e_));have n2_:=zz31 (Kd.R_mono (ok':=fun k_=>some k_ ≠ (.slice Ao22 t301.length co22:Value).ownBlock∧some k_ ≠ (.slice Ao29 t307.length co29:Value).ownBlock∧some k_ ≠ (.slice Ao63 t319.length co63:Value).ownBlock) (Kd.R_keptB (HO_317001.out) hkp (fun k_ hk_ hs_=>(hk_.1.2) hs_)) (fun k_ hk_=>⟨hk_.1.1.1,hk_.1.1.2,hk_.1.2⟩));(first | have n3_:=zz31 (blk_kept BK294.out hkp (fun hs_=>(fun e_=>(Kd.R_ne HO_311001.out BK294.out (by decide)) e_) hs_)) | have n3_:=zz31 (blk_kept (by (with_reducible repeat (first | refine zz6 ?_ _ | refine zz7 ?_ | refine zz8 ?_ _));exact BK294.out) hkp (fun hs_=>(fun e_=>(Kd.R_ne HO_311001.out BK294.out (by decide)) e_) hs_)));(first | have n4_:=zz31 (blk_kept BK305.out hkp (fun hs_=>(fun e_=>(Kd.R_ne HO_311001.out BK305.out (by decide)) e_) hs_)) | have n4_:=zz31 (blk_kept (by (with_reducible repeat (first | refine zz6 ?_ _ | refine zz7 ?_ | refine zz8 ?_ _));exact BK305.out) hkp (fun hs_=>(fun e_=>(Kd.R_ne HO_311001.out BK305.out (by decide)) e_) hs_)));(first | have n5_:=zz31 (blk_kept BK310.out hkp (fun hs_=>(fun e_=>(Kd.R_ne HO_311001.out BK310.out (by decide)) e_) hs_)) | have n5_:=zz31 (blk_kept (by (with_reducible repeat (first | refine zz6 ?_ _ | refine zz7 ?_ | refine zz8 ?_ _));exact BK310.out) hkp (fun hs_=>(fun e_=>(Kd.R_ne HO_311001.out BK310.out (by decide)) e_) hs_)));(first | have n6_:=zz31 (blk_kept BK316.out hkp (fun hs_=>(fun e_=>(Kd.R_ne HO_311001.out BK316.out (by decide)) e_) hs_)) | have n6_:=zz31 (blk_kept (by (with_reducible repeat (first | refine zz6 ?_ _ | refine zz7 ?_ | refine zz8 ?_ _));exact BK316.out) hkp (fun hs_=>(fun e_=>(Kd.R_ne HO_311001.out BK316.out (by decide)) e_) hs_)));have n7_:=zz31 (Kd.R_mono (ok':=fun k_=>some k_ ≠ (.slice Ao22 t301.length co22:Value).ownBlock∧some k_ ≠ (.slice Ao29 t307.length co29:Value).ownBlock∧some k_ ≠ (.slice Ao36 t312.length co36:Value).ownBlock) (Kd.R_keptB (HO321.out) hkp (fun k_ hk_ hs_=>(hk_.1.2) hs_)) (fun k_ hk_=>⟨hk_.1.1.1.2,hk_.1.1.2,hk_.1.2⟩));have n8_:=zz31 (hb);clear HO_306001;clear HO_311001;clear HO_317001;clear BK294;clear BK305;clear BK310;clear BK316;clear HO321;clear HB;have HO_306001:=n0_;have HO_311001:=n1_;have HO_317001:=n2_;have BK294:=n3_;have BK305:=n4_;have BK310:=n5_;have BK316:=n6_;have HO321:=n7_;have HB:=n8_;clear n0_ n1_ n2_ n3_ n4_ n5_ n6_ n7_ n8_;(try clear hb);(try clear hkp);(try clear hy0)))
      (try simp only [Act.put,zz21,zz22,zz23])
      go_cut [61] (fun v61 wc=>∃ (kq:Nat) (x61_59:Bool),v61=.bool x61_59∧Aside0 (laws_FnExactLeastParty.j1 kq t304 x61_59 a0_0 l0_1 t300 t301 t311 t312=some r)∧Aside0 (kq≤kj10)∧Aside0 (Kd.R k70 70 wc w.heap.size (fun k_=>some k_ ≠ ((.slice Ao29 t307.length co29):Value).ownBlock∧some k_ ≠ ((.slice Ao36 t312.length co36):Value).ownBlock) (.slice Ao22 t301.length co22) t301)∧Aside0 (Kd.R k70 70 wc w.heap.size (fun k_=>some k_ ≠ ((.slice Ao22 t301.length co22):Value).ownBlock∧some k_ ≠ ((.slice Ao36 t312.length co36):Value).ownBlock) (.slice Ao29 t307.length co29) t324)∧Aside0 (Kd.R k70 70 wc w.heap.size (fun k_=>some k_ ≠ ((.slice Ao22 t301.length co22):Value).ownBlock∧some k_ ≠ ((.slice Ao29 t307.length co29):Value).ownBlock) (.slice Ao36 t312.length co36) t312)∧Aside0 (wc.heap[gb294]?=some (.cells #[.int .i64 a0_0,(.slice A0_1 l0_1.length c0_1)] 24 (0,0)))∧Aside0 (wc.heap[gb305]?=some (.cells #[.int .i64 t300,(.slice Ao22 t301.length co22)] 30 (0,0)))∧Aside0 (wc.heap[gb310]?=some (.cells #[.int .i64 t306,(.slice Ao29 t307.length co29)] 30 (0,0)))∧Aside0 (wc.heap[gb316]?=some (.cells #[.int .i64 t311,(.slice Ao36 t312.length co36)] 30 (0,0)))∧Aside0 (Below w.heap.size w wc))
      case first =>
       have H:=HC60.out
       clear HC60
       by_cases c70:t323 < 0
       ·rw [if_pos c70] at H
        have c70b0:decide (t323 < 0)=true:=decide_eq_true c70
        clear c70
        (first | rw [c70b0] | (simp only [i64_w,i32_w];rw [c70b0]) | skip)
        have H':=zz31 H
        clear H
        go_wp2
        go_meet
        case rel=>exact ⟨_,(true),(by first | rfl | (simp;done) | (simp [*];done)),H',⟨by have:=HJ10.out;first | omega | exact Nat.le_refl _⟩,⟨by (with_reducible repeat (first | apply zz12 | apply zz13 | apply zz14));exact Kd.R_mono HO_306001.out (fun _ hk=>⟨hk.1,hk.2.1⟩)⟩,⟨by (with_reducible repeat (first | apply zz12 | apply zz13 | apply zz14));exact Kd.R_mono HO_311001.out (fun _ hk=>⟨hk.1.1,hk.1.2⟩)⟩,⟨by (with_reducible repeat (first | apply zz12 | apply zz13 | apply zz14));exact Kd.R_mono HO_317001.out (fun _ hk=>⟨hk.1,hk.2.1⟩)⟩,⟨by (with_reducible repeat (first | refine zz6 ?_ _ | refine zz7 ?_ | refine zz8 ?_ _));exact BK294.out⟩,⟨by (with_reducible repeat (first | refine zz6 ?_ _ | refine zz7 ?_ | refine zz8 ?_ _));exact BK305.out⟩,⟨by (with_reducible repeat (first | refine zz6 ?_ _ | refine zz7 ?_ | refine zz8 ?_ _));exact BK310.out⟩,⟨by (with_reducible repeat (first | refine zz6 ?_ _ | refine zz7 ?_ | refine zz8 ?_ _));exact BK316.out⟩,⟨by repeat first | exact HB.out | apply zz2 | apply zz0 | apply zz1 | refine zz3 ?_ GE294.out | refine zz3 ?_ GE305.out | refine zz3 ?_ GE310.out | refine zz3 ?_ GE316.out⟩⟩
       ·rw [if_neg c70] at H
        have c70b0:decide (t323 < 0)=false:=decide_eq_false c70
        clear c70
        (first | rw [c70b0] | (simp only [i64_w,i32_w];rw [c70b0]) | skip)
        replace H:=zz30.mp H
        obtain ⟨t325,A710,H⟩:=H
        replace H:(if t325=true then (laws_FnExactLeastParty.j1 kj10 t304 (t315 != t304) a0_0 l0_1 t300 t301 t311 t312) else (laws_FnExactLeastParty.j1 kj10 t304 true a0_0 l0_1 t300 t301 t311 t312))=some r:=H
        have A71:=zz31 A710
        clear A710
        by_cases c72:t325=true
        ·subst c72
         have H1:(laws_FnExactLeastParty.j1 kj10 t304 (t315 != t304) a0_0 l0_1 t300 t301 t311 t312)=some r:=by rw [if_pos rfl] at H;exact H
         clear H
         have H:=H1
         clear H1
         have H':=zz31 H
         clear H
         have hnb73:=NB316_294.out
         have hnc73:=NB294_316.out
         have hnb74:=NB316_305.out
         have hnc74:=NB305_316.out
         have hnb75:=NB316_310.out
         have hnc75:=NB310_316.out
         have hcz76_0:w69.cell? ⟨gb316,0,none⟩=some (.int .i64 t311):=(zz9 BK316.out 0).trans rfl
         have hcz76_1:w69.cell? ⟨gb316,1,none⟩=some (.slice Ao36 t312.length co36):=(zz9 BK316.out 1).trans rfl
         have hfz76_0:=zz10 BK316.out 0
         have hfz76_1:=zz10 BK316.out 1
         have hnb77:=NB305_294.out
         have hnc77:=NB294_305.out
         have hnb78:=NB305_310.out
         have hnc78:=NB310_305.out
         have hcz79_0:w69.cell? ⟨gb305,0,none⟩=some (.int .i64 t300):=(zz9 BK305.out 0).trans rfl
         have hcz79_1:w69.cell? ⟨gb305,1,none⟩=some (.slice Ao22 t301.length co22):=(zz9 BK305.out 1).trans rfl
         have hfz79_0:=zz10 BK305.out 0
         have hfz79_1:=zz10 BK305.out 1
         go_wp2_with (first | (go_at_call 12;(with_reducible refine (laws_eqParty.calls kj10 t311 _ _ t312 t300 _ _ t301 true _ ?side1 ?side2 ?side3 ?side4 A71.out).mono ?_);(case side1=>repeat (first | exact (Kd.R_reads' HO_317001.out).2.2 | (with_reducible refine zz18 ?_ _) | (with_reducible refine zz19 ?_ _) | (with_reducible refine zz20 ?_)));(case side2=>exact (Kd.R_reads' HO_317001.out).2.1);(case side3=>repeat (first | exact (Kd.R_reads' HO_306001.out).2.2 | (with_reducible refine zz18 ?_ _) | (with_reducible refine zz19 ?_ _) | (with_reducible refine zz20 ?_)));(case side4=>exact (Kd.R_reads' HO_306001.out).2.1);rintro e w80 ⟨rfl,hb⟩;have n0_:=zz31 (Kd.R_below (by (with_reducible repeat (first | apply zz12 | apply zz13 | apply zz14));exact HO_306001.out) hb);have n1_:=zz31 (Kd.R_below (by (with_reducible repeat (first | apply zz12 | apply zz13 | apply zz14));exact HO_311001.out) hb);have n2_:=zz31 (Kd.R_below (by (with_reducible repeat (first | apply zz12 | apply zz13 | apply zz14));exact HO_317001.out) hb);have n3_:=zz31 (Kd.R_below (by (with_reducible repeat (first | apply zz12 | apply zz13 | apply zz14));exact HO321.out) hb);have n4_:=zz31 (zz11 (g:=gb294) (o:=.cells #[.int .i64 a0_0,.slice A0_1 l0_1.length c0_1] 24 (0,0)) (by (with_reducible repeat (first | refine zz6 ?_ _ | refine zz7 ?_ | refine zz8 ?_ _));exact BK294.out) hb);have n5_:=zz31 (zz11 (g:=gb305) (o:=.cells #[.int .i64 t300,.slice Ao22 t301.length co22] 30 (0,0)) (by (with_reducible repeat (first | refine zz6 ?_ _ | refine zz7 ?_ | refine zz8 ?_ _));exact BK305.out) hb);have n6_:=zz31 (zz11 (g:=gb310) (o:=.cells #[.int .i64 t306,.slice Ao29 t307.length co29] 30 (0,0)) (by (with_reducible repeat (first | refine zz6 ?_ _ | refine zz7 ?_ | refine zz8 ?_ _));exact BK310.out) hb);have n7_:=zz31 (zz11 (g:=gb316) (o:=.cells #[.int .i64 t311,.slice Ao36 t312.length co36] 30 (0,0)) (by (with_reducible repeat (first | refine zz6 ?_ _ | refine zz7 ?_ | refine zz8 ?_ _));exact BK316.out) hb);have n8_:=zz31 (zz4 (by repeat first | exact HB.out | apply zz2 | apply zz0 | apply zz1 | refine zz3 ?_ GE294.out | refine zz3 ?_ GE305.out | refine zz3 ?_ GE310.out | refine zz3 ?_ GE316.out) hb);clear HO_306001;clear HO_311001;clear HO_317001;clear HO321;clear BK294;clear BK305;clear BK310;clear BK316;clear HB;have HO_306001:=n0_;have HO_311001:=n1_;have HO_317001:=n2_;have HO321:=n3_;have BK294:=n4_;have BK305:=n5_;have BK310:=n6_;have BK316:=n7_;have HB:=n8_;clear n0_ n1_ n2_ n3_ n4_ n5_ n6_ n7_ n8_;(try clear hb);(try clear hb2);(try clear hk);(try clear hi)))
         go_meet
         case rel=>exact ⟨_,((t315 != t304)),(by first | rfl | (simp;done) | (simp [*];done)),H',⟨by have:=HJ10.out;first | omega | exact Nat.le_refl _⟩,⟨by (with_reducible repeat (first | apply zz12 | apply zz13 | apply zz14));exact Kd.R_mono HO_306001.out (fun _ hk=>⟨hk.1,hk.2.1⟩)⟩,⟨by (with_reducible repeat (first | apply zz12 | apply zz13 | apply zz14));exact Kd.R_mono HO_311001.out (fun _ hk=>⟨hk.1.1,hk.1.2⟩)⟩,⟨by (with_reducible repeat (first | apply zz12 | apply zz13 | apply zz14));exact Kd.R_mono HO_317001.out (fun _ hk=>⟨hk.1,hk.2.1⟩)⟩,⟨by (with_reducible repeat (first | refine zz6 ?_ _ | refine zz7 ?_ | refine zz8 ?_ _));exact BK294.out⟩,⟨by (with_reducible repeat (first | refine zz6 ?_ _ | refine zz7 ?_ | refine zz8 ?_ _));exact BK305.out⟩,⟨by (with_reducible repeat (first | refine zz6 ?_ _ | refine zz7 ?_ | refine zz8 ?_ _));exact BK310.out⟩,⟨by (with_reducible repeat (first | refine zz6 ?_ _ | refine zz7 ?_ | refine zz8 ?_ _));exact BK316.out⟩,⟨by repeat first | exact HB.out | apply zz2 | apply zz0 | apply zz1 | refine zz3 ?_ GE294.out | refine zz3 ?_ GE305.out | refine zz3 ?_ GE310.out | refine zz3 ?_ GE316.out⟩⟩
        ·replace c72:=Bool.eq_false_iff.mpr c72
         subst c72
         have H1:(laws_FnExactLeastParty.j1 kj10 t304 true a0_0 l0_1 t300 t301 t311 t312)=some r:=by rw [if_neg (show ¬ (false=true) by decide)] at H;exact H
         clear H
         have H:=H1
         clear H1
         have H':=zz31 H
         clear H
         have hnb81:=NB316_294.out
         have hnc81:=NB294_316.out
         have hnb82:=NB316_305.out
         have hnc82:=NB305_316.out
         have hnb83:=NB316_310.out
         have hnc83:=NB310_316.out
         have hcz84_0:w69.cell? ⟨gb316,0,none⟩=some (.int .i64 t311):=(zz9 BK316.out 0).trans rfl
         have hcz84_1:w69.cell? ⟨gb316,1,none⟩=some (.slice Ao36 t312.length co36):=(zz9 BK316.out 1).trans rfl
         have hfz84_0:=zz10 BK316.out 0
         have hfz84_1:=zz10 BK316.out 1
         have hnb85:=NB305_294.out
         have hnc85:=NB294_305.out
         have hnb86:=NB305_310.out
         have hnc86:=NB310_305.out
         have hcz87_0:w69.cell? ⟨gb305,0,none⟩=some (.int .i64 t300):=(zz9 BK305.out 0).trans rfl
         have hcz87_1:w69.cell? ⟨gb305,1,none⟩=some (.slice Ao22 t301.length co22):=(zz9 BK305.out 1).trans rfl
         have hfz87_0:=zz10 BK305.out 0
         have hfz87_1:=zz10 BK305.out 1
         go_wp2_with (first | (go_at_call 12;(with_reducible refine (laws_eqParty.calls kj10 t311 _ _ t312 t300 _ _ t301 false _ ?side1 ?side2 ?side3 ?side4 A71.out).mono ?_);(case side1=>repeat (first | exact (Kd.R_reads' HO_317001.out).2.2 | (with_reducible refine zz18 ?_ _) | (with_reducible refine zz19 ?_ _) | (with_reducible refine zz20 ?_)));(case side2=>exact (Kd.R_reads' HO_317001.out).2.1);(case side3=>repeat (first | exact (Kd.R_reads' HO_306001.out).2.2 | (with_reducible refine zz18 ?_ _) | (with_reducible refine zz19 ?_ _) | (with_reducible refine zz20 ?_)));(case side4=>exact (Kd.R_reads' HO_306001.out).2.1);rintro e w88 ⟨rfl,hb⟩;have n0_:=zz31 (Kd.R_below (by (with_reducible repeat (first | apply zz12 | apply zz13 | apply zz14));exact HO_306001.out) hb);have n1_:=zz31 (Kd.R_below (by (with_reducible repeat (first | apply zz12 | apply zz13 | apply zz14));exact HO_311001.out) hb);have n2_:=zz31 (Kd.R_below (by (with_reducible repeat (first | apply zz12 | apply zz13 | apply zz14));exact HO_317001.out) hb);have n3_:=zz31 (Kd.R_below (by (with_reducible repeat (first | apply zz12 | apply zz13 | apply zz14));exact HO321.out) hb);have n4_:=zz31 (zz11 (g:=gb294) (o:=.cells #[.int .i64 a0_0,.slice A0_1 l0_1.length c0_1] 24 (0,0)) (by (with_reducible repeat (first | refine zz6 ?_ _ | refine zz7 ?_ | refine zz8 ?_ _));exact BK294.out) hb);have n5_:=zz31 (zz11 (g:=gb305) (o:=.cells #[.int .i64 t300,.slice Ao22 t301.length co22] 30 (0,0)) (by (with_reducible repeat (first | refine zz6 ?_ _ | refine zz7 ?_ | refine zz8 ?_ _));exact BK305.out) hb);have n6_:=zz31 (zz11 (g:=gb310) (o:=.cells #[.int .i64 t306,.slice Ao29 t307.length co29] 30 (0,0)) (by (with_reducible repeat (first | refine zz6 ?_ _ | refine zz7 ?_ | refine zz8 ?_ _));exact BK310.out) hb);have n7_:=zz31 (zz11 (g:=gb316) (o:=.cells #[.int .i64 t311,.slice Ao36 t312.length co36] 30 (0,0)) (by (with_reducible repeat (first | refine zz6 ?_ _ | refine zz7 ?_ | refine zz8 ?_ _));exact BK316.out) hb);have n8_:=zz31 (zz4 (by repeat first | exact HB.out | apply zz2 | apply zz0 | apply zz1 | refine zz3 ?_ GE294.out | refine zz3 ?_ GE305.out | refine zz3 ?_ GE310.out | refine zz3 ?_ GE316.out) hb);clear HO_306001;clear HO_311001;clear HO_317001;clear HO321;clear BK294;clear BK305;clear BK310;clear BK316;clear HB;have HO_306001:=n0_;have HO_311001:=n1_;have HO_317001:=n2_;have HO321:=n3_;have BK294:=n4_;have BK305:=n5_;have BK310:=n6_;have BK316:=n7_;have HB:=n8_;clear n0_ n1_ n2_ n3_ n4_ n5_ n6_ n7_ n8_;(try clear hb);(try clear hb2);(try clear hk);(try clear hi)))
         go_meet
         case rel=>exact ⟨_,(true),(by first | rfl | (simp;done) | (simp [*];done)),H',⟨by have:=HJ10.out;first | omega | exact Nat.le_refl _⟩,⟨by (with_reducible repeat (first | apply zz12 | apply zz13 | apply zz14));exact Kd.R_mono HO_306001.out (fun _ hk=>⟨hk.1,hk.2.1⟩)⟩,⟨by (with_reducible repeat (first | apply zz12 | apply zz13 | apply zz14));exact Kd.R_mono HO_311001.out (fun _ hk=>⟨hk.1.1,hk.1.2⟩)⟩,⟨by (with_reducible repeat (first | apply zz12 | apply zz13 | apply zz14));exact Kd.R_mono HO_317001.out (fun _ hk=>⟨hk.1,hk.2.1⟩)⟩,⟨by (with_reducible repeat (first | refine zz6 ?_ _ | refine zz7 ?_ | refine zz8 ?_ _));exact BK294.out⟩,⟨by (with_reducible repeat (first | refine zz6 ?_ _ | refine zz7 ?_ | refine zz8 ?_ _));exact BK305.out⟩,⟨by (with_reducible repeat (first | refine zz6 ?_ _ | refine zz7 ?_ | refine zz8 ?_ _));exact BK310.out⟩,⟨by (with_reducible repeat (first | refine zz6 ?_ _ | refine zz7 ?_ | refine zz8 ?_ _));exact BK316.out⟩,⟨by repeat first | exact HB.out | apply zz2 | apply zz0 | apply zz1 | refine zz3 ?_ GE294.out | refine zz3 ?_ GE305.out | refine zz3 ?_ GE310.out | refine zz3 ?_ GE316.out⟩⟩
      case rest =>
       clear HC60
       try clear c1
       try clear c2
       try clear p2
       try clear c3
       try clear c3b0
       try clear c4
       try clear c5
       try clear c6
       try clear c7
       try clear c8
       try clear c10
       try clear c12
       try clear c15
       try clear c16
       try clear c17
       try clear c20
       try clear c26
       try clear c27
       try clear c32
       try clear c33
       try clear c34
       try clear c38
       try clear c39
       try clear c40
       try clear c41
       try clear c43
       try clear c44
       try clear c47
       try clear c48
       try clear c49
       try clear c51
       try clear c52
       try clear c55
       try clear c58
       try clear c65
       try clear c66
       try clear c67
       try clear c70
       try clear c70b0
       try clear c72
       try clear c73
       try clear c74
       try clear c75
       try clear c77
       try clear c78
       try clear c81
       try clear c82
       try clear c83
       try clear c85
       try clear c86
       try clear hcz13_0
       try clear hcz13_1
       try clear hcz15_0
       try clear hcz15_1
       try clear hcz21_0
       try clear hcz21_1
       try clear hcz23_0
       try clear hcz23_1
       try clear hcz28_0
       try clear hcz28_1
       try clear hcz35_0
       try clear hcz35_1
       try clear hcz42_0
       try clear hcz42_1
       try clear hcz45_0
       try clear hcz45_1
       try clear hcz50_0
       try clear hcz50_1
       try clear hcz53_0
       try clear hcz53_1
       try clear hcz5_0
       try clear hcz5_1
       try clear hcz68_0
       try clear hcz68_1
       try clear hcz76_0
       try clear hcz76_1
       try clear hcz79_0
       try clear hcz79_1
       try clear hcz84_0
       try clear hcz84_1
       try clear hcz87_0
       try clear hcz87_1
       try clear hfz13_0
       try clear hfz13_1
       try clear hfz15_0
       try clear hfz15_1
       try clear hfz21_0
       try clear hfz21_1
       try clear hfz23_0
       try clear hfz23_1
       try clear hfz28_0
       try clear hfz28_1
       try clear hfz35_0
       try clear hfz35_1
       try clear hfz42_0
       try clear hfz42_1
       try clear hfz45_0
       try clear hfz45_1
       try clear hfz50_0
       try clear hfz50_1
       try clear hfz53_0
       try clear hfz53_1
       try clear hfz5_0
       try clear hfz5_1
       try clear hfz68_0
       try clear hfz68_1
       try clear hfz76_0
       try clear hfz76_1
       try clear hfz79_0
       try clear hfz79_1
       try clear hfz84_0
       try clear hfz84_1
       try clear hfz87_0
       try clear hfz87_1
       try clear p2
       obtain ⟨kq,x61_59,rfl,HA,HJ59,HO_306001,HO_311001,HO_317001,BK294,BK305,BK310,BK316,HB⟩:=hcut
       have hl311001_59:=(Kd.R_reads' HO_311001.out).1
       rw [hl311001_59] at HO_311001
       (try simp only [hl311001_59])
       (try simp only [hl311001_59] at BK294)
       (try simp only [hl311001_59] at BK305)
       (try simp only [hl311001_59] at BK310)
       (try simp only [hl311001_59] at BK316)
       (try simp only [hl311001_59] at HO_306001)
       (try simp only [hl311001_59] at HO_317001)
       cases kq with
       | zero=>exact absurd HA.out (by simp [laws_FnExactLeastParty.j1])
       | succ kj59 =>
        have H:=HA.out
        clear HA
        simp only [laws_FnExactLeastParty.j1] at H
        by_cases c89:x61_59=true
        ·subst c89
         have H1:(some false)=some r:=by rw [if_pos rfl] at H;exact H
         clear H
         have H:=H1
         clear H1
         obtain rfl:=Option.some.inj H
         go_wp2
         go_ret
         exact ⟨by first | rfl | (simp [errW_none,errW_some] <;> rfl) | (simp [*,errW_none,errW_some] <;> rfl),by repeat first | exact HB.out | apply zz2 | apply zz0 | apply zz1 | refine zz3 ?_ GE294.out | refine zz3 ?_ GE305.out | refine zz3 ?_ GE310.out | refine zz3 ?_ GE316.out⟩
        ·replace c89:=Bool.eq_false_iff.mpr c89
         subst c89
         have H1:((laws_markParty.f kj59 t311 t312 1).bind fun bt326=>((laws_heldParty.f kj59 t311 bt326.2 1).bind fun t328=>(if t328 < 0 then (some false) else (if t328=bt326.1 then ((laws_toParty.f kj59 a0_0 l0_1).bind fun bt329=>((impl_LeastParty.f kj59 bt329.1 bt329.2).bind fun bt333=>((laws_eqParty.f kj59 bt333.1 bt333.2.1 t300 t301).bind fun t339=>(if t339=true then (laws_FnExactLeastParty.j2 kj59 bt326.1 (bt333.2.2 != t304) t311 bt326.2) else (laws_FnExactLeastParty.j2 kj59 bt326.1 true t311 bt326.2))))) else (some false)))))=some r:=by rw [if_neg (show ¬ (false=true) by decide)] at H;exact H
         clear H
         have H:=H1
         clear H1
         replace H:=zz30.mp H
         obtain ⟨⟨t326,t327⟩,A900,H⟩:=H
         replace H:((laws_heldParty.f kj59 t311 t327 1).bind fun t328=>(if t328 < 0 then (some false) else (if t328=t326 then ((laws_toParty.f kj59 a0_0 l0_1).bind fun bt329=>((impl_LeastParty.f kj59 bt329.1 bt329.2).bind fun bt333=>((laws_eqParty.f kj59 bt333.1 bt333.2.1 t300 t301).bind fun t339=>(if t339=true then (laws_FnExactLeastParty.j2 kj59 t326 (bt333.2.2 != t304) t311 t327) else (laws_FnExactLeastParty.j2 kj59 t326 true t311 t327))))) else (some false))))=some r:=H
         have A90:=zz31 A900
         clear A900
         replace H:=zz30.mp H
         obtain ⟨t328,A910,H⟩:=H
         replace H:(if t328 < 0 then (some false) else (if t328=t326 then ((laws_toParty.f kj59 a0_0 l0_1).bind fun bt329=>((impl_LeastParty.f kj59 bt329.1 bt329.2).bind fun bt333=>((laws_eqParty.f kj59 bt333.1 bt333.2.1 t300 t301).bind fun t339=>(if t339=true then (laws_FnExactLeastParty.j2 kj59 t326 (bt333.2.2 != t304) t311 t327) else (laws_FnExactLeastParty.j2 kj59 t326 true t311 t327))))) else (some false)))=some r:=H
         have A91:=zz31 A910
         clear A910
         by_cases c92:t328 < 0
         ·rw [if_pos c92] at H
          have c92b0:decide (t328 < 0)=true:=decide_eq_true c92
          clear c92
          obtain rfl:=Option.some.inj H
          have hnb93:=NB316_294.out
          have hnc93:=NB294_316.out
          have hnb94:=NB316_305.out
          have hnc94:=NB305_316.out
          have hnb95:=NB316_310.out
          have hnc95:=NB310_316.out
          have hcz96_0:wc.cell? ⟨gb316,0,none⟩=some (.int .i64 t311):=(zz9 BK316.out 0).trans rfl
          have hcz96_1:wc.cell? ⟨gb316,1,none⟩=some (.slice Ao36 t312.length co36):=(zz9 BK316.out 1).trans rfl
          have hfz96_0:=zz10 BK316.out 0
          have hfz96_1:=zz10 BK316.out 1
          go_wp2_with (first | ((with_reducible refine gate_callee (f:=17) rfl ?_);refine goesL_ (some 64) rfl rfl Try.func17 (by kernel_rfl) rfl #[.agg #[.int .i64 t311,.slice Ao36 t312.length co36],.int .i64 1] rfl (by (try simp only [zz26,zz27,zz28]);first | done | rfl | (simp only [zz24,zz25];rfl)) ?_;(with_reducible refine (laws_markParty.calls kj59 t311 (fun k_=>some k_=(.slice Ao36 t312.length co36:Value).ownBlock) (.slice Ao36 t312.length co36) t312 1 t326 t327 w _ ?side1 ?side2 A90.out).mono ?_);(case side1=>repeat first | exact HB.out | apply zz2 | apply zz0 | apply zz1 | refine zz3 ?_ GE294.out | refine zz3 ?_ GE305.out | refine zz3 ?_ GE310.out | refine zz3 ?_ GE316.out);(case side2=>exact Kd.R_tight rfl HO_317001.out);rintro e w97 ⟨rfl,hy0,hb,hkp⟩;refine ⟨_,rfl,?_⟩;have n0_:=zz31 (Kd.R_mono (ok':=fun k_=>some k_ ≠ (.slice Ao29 t324.length co29:Value).ownBlock∧some k_ ≠ (.slice Ao36 t312.length co36:Value).ownBlock) (Kd.R_keptB (HO_306001.out) hkp (fun k_ hk_ hs_=>(hk_.2) hs_)) (fun k_ hk_=>⟨hk_.1.1,hk_.1.2⟩));have n1_:=zz31 (Kd.R_mono (ok':=fun k_=>some k_ ≠ (.slice Ao22 t301.length co22:Value).ownBlock∧some k_ ≠ (.slice Ao36 t312.length co36:Value).ownBlock) (Kd.R_keptB (HO_311001.out) hkp (fun k_ hk_ hs_=>(hk_.2) hs_)) (fun k_ hk_=>⟨hk_.1.1,hk_.1.2⟩));have n2_:=zz31 (Kd.R_reok rfl hy0 (fun k_ e_=>HO_317001.out.1 k_ e_));(first | have n3_:=zz31 (blk_kept BK294.out hkp (fun hs_=>(fun e_=>(Kd.R_ne HO_317001.out BK294.out (by decide)) e_) hs_)) | have n3_:=zz31 (blk_kept (by (with_reducible repeat (first | refine zz6 ?_ _ | refine zz7 ?_ | refine zz8 ?_ _));exact BK294.out) hkp (fun hs_=>(fun e_=>(Kd.R_ne HO_317001.out BK294.out (by decide)) e_) hs_)));(first | have n4_:=zz31 (blk_kept BK305.out hkp (fun hs_=>(fun e_=>(Kd.R_ne HO_317001.out BK305.out (by decide)) e_) hs_)) | have n4_:=zz31 (blk_kept (by (with_reducible repeat (first | refine zz6 ?_ _ | refine zz7 ?_ | refine zz8 ?_ _));exact BK305.out) hkp (fun hs_=>(fun e_=>(Kd.R_ne HO_317001.out BK305.out (by decide)) e_) hs_)));(first | have n5_:=zz31 (blk_kept BK310.out hkp (fun hs_=>(fun e_=>(Kd.R_ne HO_317001.out BK310.out (by decide)) e_) hs_)) | have n5_:=zz31 (blk_kept (by (with_reducible repeat (first | refine zz6 ?_ _ | refine zz7 ?_ | refine zz8 ?_ _));exact BK310.out) hkp (fun hs_=>(fun e_=>(Kd.R_ne HO_317001.out BK310.out (by decide)) e_) hs_)));(first | have n6_:=zz31 (blk_kept BK316.out hkp (fun hs_=>(fun e_=>(Kd.R_ne HO_317001.out BK316.out (by decide)) e_) hs_)) | have n6_:=zz31 (blk_kept (by (with_reducible repeat (first | refine zz6 ?_ _ | refine zz7 ?_ | refine zz8 ?_ _));exact BK316.out) hkp (fun hs_=>(fun e_=>(Kd.R_ne HO_317001.out BK316.out (by decide)) e_) hs_)));have n7_:=zz31 (hb);clear HO_306001;clear HO_311001;clear HO_317001;clear BK294;clear BK305;clear BK310;clear BK316;clear HB;have HO_306001:=n0_;have HO_311001:=n1_;have HO_317001:=n2_;have BK294:=n3_;have BK305:=n4_;have BK310:=n5_;have BK316:=n6_;have HB:=n7_;clear n0_ n1_ n2_ n3_ n4_ n5_ n6_ n7_;(try clear hb);(try clear hkp);(try clear hy0);have hcz98_0:w97.cell? ⟨gb316,0,none⟩=some (.int .i64 t311):=(zz9 BK316.out 0).trans rfl;have hcz98_1:w97.cell? ⟨gb316,1,none⟩=some (.slice Ao36 t312.length co36):=(zz9 BK316.out 1).trans rfl;have hfz98_0:=zz10 BK316.out 0;have hfz98_1:=zz10 BK316.out 1) | ((with_reducible refine gate_callee (f:=18) rfl ?_);refine goesL_ (some 67) rfl rfl Try.func18 (by kernel_rfl) rfl #[.agg #[.int .i64 t311,.slice Ao36 t327.length co36],.int .i64 1] rfl (by (try simp only [zz26,zz27,zz28]);first | done | (rw [show t327.length=t312.length from (Kd.R_reads' HO_317001.out).1.symm] <;> rfl) | rfl | (simp only [zz24,zz25];rfl)) ?_;(with_reducible refine (laws_heldParty.calls kj59 t311 _ _ t327 1 t328 _ ?side1 ?side2 A91.out).mono ?_);(case side1=>repeat (first | exact (Kd.R_reads' HO_317001.out).2.2 | (with_reducible refine zz18 ?_ _) | (with_reducible refine zz19 ?_ _) | (with_reducible refine zz20 ?_)));(case side2=>rw [show t327.length=t312.length from (Kd.R_reads' HO_317001.out).1.symm];exact (Kd.R_reads' HO_317001.out).2.1);rintro e w99 ⟨rfl,hb⟩;refine ⟨_,rfl,?_⟩;have n0_:=zz31 (Kd.R_below (by (with_reducible repeat (first | apply zz12 | apply zz13 | apply zz14));exact HO_306001.out) hb);have n1_:=zz31 (Kd.R_below (by (with_reducible repeat (first | apply zz12 | apply zz13 | apply zz14));exact HO_311001.out) hb);have n2_:=zz31 (Kd.R_below (by (with_reducible repeat (first | apply zz12 | apply zz13 | apply zz14));exact HO_317001.out) hb);have n3_:=zz31 (zz11 (g:=gb294) (o:=.cells #[.int .i64 a0_0,.slice A0_1 l0_1.length c0_1] 24 (0,0)) (by (with_reducible repeat (first | refine zz6 ?_ _ | refine zz7 ?_ | refine zz8 ?_ _));exact BK294.out) hb);have n4_:=zz31 (zz11 (g:=gb305) (o:=.cells #[.int .i64 t300,.slice Ao22 t301.length co22] 30 (0,0)) (by (with_reducible repeat (first | refine zz6 ?_ _ | refine zz7 ?_ | refine zz8 ?_ _));exact BK305.out) hb);have n5_:=zz31 (zz11 (g:=gb310) (o:=.cells #[.int .i64 t306,.slice Ao29 t324.length co29] 30 (0,0)) (by (with_reducible repeat (first | refine zz6 ?_ _ | refine zz7 ?_ | refine zz8 ?_ _));exact BK310.out) hb);have n6_:=zz31 (zz11 (g:=gb316) (o:=.cells #[.int .i64 t311,.slice Ao36 t312.length co36] 30 (0,0)) (by (with_reducible repeat (first | refine zz6 ?_ _ | refine zz7 ?_ | refine zz8 ?_ _));exact BK316.out) hb);have n7_:=zz31 (zz4 (by repeat first | exact HB.out | apply zz2 | apply zz0 | apply zz1 | refine zz3 ?_ GE294.out | refine zz3 ?_ GE305.out | refine zz3 ?_ GE310.out | refine zz3 ?_ GE316.out) hb);clear HO_306001;clear HO_311001;clear HO_317001;clear BK294;clear BK305;clear BK310;clear BK316;clear HB;have HO_306001:=n0_;have HO_311001:=n1_;have HO_317001:=n2_;have BK294:=n3_;have BK305:=n4_;have BK310:=n5_;have BK316:=n6_;have HB:=n7_;clear n0_ n1_ n2_ n3_ n4_ n5_ n6_ n7_;(try clear hb);(try clear hb2);(try clear hk);(try clear hi)))
          go_ret
          exact ⟨by first | rfl | (simp [errW_none,errW_some] <;> rfl) | (simp [*,errW_none,errW_some] <;> rfl),by repeat first | exact HB.out | apply zz2 | apply zz0 | apply zz1 | refine zz3 ?_ GE294.out | refine zz3 ?_ GE305.out | refine zz3 ?_ GE310.out | refine zz3 ?_ GE316.out⟩
         ·rw [if_neg c92] at H
          have c92b0:decide (t328 < 0)=false:=decide_eq_false c92
          clear c92
          by_cases c100:t328=t326
          ·rw [if_pos c100] at H
           have c100b0:(t328 == t326)=true:=beq_iff_eq.mpr c100
           have c100b1:(t328 != t326)=false:=bne_eq_false_iff_eq.mpr c100
           clear c100
           replace H:=zz30.mp H
           obtain ⟨⟨t329,t330⟩,A1010,H⟩:=H
           replace H:((impl_LeastParty.f kj59 t329 t330).bind fun bt333=>((laws_eqParty.f kj59 bt333.1 bt333.2.1 t300 t301).bind fun t339=>(if t339=true then (laws_FnExactLeastParty.j2 kj59 t326 (bt333.2.2 != t304) t311 t327) else (laws_FnExactLeastParty.j2 kj59 t326 true t311 t327))))=some r:=H
           have A101:=zz31 A1010
           clear A1010
           replace H:=zz30.mp H
           obtain ⟨⟨t333,t334,t337⟩,A1020,H⟩:=H
           replace H:((laws_eqParty.f kj59 t333 t334 t300 t301).bind fun t339=>(if t339=true then (laws_FnExactLeastParty.j2 kj59 t326 (t337 != t304) t311 t327) else (laws_FnExactLeastParty.j2 kj59 t326 true t311 t327)))=some r:=H
           have A102:=zz31 A1020
           clear A1020
           have HC103:=zz31 H
           clear H
           have hnb104:=NB316_294.out
           have hnc104:=NB294_316.out
           have hnb105:=NB316_305.out
           have hnc105:=NB305_316.out
           have hnb106:=NB316_310.out
           have hnc106:=NB310_316.out
           have hcz107_0:wc.cell? ⟨gb316,0,none⟩=some (.int .i64 t311):=(zz9 BK316.out 0).trans rfl
           have hcz107_1:wc.cell? ⟨gb316,1,none⟩=some (.slice Ao36 t312.length co36):=(zz9 BK316.out 1).trans rfl
           have hfz107_0:=zz10 BK316.out 0
           have hfz107_1:=zz10 BK316.out 1
           go_upto_region 25 with (first | ((with_reducible refine gate_callee (f:=17) rfl ?_);refine goesL_ (some 64) rfl rfl Try.func17 (by kernel_rfl) rfl #[.agg #[.int .i64 t311,.slice Ao36 t312.length co36],.int .i64 1] rfl (by (try simp only [zz26,zz27,zz28]);first | done | rfl | (simp only [zz24,zz25];rfl)) ?_;(with_reducible refine (laws_markParty.calls kj59 t311 (fun k_=>some k_=(.slice Ao36 t312.length co36:Value).ownBlock) (.slice Ao36 t312.length co36) t312 1 t326 t327 w _ ?side1 ?side2 A90.out).mono ?_);(case side1=>repeat first | exact HB.out | apply zz2 | apply zz0 | apply zz1 | refine zz3 ?_ GE294.out | refine zz3 ?_ GE305.out | refine zz3 ?_ GE310.out | refine zz3 ?_ GE316.out);(case side2=>exact Kd.R_tight rfl HO_317001.out);rintro e w108 ⟨rfl,hy0,hb,hkp⟩;refine ⟨_,rfl,?_⟩;have n0_:=zz31 (Kd.R_mono (ok':=fun k_=>some k_ ≠ (.slice Ao29 t324.length co29:Value).ownBlock∧some k_ ≠ (.slice Ao36 t312.length co36:Value).ownBlock) (Kd.R_keptB (HO_306001.out) hkp (fun k_ hk_ hs_=>(hk_.2) hs_)) (fun k_ hk_=>⟨hk_.1.1,hk_.1.2⟩));have n1_:=zz31 (Kd.R_mono (ok':=fun k_=>some k_ ≠ (.slice Ao22 t301.length co22:Value).ownBlock∧some k_ ≠ (.slice Ao36 t312.length co36:Value).ownBlock) (Kd.R_keptB (HO_311001.out) hkp (fun k_ hk_ hs_=>(hk_.2) hs_)) (fun k_ hk_=>⟨hk_.1.1,hk_.1.2⟩));have n2_:=zz31 (Kd.R_reok rfl hy0 (fun k_ e_=>HO_317001.out.1 k_ e_));(first | have n3_:=zz31 (blk_kept BK294.out hkp (fun hs_=>(fun e_=>(Kd.R_ne HO_317001.out BK294.out (by decide)) e_) hs_)) | have n3_:=zz31 (blk_kept (by (with_reducible repeat (first | refine zz6 ?_ _ | refine zz7 ?_ | refine zz8 ?_ _));exact BK294.out) hkp (fun hs_=>(fun e_=>(Kd.R_ne HO_317001.out BK294.out (by decide)) e_) hs_)));(first | have n4_:=zz31 (blk_kept BK305.out hkp (fun hs_=>(fun e_=>(Kd.R_ne HO_317001.out BK305.out (by decide)) e_) hs_)) | have n4_:=zz31 (blk_kept (by (with_reducible repeat (first | refine zz6 ?_ _ | refine zz7 ?_ | refine zz8 ?_ _));exact BK305.out) hkp (fun hs_=>(fun e_=>(Kd.R_ne HO_317001.out BK305.out (by decide)) e_) hs_)));(first | have n5_:=zz31 (blk_kept BK310.out hkp (fun hs_=>(fun e_=>(Kd.R_ne HO_317001.out BK310.out (by decide)) e_) hs_)) | have n5_:=zz31 (blk_kept (by (with_reducible repeat (first | refine zz6 ?_ _ | refine zz7 ?_ | refine zz8 ?_ _));exact BK310.out) hkp (fun hs_=>(fun e_=>(Kd.R_ne HO_317001.out BK310.out (by decide)) e_) hs_)));(first | have n6_:=zz31 (blk_kept BK316.out hkp (fun hs_=>(fun e_=>(Kd.R_ne HO_317001.out BK316.out (by decide)) e_) hs_)) | have n6_:=zz31 (blk_kept (by (with_reducible repeat (first | refine zz6 ?_ _ | refine zz7 ?_ | refine zz8 ?_ _));exact BK316.out) hkp (fun hs_=>(fun e_=>(Kd.R_ne HO_317001.out BK316.out (by decide)) e_) hs_)));have n7_:=zz31 (hb);clear HO_306001;clear HO_311001;clear HO_317001;clear BK294;clear BK305;clear BK310;clear BK316;clear HB;have HO_306001:=n0_;have HO_311001:=n1_;have HO_317001:=n2_;have BK294:=n3_;have BK305:=n4_;have BK310:=n5_;have BK316:=n6_;have HB:=n7_;clear n0_ n1_ n2_ n3_ n4_ n5_ n6_ n7_;(try clear hb);(try clear hkp);(try clear hy0);have hcz109_0:w108.cell? ⟨gb316,0,none⟩=some (.int .i64 t311):=(zz9 BK316.out 0).trans rfl;have hcz109_1:w108.cell? ⟨gb316,1,none⟩=some (.slice Ao36 t312.length co36):=(zz9 BK316.out 1).trans rfl;have hfz109_0:=zz10 BK316.out 0;have hfz109_1:=zz10 BK316.out 1) | ((with_reducible refine gate_callee (f:=18) rfl ?_);refine goesL_ (some 67) rfl rfl Try.func18 (by kernel_rfl) rfl #[.agg #[.int .i64 t311,.slice Ao36 t327.length co36],.int .i64 1] rfl (by (try simp only [zz26,zz27,zz28]);first | done | (rw [show t327.length=t312.length from (Kd.R_reads' HO_317001.out).1.symm] <;> rfl) | rfl | (simp only [zz24,zz25];rfl)) ?_;(with_reducible refine (laws_heldParty.calls kj59 t311 _ _ t327 1 t328 _ ?side1 ?side2 A91.out).mono ?_);(case side1=>repeat (first | exact (Kd.R_reads' HO_317001.out).2.2 | (with_reducible refine zz18 ?_ _) | (with_reducible refine zz19 ?_ _) | (with_reducible refine zz20 ?_)));(case side2=>rw [show t327.length=t312.length from (Kd.R_reads' HO_317001.out).1.symm];exact (Kd.R_reads' HO_317001.out).2.1);rintro e w110 ⟨rfl,hb⟩;refine ⟨_,rfl,?_⟩;have n0_:=zz31 (Kd.R_below (by (with_reducible repeat (first | apply zz12 | apply zz13 | apply zz14));exact HO_306001.out) hb);have n1_:=zz31 (Kd.R_below (by (with_reducible repeat (first | apply zz12 | apply zz13 | apply zz14));exact HO_311001.out) hb);have n2_:=zz31 (Kd.R_below (by (with_reducible repeat (first | apply zz12 | apply zz13 | apply zz14));exact HO_317001.out) hb);have n3_:=zz31 (zz11 (g:=gb294) (o:=.cells #[.int .i64 a0_0,.slice A0_1 l0_1.length c0_1] 24 (0,0)) (by (with_reducible repeat (first | refine zz6 ?_ _ | refine zz7 ?_ | refine zz8 ?_ _));exact BK294.out) hb);have n4_:=zz31 (zz11 (g:=gb305) (o:=.cells #[.int .i64 t300,.slice Ao22 t301.length co22] 30 (0,0)) (by (with_reducible repeat (first | refine zz6 ?_ _ | refine zz7 ?_ | refine zz8 ?_ _));exact BK305.out) hb);have n5_:=zz31 (zz11 (g:=gb310) (o:=.cells #[.int .i64 t306,.slice Ao29 t324.length co29] 30 (0,0)) (by (with_reducible repeat (first | refine zz6 ?_ _ | refine zz7 ?_ | refine zz8 ?_ _));exact BK310.out) hb);have n6_:=zz31 (zz11 (g:=gb316) (o:=.cells #[.int .i64 t311,.slice Ao36 t312.length co36] 30 (0,0)) (by (with_reducible repeat (first | refine zz6 ?_ _ | refine zz7 ?_ | refine zz8 ?_ _));exact BK316.out) hb);have n7_:=zz31 (zz4 (by repeat first | exact HB.out | apply zz2 | apply zz0 | apply zz1 | refine zz3 ?_ GE294.out | refine zz3 ?_ GE305.out | refine zz3 ?_ GE310.out | refine zz3 ?_ GE316.out) hb);clear HO_306001;clear HO_311001;clear HO_317001;clear BK294;clear BK305;clear BK310;clear BK316;clear HB;have HO_306001:=n0_;have HO_311001:=n1_;have HO_317001:=n2_;have BK294:=n3_;have BK305:=n4_;have BK310:=n5_;have BK316:=n6_;have HB:=n7_;clear n0_ n1_ n2_ n3_ n4_ n5_ n6_ n7_;(try clear hb);(try clear hb2);(try clear hk);(try clear hi);have hnb111:=NB294_305.out;have hnc111:=NB305_294.out;have hnb112:=NB294_310.out;have hnc112:=NB310_294.out;have hcz113_0:w110.cell? ⟨gb294,0,none⟩=some (.int .i64 a0_0):=(zz9 BK294.out 0).trans rfl;have hcz113_1:w110.cell? ⟨gb294,1,none⟩=some (.slice A0_1 l0_1.length c0_1):=(zz9 BK294.out 1).trans rfl;have hfz113_0:=zz10 BK294.out 0;have hfz113_1:=zz10 BK294.out 1) | ((with_reducible refine gate_callee (f:=10) rfl ?_);refine goesL_ (some 75) rfl rfl Try.func10 (by kernel_rfl) rfl #[.agg #[.int .i64 a0_0,.slice A0_1 l0_1.length c0_1]] rfl (by (try simp only [zz26,zz27,zz28]);first | done | rfl | (simp only [zz24,zz25];rfl)) ?_;(with_reducible refine (laws_toParty.calls kj59 a0_0 _ _ l0_1 t329 t330 _ ?side1 ?side2 A101.out).mono ?_);(case side1=>repeat (first | exact (Kd.C_below HR0_1.out HB.out) | (with_reducible refine zz18 ?_ _) | (with_reducible refine zz19 ?_ _) | (with_reducible refine zz20 ?_)));(case side2=>exact HC0_1.out);rintro e w114 ⟨v331,rfl,ho0,hb⟩;refine ⟨_,rfl,?_⟩;have n0_:=zz31 (Kd.R_elder' (by (with_reducible repeat (first | apply zz12 | apply zz13 | apply zz14));exact HO_306001.out) (Kd.R_base ho0) hb);have n1_:=zz31 (Kd.R_elder' (by (with_reducible repeat (first | apply zz12 | apply zz13 | apply zz14));exact HO_311001.out) (Kd.R_base ho0) hb);have n2_:=zz31 (Kd.R_elder' (by (with_reducible repeat (first | apply zz12 | apply zz13 | apply zz14));exact HO_317001.out) (Kd.R_base ho0) hb);have n3_:=zz31 (Kd.R_lower (Kd.R_new' (Kd.R_new' (Kd.R_new' ho0 (Kd.R_lt (by (with_reducible repeat (first | apply zz12 | apply zz13 | apply zz14));exact HO_306001.out))) (Kd.R_lt (by (with_reducible repeat (first | apply zz12 | apply zz13 | apply zz14));exact HO_311001.out))) (Kd.R_lt (by (with_reducible repeat (first | apply zz12 | apply zz13 | apply zz14));exact HO_317001.out))) (zz5 (by repeat first | exact HB.out | apply zz2 | apply zz0 | apply zz1 | refine zz3 ?_ GE294.out | refine zz3 ?_ GE305.out | refine zz3 ?_ GE310.out | refine zz3 ?_ GE316.out)));have n4_:=zz31 (zz11 (g:=gb294) (o:=.cells #[.int .i64 a0_0,.slice A0_1 l0_1.length c0_1] 24 (0,0)) (by (with_reducible repeat (first | refine zz6 ?_ _ | refine zz7 ?_ | refine zz8 ?_ _));exact BK294.out) hb);have n5_:=zz31 (zz11 (g:=gb305) (o:=.cells #[.int .i64 t300,.slice Ao22 t301.length co22] 30 (0,0)) (by (with_reducible repeat (first | refine zz6 ?_ _ | refine zz7 ?_ | refine zz8 ?_ _));exact BK305.out) hb);have n6_:=zz31 (zz11 (g:=gb310) (o:=.cells #[.int .i64 t306,.slice Ao29 t324.length co29] 30 (0,0)) (by (with_reducible repeat (first | refine zz6 ?_ _ | refine zz7 ?_ | refine zz8 ?_ _));exact BK310.out) hb);have n7_:=zz31 (zz11 (g:=gb316) (o:=.cells #[.int .i64 t311,.slice Ao36 t312.length co36] 30 (0,0)) (by (with_reducible repeat (first | refine zz6 ?_ _ | refine zz7 ?_ | refine zz8 ?_ _));exact BK316.out) hb);have n8_:=zz31 (zz4 (by repeat first | exact HB.out | apply zz2 | apply zz0 | apply zz1 | refine zz3 ?_ GE294.out | refine zz3 ?_ GE305.out | refine zz3 ?_ GE310.out | refine zz3 ?_ GE316.out) hb);clear HO_306001;clear HO_311001;clear HO_317001;clear BK294;clear BK305;clear BK310;clear BK316;clear HB;have HO_306001:=n0_;have HO_311001:=n1_;have HO_317001:=n2_;have HO332:=n3_;have BK294:=n4_;have BK305:=n5_;have BK310:=n6_;have BK316:=n7_;have HB:=n8_;clear n0_ n1_ n2_ n3_ n4_ n5_ n6_ n7_ n8_;(try clear hb);(try clear hb2);(try clear hk);(try clear hi);(try clear ho0);obtain ⟨Ao115,co115,eo115⟩:=Kd.R_slice HO332.out;subst eo115) | ((with_reducible refine gate_callee (f:=16) rfl ?_);refine goesL_ (some 76) rfl rfl Try.func16 (by kernel_rfl) rfl #[.agg #[.int .i64 t329,.slice Ao115 t330.length co115]] rfl (by (try simp only [zz26,zz27,zz28]);first | done | rfl | (simp only [zz24,zz25];rfl)) ?_;(with_reducible refine (impl_LeastParty.calls kj59 t329 _ _ t330 t333 t334 t337 _ ?side1 ?side2 A102.out).mono ?_);(case side1=>repeat (first | exact (Kd.R_reads' HO332.out).2.2 | (with_reducible refine zz18 ?_ _) | (with_reducible refine zz19 ?_ _) | (with_reducible refine zz20 ?_)));(case side2=>exact (Kd.R_reads' HO332.out).2.1);rintro e w116 ⟨v335,rfl,ho0,hb⟩;refine ⟨_,rfl,?_⟩;have n0_:=zz31 (Kd.R_elder' (by (with_reducible repeat (first | apply zz12 | apply zz13 | apply zz14));exact HO_306001.out) (Kd.R_base ho0) hb);have n1_:=zz31 (Kd.R_elder' (by (with_reducible repeat (first | apply zz12 | apply zz13 | apply zz14));exact HO_311001.out) (Kd.R_base ho0) hb);have n2_:=zz31 (Kd.R_elder' (by (with_reducible repeat (first | apply zz12 | apply zz13 | apply zz14));exact HO_317001.out) (Kd.R_base ho0) hb);have n3_:=zz31 (Kd.R_elder' (by (with_reducible repeat (first | apply zz12 | apply zz13 | apply zz14));exact HO332.out) (Kd.R_base ho0) hb);have n4_:=zz31 (Kd.R_lower (Kd.R_new' (Kd.R_new' (Kd.R_new' (Kd.R_new' ho0 (Kd.R_lt (by (with_reducible repeat (first | apply zz12 | apply zz13 | apply zz14));exact HO_306001.out))) (Kd.R_lt (by (with_reducible repeat (first | apply zz12 | apply zz13 | apply zz14));exact HO_311001.out))) (Kd.R_lt (by (with_reducible repeat (first | apply zz12 | apply zz13 | apply zz14));exact HO_317001.out))) (Kd.R_lt (by (with_reducible repeat (first | apply zz12 | apply zz13 | apply zz14));exact HO332.out))) (zz5 (by repeat first | exact HB.out | apply zz2 | apply zz0 | apply zz1 | refine zz3 ?_ GE294.out | refine zz3 ?_ GE305.out | refine zz3 ?_ GE310.out | refine zz3 ?_ GE316.out)));have n5_:=zz31 (zz11 (g:=gb294) (o:=.cells #[.int .i64 a0_0,.slice A0_1 l0_1.length c0_1] 24 (0,0)) (by (with_reducible repeat (first | refine zz6 ?_ _ | refine zz7 ?_ | refine zz8 ?_ _));exact BK294.out) hb);have n6_:=zz31 (zz11 (g:=gb305) (o:=.cells #[.int .i64 t300,.slice Ao22 t301.length co22] 30 (0,0)) (by (with_reducible repeat (first | refine zz6 ?_ _ | refine zz7 ?_ | refine zz8 ?_ _));exact BK305.out) hb);have n7_:=zz31 (zz11 (g:=gb310) (o:=.cells #[.int .i64 t306,.slice Ao29 t324.length co29] 30 (0,0)) (by (with_reducible repeat (first | refine zz6 ?_ _ | refine zz7 ?_ | refine zz8 ?_ _));exact BK310.out) hb);have n8_:=zz31 (zz11 (g:=gb316) (o:=.cells #[.int .i64 t311,.slice Ao36 t312.length co36] 30 (0,0)) (by (with_reducible repeat (first | refine zz6 ?_ _ | refine zz7 ?_ | refine zz8 ?_ _));exact BK316.out) hb);have n9_:=zz31 (zz4 (by repeat first | exact HB.out | apply zz2 | apply zz0 | apply zz1 | refine zz3 ?_ GE294.out | refine zz3 ?_ GE305.out | refine zz3 ?_ GE310.out | refine zz3 ?_ GE316.out) hb);clear HO_306001;clear HO_311001;clear HO_317001;clear HO332;clear BK294;clear BK305;clear BK310;clear BK316;clear HB;have HO_306001:=n0_;have HO_311001:=n1_;have HO_317001:=n2_;have HO332:=n3_;have HO336:=n4_;have BK294:=n5_;have BK305:=n6_;have BK310:=n7_;have BK316:=n8_;have HB:=n9_;clear n0_ n1_ n2_ n3_ n4_ n5_ n6_ n7_ n8_ n9_;(try clear hb);(try clear hb2);(try clear hk);(try clear hi);(try clear ho0)) | ((with_reducible refine gate_dst (N:=12) rfl ?_);refine box_event ?hg (N:=12) ?hd (cs:=#[.int .i64 0,.slice none 0 0]) (t:=30) ?hr ?_;(case hd=>rfl);(case hg=>rfl);(case hr=>first | (go_simp;done) | (go_simp;rfl));intro gb338 hg w117 hbox hb;have n0_:=zz31 (Kd.R_below (by (with_reducible repeat (first | apply zz12 | apply zz13 | apply zz14));exact HO_306001.out) hb);have n1_:=zz31 (Kd.R_below (by (with_reducible repeat (first | apply zz12 | apply zz13 | apply zz14));exact HO_311001.out) hb);have n2_:=zz31 (Kd.R_below (by (with_reducible repeat (first | apply zz12 | apply zz13 | apply zz14));exact HO_317001.out) hb);have n3_:=zz31 (Kd.R_below (by (with_reducible repeat (first | apply zz12 | apply zz13 | apply zz14));exact HO332.out) hb);have n4_:=zz31 (Kd.R_below (by (with_reducible repeat (first | apply zz12 | apply zz13 | apply zz14));exact HO336.out) hb);have n5_:=zz31 (zz11 (g:=gb294) (o:=.cells #[.int .i64 a0_0,.slice A0_1 l0_1.length c0_1] 24 (0,0)) (by (with_reducible repeat (first | refine zz6 ?_ _ | refine zz7 ?_ | refine zz8 ?_ _));exact BK294.out) hb);have n6_:=zz31 (zz11 (g:=gb305) (o:=.cells #[.int .i64 t300,.slice Ao22 t301.length co22] 30 (0,0)) (by (with_reducible repeat (first | refine zz6 ?_ _ | refine zz7 ?_ | refine zz8 ?_ _));exact BK305.out) hb);have n7_:=zz31 (zz11 (g:=gb310) (o:=.cells #[.int .i64 t306,.slice Ao29 t324.length co29] 30 (0,0)) (by (with_reducible repeat (first | refine zz6 ?_ _ | refine zz7 ?_ | refine zz8 ?_ _));exact BK310.out) hb);have n8_:=zz31 (zz11 (g:=gb316) (o:=.cells #[.int .i64 t311,.slice Ao36 t312.length co36] 30 (0,0)) (by (with_reducible repeat (first | refine zz6 ?_ _ | refine zz7 ?_ | refine zz8 ?_ _));exact BK316.out) hb);have n9_:=zz31 (zz4 (by repeat first | exact HB.out | apply zz2 | apply zz0 | apply zz1 | refine zz3 ?_ GE294.out | refine zz3 ?_ GE305.out | refine zz3 ?_ GE310.out | refine zz3 ?_ GE316.out) hb);have n10_:=zz31 (hbox);have n11_:=zz31 ((by rw [hg];exact (zz5 (by repeat first | exact HB.out | apply zz2 | apply zz0 | apply zz1 | refine zz3 ?_ GE294.out | refine zz3 ?_ GE305.out | refine zz3 ?_ GE310.out | refine zz3 ?_ GE316.out)):w.heap.size≤gb338));have n12_:=zz31 ((by rw [hg];exact (zz5 (by repeat first | exact HB.out | apply zz2 | apply zz0 | apply zz1 | refine zz3 ?_ GE294.out | refine zz3 ?_ GE305.out | refine zz3 ?_ GE310.out | refine zz3 ?_ GE316.out)):w.heap.size≤gb338));have n13_:=zz31 ((by rw [hg];exact Nat.ne_of_lt (blk_lt (g:=gb294) (o:=.cells #[.int .i64 a0_0,.slice A0_1 l0_1.length c0_1] 24 (0,0)) (by (with_reducible repeat (first | refine zz6 ?_ _ | refine zz7 ?_ | refine zz8 ?_ _));exact BK294.out)):gb294 ≠ gb338));have n14_:=zz31 ((by rw [hg];exact Nat.ne_of_gt (blk_lt (g:=gb294) (o:=.cells #[.int .i64 a0_0,.slice A0_1 l0_1.length c0_1] 24 (0,0)) (by (with_reducible repeat (first | refine zz6 ?_ _ | refine zz7 ?_ | refine zz8 ?_ _));exact BK294.out)):gb338 ≠ gb294));have n15_:=zz31 ((by rw [hg];exact Nat.ne_of_lt (blk_lt (g:=gb305) (o:=.cells #[.int .i64 t300,.slice Ao22 t301.length co22] 30 (0,0)) (by (with_reducible repeat (first | refine zz6 ?_ _ | refine zz7 ?_ | refine zz8 ?_ _));exact BK305.out)):gb305 ≠ gb338));have n16_:=zz31 ((by rw [hg];exact Nat.ne_of_gt (blk_lt (g:=gb305) (o:=.cells #[.int .i64 t300,.slice Ao22 t301.length co22] 30 (0,0)) (by (with_reducible repeat (first | refine zz6 ?_ _ | refine zz7 ?_ | refine zz8 ?_ _));exact BK305.out)):gb338 ≠ gb305));have n17_:=zz31 ((by rw [hg];exact Nat.ne_of_lt (blk_lt (g:=gb310) (o:=.cells #[.int .i64 t306,.slice Ao29 t324.length co29] 30 (0,0)) (by (with_reducible repeat (first | refine zz6 ?_ _ | refine zz7 ?_ | refine zz8 ?_ _));exact BK310.out)):gb310 ≠ gb338));have n18_:=zz31 ((by rw [hg];exact Nat.ne_of_gt (blk_lt (g:=gb310) (o:=.cells #[.int .i64 t306,.slice Ao29 t324.length co29] 30 (0,0)) (by (with_reducible repeat (first | refine zz6 ?_ _ | refine zz7 ?_ | refine zz8 ?_ _));exact BK310.out)):gb338 ≠ gb310));have n19_:=zz31 ((by rw [hg];exact Nat.ne_of_lt (blk_lt (g:=gb316) (o:=.cells #[.int .i64 t311,.slice Ao36 t312.length co36] 30 (0,0)) (by (with_reducible repeat (first | refine zz6 ?_ _ | refine zz7 ?_ | refine zz8 ?_ _));exact BK316.out)):gb316 ≠ gb338));have n20_:=zz31 ((by rw [hg];exact Nat.ne_of_gt (blk_lt (g:=gb316) (o:=.cells #[.int .i64 t311,.slice Ao36 t312.length co36] 30 (0,0)) (by (with_reducible repeat (first | refine zz6 ?_ _ | refine zz7 ?_ | refine zz8 ?_ _));exact BK316.out)):gb338 ≠ gb316));clear HO_306001;clear HO_311001;clear HO_317001;clear HO332;clear HO336;clear BK294;clear BK305;clear BK310;clear BK316;clear HB;have HO_306001:=n0_;have HO_311001:=n1_;have HO_317001:=n2_;have HO332:=n3_;have HO336:=n4_;have BK294:=n5_;have BK305:=n6_;have BK310:=n7_;have BK316:=n8_;have HB:=n9_;have BK338:=n10_;have GW338:=n11_;have GE338:=n12_;have NB294_338:=n13_;have NB338_294:=n14_;have NB305_338:=n15_;have NB338_305:=n16_;have NB310_338:=n17_;have NB338_310:=n18_;have NB316_338:=n19_;have NB338_316:=n20_;clear n0_ n1_ n2_ n3_ n4_ n5_ n6_ n7_ n8_ n9_ n10_ n11_ n12_ n13_ n14_ n15_ n16_ n17_ n18_ n19_ n20_;clear hb hbox hg;have hnb118:=NB338_294.out;have hnc118:=NB294_338.out;have hnb119:=NB338_305.out;have hnc119:=NB305_338.out;have hnb120:=NB338_310.out;have hnc120:=NB310_338.out;have hnb121:=NB338_316.out;have hnc121:=NB316_338.out;have hcz122_0:w117.cell? ⟨gb338,0,none⟩=some (.int .i64 0):=(zz9 BK338.out 0).trans rfl;have hcz122_1:w117.cell? ⟨gb338,1,none⟩=some (.slice none 0 0):=(zz9 BK338.out 1).trans rfl;have hfz122_0:=zz10 BK338.out 0;have hfz122_1:=zz10 BK338.out 1;obtain ⟨Ao123,co123,eo123⟩:=Kd.R_slice HO336.out;subst eo123))
           (try simp only [Act.put,zz21,zz22,zz23])
           go_cut [87] (fun v87 wc=>∃ (kq:Nat) (x87_102:Bool),v87=.bool x87_102∧Aside0 (laws_FnExactLeastParty.j2 kq t326 x87_102 t311 t327=some r)∧Aside0 (kq≤kj59)∧Aside0 (Kd.R k70 70 wc w.heap.size (fun k_=>some k_ ≠ ((.slice Ao29 t324.length co29):Value).ownBlock∧some k_ ≠ ((.slice Ao36 t312.length co36):Value).ownBlock∧some k_ ≠ ((.slice Ao123 t334.length co123):Value).ownBlock) (.slice Ao22 t301.length co22) t301)∧Aside0 (Kd.R k70 70 wc w.heap.size (fun k_=>some k_ ≠ ((.slice Ao22 t301.length co22):Value).ownBlock∧some k_ ≠ ((.slice Ao36 t312.length co36):Value).ownBlock∧some k_ ≠ ((.slice Ao123 t334.length co123):Value).ownBlock) (.slice Ao29 t324.length co29) t324)∧Aside0 (Kd.R k70 70 wc w.heap.size (fun k_=>some k_ ≠ ((.slice Ao22 t301.length co22):Value).ownBlock∧some k_ ≠ ((.slice Ao29 t324.length co29):Value).ownBlock∧some k_ ≠ ((.slice Ao123 t334.length co123):Value).ownBlock) (.slice Ao36 t312.length co36) t327)∧Aside0 (Kd.R k70 70 wc w.heap.size (fun k_=>some k_ ≠ ((.slice Ao22 t301.length co22):Value).ownBlock∧some k_ ≠ ((.slice Ao29 t324.length co29):Value).ownBlock∧some k_ ≠ ((.slice Ao36 t312.length co36):Value).ownBlock) (.slice Ao123 t334.length co123) t334)∧Aside0 (wc.heap[gb294]?=some (.cells #[.int .i64 a0_0,(.slice A0_1 l0_1.length c0_1)] 24 (0,0)))∧Aside0 (wc.heap[gb305]?=some (.cells #[.int .i64 t300,(.slice Ao22 t301.length co22)] 30 (0,0)))∧Aside0 (wc.heap[gb310]?=some (.cells #[.int .i64 t306,(.slice Ao29 t324.length co29)] 30 (0,0)))∧Aside0 (wc.heap[gb316]?=some (.cells #[.int .i64 t311,(.slice Ao36 t312.length co36)] 30 (0,0)))∧Aside0 (wc.heap[gb338]?=some (.cells #[.int .i64 t333,(.slice Ao123 t334.length co123)] 30 (0,0)))∧Aside0 (Below w.heap.size w wc))
           case first =>
            have H:=HC103.out
            clear HC103
            replace H:=zz30.mp H
            obtain ⟨t339,A1240,H⟩:=H
            replace H:(if t339=true then (laws_FnExactLeastParty.j2 kj59 t326 (t337 != t304) t311 t327) else (laws_FnExactLeastParty.j2 kj59 t326 true t311 t327))=some r:=H
            have A124:=zz31 A1240
            clear A1240
            by_cases c125:t339=true
            ·subst c125
             have H1:(laws_FnExactLeastParty.j2 kj59 t326 (t337 != t304) t311 t327)=some r:=by rw [if_pos rfl] at H;exact H
             clear H
             have H:=H1
             clear H1
             have H':=zz31 H
             clear H
             have hnb126:=NB338_294.out
             have hnc126:=NB294_338.out
             have hnb127:=NB338_305.out
             have hnc127:=NB305_338.out
             have hnb128:=NB338_310.out
             have hnc128:=NB310_338.out
             have hnb129:=NB338_316.out
             have hnc129:=NB316_338.out
             have hcz130_0:w117.cell? ⟨gb338,0,none⟩=some (.int .i64 0):=(zz9 BK338.out 0).trans rfl
             have hcz130_1:w117.cell? ⟨gb338,1,none⟩=some (.slice none 0 0):=(zz9 BK338.out 1).trans rfl
             have hfz130_0:=zz10 BK338.out 0
             have hfz130_1:=zz10 BK338.out 1
             have hnb131:=NB305_294.out
             have hnc131:=NB294_305.out
             have hnb132:=NB305_310.out
             have hnc132:=NB310_305.out
             have hnb133:=NB305_316.out
             have hnc133:=NB316_305.out
             have hcz134_0:w117.cell? ⟨gb305,0,none⟩=some (.int .i64 t300):=(zz9 BK305.out 0).trans rfl
             have hcz134_1:w117.cell? ⟨gb305,1,none⟩=some (.slice Ao22 t301.length co22):=(zz9 BK305.out 1).trans rfl
             have hfz134_0:=zz10 BK305.out 0
             have hfz134_1:=zz10 BK305.out 1
             go_wp2_with (first | ((with_reducible refine gate_callee (f:=12) rfl ?_);refine goesL_ (some 81) rfl rfl Try.func12 (by kernel_rfl) rfl #[.agg #[.int .i64 t333,.slice Ao123 t334.length co123],.agg #[.int .i64 t300,.slice Ao22 t301.length co22]] rfl (by (try simp only [zz26,zz27,zz28]);first | done | rfl | (simp only [zz24,zz25];rfl)) ?_;(with_reducible refine (laws_eqParty.calls kj59 t333 _ _ t334 t300 _ _ t301 true _ ?side1 ?side2 ?side3 ?side4 A124.out).mono ?_);(case side1=>refine (Kd.R_reads' (e:=70) (base:=w.heap.size) (ok:=fun k_=>((((True∧some k_ ≠ (.slice Ao22 t301.length co22:Value).ownBlock)∧some k_ ≠ (.slice Ao29 t324.length co29:Value).ownBlock)∧some k_ ≠ (.slice Ao36 t312.length co36:Value).ownBlock)∧some k_ ≠ (.slice Ao115 t330.length co115:Value).ownBlock)) (n:=t334.length) (c:=co123) ?_).2.2;exact (by (with_reducible repeat (first | apply zz12 | apply zz13 | apply zz14));exact (Kd.R_mono (Kd.R_far (p:=⟨gb338,1,none⟩) (Kd.R_far (p:=⟨gb338,0,none⟩) (Kd.R_types HO336.out BK338.out (by decide)) (fun _ hk=>hk.2) (.int .i64 t333)) (fun _ hk=>hk.2) (.slice Ao123 t334.length co123)) (fun _ h_=>h_.1))));(case side2=>exact (Kd.R_reads' HO336.out).2.1);(case side3=>refine (Kd.R_reads' (e:=70) (base:=w.heap.size) (ok:=fun k_=>(((some k_ ≠ (.slice Ao29 t324.length co29:Value).ownBlock∧some k_ ≠ (.slice Ao36 t312.length co36:Value).ownBlock)∧some k_ ≠ (.slice Ao115 t330.length co115:Value).ownBlock)∧some k_ ≠ (.slice Ao123 t334.length co123:Value).ownBlock)) (n:=t301.length) (c:=co22) ?_).2.2;exact (by (with_reducible repeat (first | apply zz12 | apply zz13 | apply zz14));exact (Kd.R_mono (Kd.R_far (p:=⟨gb338,1,none⟩) (Kd.R_far (p:=⟨gb338,0,none⟩) (Kd.R_types HO_306001.out BK338.out (by decide)) (fun _ hk=>hk.2) (.int .i64 t333)) (fun _ hk=>hk.2) (.slice Ao123 t334.length co123)) (fun _ h_=>h_.1))));(case side4=>exact (Kd.R_reads' HO_306001.out).2.1);rintro e w135 ⟨rfl,hb⟩;refine ⟨_,rfl,?_⟩;have n0_:=zz31 (Kd.R_below (by (with_reducible repeat (first | apply zz12 | apply zz13 | apply zz14));exact (Kd.R_mono (Kd.R_far (p:=⟨gb338,1,none⟩) (Kd.R_far (p:=⟨gb338,0,none⟩) (Kd.R_types HO_306001.out BK338.out (by decide)) (fun _ hk=>hk.2) (.int .i64 t333)) (fun _ hk=>hk.2) (.slice Ao123 t334.length co123)) (fun _ h_=>h_.1))) hb);have n1_:=zz31 (Kd.R_below (by (with_reducible repeat (first | apply zz12 | apply zz13 | apply zz14));exact (Kd.R_mono (Kd.R_far (p:=⟨gb338,1,none⟩) (Kd.R_far (p:=⟨gb338,0,none⟩) (Kd.R_types HO_311001.out BK338.out (by decide)) (fun _ hk=>hk.2) (.int .i64 t333)) (fun _ hk=>hk.2) (.slice Ao123 t334.length co123)) (fun _ h_=>h_.1))) hb);have n2_:=zz31 (Kd.R_below (by (with_reducible repeat (first | apply zz12 | apply zz13 | apply zz14));exact (Kd.R_mono (Kd.R_far (p:=⟨gb338,1,none⟩) (Kd.R_far (p:=⟨gb338,0,none⟩) (Kd.R_types HO_317001.out BK338.out (by decide)) (fun _ hk=>hk.2) (.int .i64 t333)) (fun _ hk=>hk.2) (.slice Ao123 t334.length co123)) (fun _ h_=>h_.1))) hb);have n3_:=zz31 (Kd.R_below (by (with_reducible repeat (first | apply zz12 | apply zz13 | apply zz14));exact (Kd.R_mono (Kd.R_far (p:=⟨gb338,1,none⟩) (Kd.R_far (p:=⟨gb338,0,none⟩) (Kd.R_types HO332.out BK338.out (by decide)) (fun _ hk=>hk.2) (.int .i64 t333)) (fun _ hk=>hk.2) (.slice Ao123 t334.length co123)) (fun _ h_=>h_.1))) hb);have n4_:=zz31 (Kd.R_below (by (with_reducible repeat (first | apply zz12 | apply zz13 | apply zz14));exact (Kd.R_mono (Kd.R_far (p:=⟨gb338,1,none⟩) (Kd.R_far (p:=⟨gb338,0,none⟩) (Kd.R_types HO336.out BK338.out (by decide)) (fun _ hk=>hk.2) (.int .i64 t333)) (fun _ hk=>hk.2) (.slice Ao123 t334.length co123)) (fun _ h_=>h_.1))) hb);have n5_:=zz31 (zz11 (g:=gb294) (o:=.cells #[.int .i64 a0_0,.slice A0_1 l0_1.length c0_1] 24 (0,0)) (by (with_reducible repeat (first | refine zz6 ?_ _ | refine zz7 ?_ | refine zz8 ?_ _));refine blk_far ?_ NB294_338.out _;(with_reducible repeat (first | refine zz6 ?_ _ | refine zz7 ?_ | refine zz8 ?_ _));refine blk_far ?_ NB294_338.out _;(with_reducible repeat (first | refine zz6 ?_ _ | refine zz7 ?_ | refine zz8 ?_ _));exact BK294.out) hb);have n6_:=zz31 (zz11 (g:=gb305) (o:=.cells #[.int .i64 t300,.slice Ao22 t301.length co22] 30 (0,0)) (by (with_reducible repeat (first | refine zz6 ?_ _ | refine zz7 ?_ | refine zz8 ?_ _));refine blk_far ?_ NB305_338.out _;(with_reducible repeat (first | refine zz6 ?_ _ | refine zz7 ?_ | refine zz8 ?_ _));refine blk_far ?_ NB305_338.out _;(with_reducible repeat (first | refine zz6 ?_ _ | refine zz7 ?_ | refine zz8 ?_ _));exact BK305.out) hb);have n7_:=zz31 (zz11 (g:=gb310) (o:=.cells #[.int .i64 t306,.slice Ao29 t324.length co29] 30 (0,0)) (by (with_reducible repeat (first | refine zz6 ?_ _ | refine zz7 ?_ | refine zz8 ?_ _));refine blk_far ?_ NB310_338.out _;(with_reducible repeat (first | refine zz6 ?_ _ | refine zz7 ?_ | refine zz8 ?_ _));refine blk_far ?_ NB310_338.out _;(with_reducible repeat (first | refine zz6 ?_ _ | refine zz7 ?_ | refine zz8 ?_ _));exact BK310.out) hb);have n8_:=zz31 (zz11 (g:=gb316) (o:=.cells #[.int .i64 t311,.slice Ao36 t312.length co36] 30 (0,0)) (by (with_reducible repeat (first | refine zz6 ?_ _ | refine zz7 ?_ | refine zz8 ?_ _));refine blk_far ?_ NB316_338.out _;(with_reducible repeat (first | refine zz6 ?_ _ | refine zz7 ?_ | refine zz8 ?_ _));refine blk_far ?_ NB316_338.out _;(with_reducible repeat (first | refine zz6 ?_ _ | refine zz7 ?_ | refine zz8 ?_ _));exact BK316.out) hb);have n9_:=zz31 (zz11 (g:=gb338) (o:=.cells #[.int .i64 t333,.slice Ao123 t334.length co123] 30 (0,0)) (by (with_reducible repeat (first | refine zz6 ?_ _ | refine zz7 ?_ | refine zz8 ?_ _));refine blk_put (cs:=#[.int .i64 t333,.slice none 0 0]) ?_ 1 _ rfl;(with_reducible repeat (first | refine zz6 ?_ _ | refine zz7 ?_ | refine zz8 ?_ _));refine blk_put (cs:=#[.int .i64 0,.slice none 0 0]) ?_ 0 _ rfl;(with_reducible repeat (first | refine zz6 ?_ _ | refine zz7 ?_ | refine zz8 ?_ _));exact BK338.out) hb);have n10_:=zz31 (zz4 (by repeat first | exact HB.out | apply zz2 | apply zz0 | apply zz1 | refine zz3 ?_ GE294.out | refine zz3 ?_ GE305.out | refine zz3 ?_ GE310.out | refine zz3 ?_ GE316.out | refine zz3 ?_ GE338.out) hb);clear HO_306001;clear HO_311001;clear HO_317001;clear HO332;clear HO336;clear BK294;clear BK305;clear BK310;clear BK316;clear BK338;clear HB;have HO_306001:=n0_;have HO_311001:=n1_;have HO_317001:=n2_;have HO332:=n3_;have HO336:=n4_;have BK294:=n5_;have BK305:=n6_;have BK310:=n7_;have BK316:=n8_;have BK338:=n9_;have HB:=n10_;clear n0_ n1_ n2_ n3_ n4_ n5_ n6_ n7_ n8_ n9_ n10_;(try clear hb);(try clear hb2);(try clear hk);(try clear hi)))
             go_meet
             case rel=>exact ⟨_,((t337 != t304)),(by first | rfl | (simp;done) | (simp [*];done)),H',⟨by have:=HJ10.out;have:=HJ59.out;first | omega | exact Nat.le_refl _⟩,⟨by (try simp only [hl311001_59]);(with_reducible repeat (first | apply zz12 | apply zz13 | apply zz14));exact Kd.R_mono HO_306001.out (fun _ hk=>⟨hk.1.1.1,⟨hk.1.1.2,hk.2⟩⟩)⟩,⟨by (try simp only [hl311001_59]);(with_reducible repeat (first | apply zz12 | apply zz13 | apply zz14));exact Kd.R_mono HO_311001.out (fun _ hk=>⟨hk.1.1.1,⟨hk.1.1.2,hk.2⟩⟩)⟩,⟨by (try simp only [hl311001_59]);(with_reducible repeat (first | apply zz12 | apply zz13 | apply zz14));exact Kd.R_mono HO_317001.out (fun _ hk=>⟨hk.1.1.1,⟨hk.1.1.2,hk.2⟩⟩)⟩,⟨by (try simp only [hl311001_59]);(with_reducible repeat (first | apply zz12 | apply zz13 | apply zz14));exact Kd.R_mono HO336.out (fun _ hk=>⟨hk.1.1.1.2,⟨hk.1.1.2,hk.1.2⟩⟩)⟩,⟨by (try simp only [hl311001_59]);(with_reducible repeat (first | refine zz6 ?_ _ | refine zz7 ?_ | refine zz8 ?_ _));exact BK294.out⟩,⟨by (try simp only [hl311001_59]);(with_reducible repeat (first | refine zz6 ?_ _ | refine zz7 ?_ | refine zz8 ?_ _));exact BK305.out⟩,⟨by (try simp only [hl311001_59]);(with_reducible repeat (first | refine zz6 ?_ _ | refine zz7 ?_ | refine zz8 ?_ _));exact BK310.out⟩,⟨by (try simp only [hl311001_59]);(with_reducible repeat (first | refine zz6 ?_ _ | refine zz7 ?_ | refine zz8 ?_ _));exact BK316.out⟩,⟨by (try simp only [hl311001_59]);(with_reducible repeat (first | refine zz6 ?_ _ | refine zz7 ?_ | refine zz8 ?_ _));exact BK338.out⟩,⟨by repeat first | exact HB.out | apply zz2 | apply zz0 | apply zz1 | refine zz3 ?_ GE294.out | refine zz3 ?_ GE305.out | refine zz3 ?_ GE310.out | refine zz3 ?_ GE316.out | refine zz3 ?_ GE338.out⟩⟩
            ·replace c125:=Bool.eq_false_iff.mpr c125
             subst c125
             have H1:(laws_FnExactLeastParty.j2 kj59 t326 true t311 t327)=some r:=by rw [if_neg (show ¬ (false=true) by decide)] at H;exact H
             clear H
             have H:=H1
             clear H1
             have H':=zz31 H
             clear H
             have hnb136:=NB338_294.out
             have hnc136:=NB294_338.out
             have hnb137:=NB338_305.out
             have hnc137:=NB305_338.out
             have hnb138:=NB338_310.out
             have hnc138:=NB310_338.out
             have hnb139:=NB338_316.out
             have hnc139:=NB316_338.out
             have hcz140_0:w117.cell? ⟨gb338,0,none⟩=some (.int .i64 0):=(zz9 BK338.out 0).trans rfl
             have hcz140_1:w117.cell? ⟨gb338,1,none⟩=some (.slice none 0 0):=(zz9 BK338.out 1).trans rfl
             have hfz140_0:=zz10 BK338.out 0
             have hfz140_1:=zz10 BK338.out 1
             have hnb141:=NB305_294.out
             have hnc141:=NB294_305.out
             have hnb142:=NB305_310.out
             have hnc142:=NB310_305.out
             have hnb143:=NB305_316.out
             have hnc143:=NB316_305.out
             have hcz144_0:w117.cell? ⟨gb305,0,none⟩=some (.int .i64 t300):=(zz9 BK305.out 0).trans rfl
             have hcz144_1:w117.cell? ⟨gb305,1,none⟩=some (.slice Ao22 t301.length co22):=(zz9 BK305.out 1).trans rfl
             have hfz144_0:=zz10 BK305.out 0
             have hfz144_1:=zz10 BK305.out 1
             go_wp2_with (first | ((with_reducible refine gate_callee (f:=12) rfl ?_);refine goesL_ (some 81) rfl rfl Try.func12 (by kernel_rfl) rfl #[.agg #[.int .i64 t333,.slice Ao123 t334.length co123],.agg #[.int .i64 t300,.slice Ao22 t301.length co22]] rfl (by (try simp only [zz26,zz27,zz28]);first | done | rfl | (simp only [zz24,zz25];rfl)) ?_;(with_reducible refine (laws_eqParty.calls kj59 t333 _ _ t334 t300 _ _ t301 false _ ?side1 ?side2 ?side3 ?side4 A124.out).mono ?_);(case side1=>refine (Kd.R_reads' (e:=70) (base:=w.heap.size) (ok:=fun k_=>((((True∧some k_ ≠ (.slice Ao22 t301.length co22:Value).ownBlock)∧some k_ ≠ (.slice Ao29 t324.length co29:Value).ownBlock)∧some k_ ≠ (.slice Ao36 t312.length co36:Value).ownBlock)∧some k_ ≠ (.slice Ao115 t330.length co115:Value).ownBlock)) (n:=t334.length) (c:=co123) ?_).2.2;exact (by (with_reducible repeat (first | apply zz12 | apply zz13 | apply zz14));exact (Kd.R_mono (Kd.R_far (p:=⟨gb338,1,none⟩) (Kd.R_far (p:=⟨gb338,0,none⟩) (Kd.R_types HO336.out BK338.out (by decide)) (fun _ hk=>hk.2) (.int .i64 t333)) (fun _ hk=>hk.2) (.slice Ao123 t334.length co123)) (fun _ h_=>h_.1))));(case side2=>exact (Kd.R_reads' HO336.out).2.1);(case side3=>refine (Kd.R_reads' (e:=70) (base:=w.heap.size) (ok:=fun k_=>(((some k_ ≠ (.slice Ao29 t324.length co29:Value).ownBlock∧some k_ ≠ (.slice Ao36 t312.length co36:Value).ownBlock)∧some k_ ≠ (.slice Ao115 t330.length co115:Value).ownBlock)∧some k_ ≠ (.slice Ao123 t334.length co123:Value).ownBlock)) (n:=t301.length) (c:=co22) ?_).2.2;exact (by (with_reducible repeat (first | apply zz12 | apply zz13 | apply zz14));exact (Kd.R_mono (Kd.R_far (p:=⟨gb338,1,none⟩) (Kd.R_far (p:=⟨gb338,0,none⟩) (Kd.R_types HO_306001.out BK338.out (by decide)) (fun _ hk=>hk.2) (.int .i64 t333)) (fun _ hk=>hk.2) (.slice Ao123 t334.length co123)) (fun _ h_=>h_.1))));(case side4=>exact (Kd.R_reads' HO_306001.out).2.1);rintro e w145 ⟨rfl,hb⟩;refine ⟨_,rfl,?_⟩;have n0_:=zz31 (Kd.R_below (by (with_reducible repeat (first | apply zz12 | apply zz13 | apply zz14));exact (Kd.R_mono (Kd.R_far (p:=⟨gb338,1,none⟩) (Kd.R_far (p:=⟨gb338,0,none⟩) (Kd.R_types HO_306001.out BK338.out (by decide)) (fun _ hk=>hk.2) (.int .i64 t333)) (fun _ hk=>hk.2) (.slice Ao123 t334.length co123)) (fun _ h_=>h_.1))) hb);have n1_:=zz31 (Kd.R_below (by (with_reducible repeat (first | apply zz12 | apply zz13 | apply zz14));exact (Kd.R_mono (Kd.R_far (p:=⟨gb338,1,none⟩) (Kd.R_far (p:=⟨gb338,0,none⟩) (Kd.R_types HO_311001.out BK338.out (by decide)) (fun _ hk=>hk.2) (.int .i64 t333)) (fun _ hk=>hk.2) (.slice Ao123 t334.length co123)) (fun _ h_=>h_.1))) hb);have n2_:=zz31 (Kd.R_below (by (with_reducible repeat (first | apply zz12 | apply zz13 | apply zz14));exact (Kd.R_mono (Kd.R_far (p:=⟨gb338,1,none⟩) (Kd.R_far (p:=⟨gb338,0,none⟩) (Kd.R_types HO_317001.out BK338.out (by decide)) (fun _ hk=>hk.2) (.int .i64 t333)) (fun _ hk=>hk.2) (.slice Ao123 t334.length co123)) (fun _ h_=>h_.1))) hb);have n3_:=zz31 (Kd.R_below (by (with_reducible repeat (first | apply zz12 | apply zz13 | apply zz14));exact (Kd.R_mono (Kd.R_far (p:=⟨gb338,1,none⟩) (Kd.R_far (p:=⟨gb338,0,none⟩) (Kd.R_types HO332.out BK338.out (by decide)) (fun _ hk=>hk.2) (.int .i64 t333)) (fun _ hk=>hk.2) (.slice Ao123 t334.length co123)) (fun _ h_=>h_.1))) hb);have n4_:=zz31 (Kd.R_below (by (with_reducible repeat (first | apply zz12 | apply zz13 | apply zz14));exact (Kd.R_mono (Kd.R_far (p:=⟨gb338,1,none⟩) (Kd.R_far (p:=⟨gb338,0,none⟩) (Kd.R_types HO336.out BK338.out (by decide)) (fun _ hk=>hk.2) (.int .i64 t333)) (fun _ hk=>hk.2) (.slice Ao123 t334.length co123)) (fun _ h_=>h_.1))) hb);have n5_:=zz31 (zz11 (g:=gb294) (o:=.cells #[.int .i64 a0_0,.slice A0_1 l0_1.length c0_1] 24 (0,0)) (by (with_reducible repeat (first | refine zz6 ?_ _ | refine zz7 ?_ | refine zz8 ?_ _));refine blk_far ?_ NB294_338.out _;(with_reducible repeat (first | refine zz6 ?_ _ | refine zz7 ?_ | refine zz8 ?_ _));refine blk_far ?_ NB294_338.out _;(with_reducible repeat (first | refine zz6 ?_ _ | refine zz7 ?_ | refine zz8 ?_ _));exact BK294.out) hb);have n6_:=zz31 (zz11 (g:=gb305) (o:=.cells #[.int .i64 t300,.slice Ao22 t301.length co22] 30 (0,0)) (by (with_reducible repeat (first | refine zz6 ?_ _ | refine zz7 ?_ | refine zz8 ?_ _));refine blk_far ?_ NB305_338.out _;(with_reducible repeat (first | refine zz6 ?_ _ | refine zz7 ?_ | refine zz8 ?_ _));refine blk_far ?_ NB305_338.out _;(with_reducible repeat (first | refine zz6 ?_ _ | refine zz7 ?_ | refine zz8 ?_ _));exact BK305.out) hb);have n7_:=zz31 (zz11 (g:=gb310) (o:=.cells #[.int .i64 t306,.slice Ao29 t324.length co29] 30 (0,0)) (by (with_reducible repeat (first | refine zz6 ?_ _ | refine zz7 ?_ | refine zz8 ?_ _));refine blk_far ?_ NB310_338.out _;(with_reducible repeat (first | refine zz6 ?_ _ | refine zz7 ?_ | refine zz8 ?_ _));refine blk_far ?_ NB310_338.out _;(with_reducible repeat (first | refine zz6 ?_ _ | refine zz7 ?_ | refine zz8 ?_ _));exact BK310.out) hb);have n8_:=zz31 (zz11 (g:=gb316) (o:=.cells #[.int .i64 t311,.slice Ao36 t312.length co36] 30 (0,0)) (by (with_reducible repeat (first | refine zz6 ?_ _ | refine zz7 ?_ | refine zz8 ?_ _));refine blk_far ?_ NB316_338.out _;(with_reducible repeat (first | refine zz6 ?_ _ | refine zz7 ?_ | refine zz8 ?_ _));refine blk_far ?_ NB316_338.out _;(with_reducible repeat (first | refine zz6 ?_ _ | refine zz7 ?_ | refine zz8 ?_ _));exact BK316.out) hb);have n9_:=zz31 (zz11 (g:=gb338) (o:=.cells #[.int .i64 t333,.slice Ao123 t334.length co123] 30 (0,0)) (by (with_reducible repeat (first | refine zz6 ?_ _ | refine zz7 ?_ | refine zz8 ?_ _));refine blk_put (cs:=#[.int .i64 t333,.slice none 0 0]) ?_ 1 _ rfl;(with_reducible repeat (first | refine zz6 ?_ _ | refine zz7 ?_ | refine zz8 ?_ _));refine blk_put (cs:=#[.int .i64 0,.slice none 0 0]) ?_ 0 _ rfl;(with_reducible repeat (first | refine zz6 ?_ _ | refine zz7 ?_ | refine zz8 ?_ _));exact BK338.out) hb);have n10_:=zz31 (zz4 (by repeat first | exact HB.out | apply zz2 | apply zz0 | apply zz1 | refine zz3 ?_ GE294.out | refine zz3 ?_ GE305.out | refine zz3 ?_ GE310.out | refine zz3 ?_ GE316.out | refine zz3 ?_ GE338.out) hb);clear HO_306001;clear HO_311001;clear HO_317001;clear HO332;clear HO336;clear BK294;clear BK305;clear BK310;clear BK316;clear BK338;clear HB;have HO_306001:=n0_;have HO_311001:=n1_;have HO_317001:=n2_;have HO332:=n3_;have HO336:=n4_;have BK294:=n5_;have BK305:=n6_;have BK310:=n7_;have BK316:=n8_;have BK338:=n9_;have HB:=n10_;clear n0_ n1_ n2_ n3_ n4_ n5_ n6_ n7_ n8_ n9_ n10_;(try clear hb);(try clear hb2);(try clear hk);(try clear hi)))
             go_meet
             case rel=>exact ⟨_,(true),(by first | rfl | (simp;done) | (simp [*];done)),H',⟨by have:=HJ10.out;have:=HJ59.out;first | omega | exact Nat.le_refl _⟩,⟨by (try simp only [hl311001_59]);(with_reducible repeat (first | apply zz12 | apply zz13 | apply zz14));exact Kd.R_mono HO_306001.out (fun _ hk=>⟨hk.1.1.1,⟨hk.1.1.2,hk.2⟩⟩)⟩,⟨by (try simp only [hl311001_59]);(with_reducible repeat (first | apply zz12 | apply zz13 | apply zz14));exact Kd.R_mono HO_311001.out (fun _ hk=>⟨hk.1.1.1,⟨hk.1.1.2,hk.2⟩⟩)⟩,⟨by (try simp only [hl311001_59]);(with_reducible repeat (first | apply zz12 | apply zz13 | apply zz14));exact Kd.R_mono HO_317001.out (fun _ hk=>⟨hk.1.1.1,⟨hk.1.1.2,hk.2⟩⟩)⟩,⟨by (try simp only [hl311001_59]);(with_reducible repeat (first | apply zz12 | apply zz13 | apply zz14));exact Kd.R_mono HO336.out (fun _ hk=>⟨hk.1.1.1.2,⟨hk.1.1.2,hk.1.2⟩⟩)⟩,⟨by (try simp only [hl311001_59]);(with_reducible repeat (first | refine zz6 ?_ _ | refine zz7 ?_ | refine zz8 ?_ _));exact BK294.out⟩,⟨by (try simp only [hl311001_59]);(with_reducible repeat (first | refine zz6 ?_ _ | refine zz7 ?_ | refine zz8 ?_ _));exact BK305.out⟩,⟨by (try simp only [hl311001_59]);(with_reducible repeat (first | refine zz6 ?_ _ | refine zz7 ?_ | refine zz8 ?_ _));exact BK310.out⟩,⟨by (try simp only [hl311001_59]);(with_reducible repeat (first | refine zz6 ?_ _ | refine zz7 ?_ | refine zz8 ?_ _));exact BK316.out⟩,⟨by (try simp only [hl311001_59]);(with_reducible repeat (first | refine zz6 ?_ _ | refine zz7 ?_ | refine zz8 ?_ _));exact BK338.out⟩,⟨by repeat first | exact HB.out | apply zz2 | apply zz0 | apply zz1 | refine zz3 ?_ GE294.out | refine zz3 ?_ GE305.out | refine zz3 ?_ GE310.out | refine zz3 ?_ GE316.out | refine zz3 ?_ GE338.out⟩⟩
           case rest =>
            clear HC103
            try clear c1
            try clear c2
            try clear p2
            try clear c3
            try clear c3b0
            try clear c4
            try clear c5
            try clear c6
            try clear c7
            try clear c8
            try clear c9
            try clear c10
            try clear c11
            try clear c12
            try clear c13
            try clear c14
            try clear c15
            try clear c16
            try clear c17
            try clear c18
            try clear c20
            try clear c26
            try clear c27
            try clear c32
            try clear c33
            try clear c34
            try clear c38
            try clear c39
            try clear c40
            try clear c41
            try clear c43
            try clear c44
            try clear c47
            try clear c48
            try clear c49
            try clear c51
            try clear c52
            try clear c55
            try clear c58
            try clear c65
            try clear c66
            try clear c67
            try clear c70
            try clear c70b0
            try clear c72
            try clear c73
            try clear c74
            try clear c75
            try clear c77
            try clear c78
            try clear c81
            try clear c82
            try clear c83
            try clear c85
            try clear c86
            try clear c89
            try clear c92
            try clear c92b0
            try clear c93
            try clear c94
            try clear c95
            try clear c100
            try clear c100b0
            try clear c100b1
            try clear c104
            try clear c105
            try clear c106
            try clear c111
            try clear c112
            try clear c118
            try clear c119
            try clear c120
            try clear c121
            try clear c125
            try clear c126
            try clear c127
            try clear c128
            try clear c129
            try clear c131
            try clear c132
            try clear c133
            try clear c136
            try clear c137
            try clear c138
            try clear c139
            try clear c141
            try clear c142
            try clear c143
            try clear hcz107_0
            try clear hcz107_1
            try clear hcz109_0
            try clear hcz109_1
            try clear hcz113_0
            try clear hcz113_1
            try clear hcz122_0
            try clear hcz122_1
            try clear hcz130_0
            try clear hcz130_1
            try clear hcz134_0
            try clear hcz134_1
            try clear hcz13_0
            try clear hcz13_1
            try clear hcz140_0
            try clear hcz140_1
            try clear hcz144_0
            try clear hcz144_1
            try clear hcz15_0
            try clear hcz15_1
            try clear hcz21_0
            try clear hcz21_1
            try clear hcz23_0
            try clear hcz23_1
            try clear hcz28_0
            try clear hcz28_1
            try clear hcz35_0
            try clear hcz35_1
            try clear hcz42_0
            try clear hcz42_1
            try clear hcz45_0
            try clear hcz45_1
            try clear hcz50_0
            try clear hcz50_1
            try clear hcz53_0
            try clear hcz53_1
            try clear hcz5_0
            try clear hcz5_1
            try clear hcz68_0
            try clear hcz68_1
            try clear hcz76_0
            try clear hcz76_1
            try clear hcz79_0
            try clear hcz79_1
            try clear hcz84_0
            try clear hcz84_1
            try clear hcz87_0
            try clear hcz87_1
            try clear hcz96_0
            try clear hcz96_1
            try clear hcz98_0
            try clear hcz98_1
            try clear hfz107_0
            try clear hfz107_1
            try clear hfz109_0
            try clear hfz109_1
            try clear hfz113_0
            try clear hfz113_1
            try clear hfz122_0
            try clear hfz122_1
            try clear hfz130_0
            try clear hfz130_1
            try clear hfz134_0
            try clear hfz134_1
            try clear hfz13_0
            try clear hfz13_1
            try clear hfz140_0
            try clear hfz140_1
            try clear hfz144_0
            try clear hfz144_1
            try clear hfz15_0
            try clear hfz15_1
            try clear hfz21_0
            try clear hfz21_1
            try clear hfz23_0
            try clear hfz23_1
            try clear hfz28_0
            try clear hfz28_1
            try clear hfz35_0
            try clear hfz35_1
            try clear hfz42_0
            try clear hfz42_1
            try clear hfz45_0
            try clear hfz45_1
            try clear hfz50_0
            try clear hfz50_1
            try clear hfz53_0
            try clear hfz53_1
            try clear hfz5_0
            try clear hfz5_1
            try clear hfz68_0
            try clear hfz68_1
            try clear hfz76_0
            try clear hfz76_1
            try clear hfz79_0
            try clear hfz79_1
            try clear hfz84_0
            try clear hfz84_1
            try clear hfz87_0
            try clear hfz87_1
            try clear hfz96_0
            try clear hfz96_1
            try clear hfz98_0
            try clear hfz98_1
            try clear p2
            obtain ⟨kq,x87_102,rfl,HA,HJ102,HO_306001,HO_311001,HO_317001,HO_339001,BK294,BK305,BK310,BK316,BK338,HB⟩:=hcut
            have hl317001_102:=(Kd.R_reads' HO_317001.out).1
            rw [hl317001_102] at HO_317001
            (try simp only [hl317001_102])
            (try simp only [hl317001_102] at BK294)
            (try simp only [hl317001_102] at BK305)
            (try simp only [hl317001_102] at BK310)
            (try simp only [hl317001_102] at BK316)
            (try simp only [hl317001_102] at BK338)
            (try simp only [hl317001_102] at HO_306001)
            (try simp only [hl317001_102] at HO_311001)
            (try simp only [hl317001_102] at HO_339001)
            cases kq with
            | zero=>exact absurd HA.out (by simp [laws_FnExactLeastParty.j2])
            | succ kj102 =>
             have H:=HA.out
             clear HA
             simp only [laws_FnExactLeastParty.j2] at H
             by_cases c146:x87_102=true
             ·subst c146
              have H1:(some false)=some r:=by rw [if_pos rfl] at H;exact H
              clear H
              have H:=H1
              clear H1
              obtain rfl:=Option.some.inj H
              go_wp2
              go_ret
              exact ⟨by first | rfl | (simp [errW_none,errW_some] <;> rfl) | (simp [*,errW_none,errW_some] <;> rfl),by repeat first | exact HB.out | apply zz2 | apply zz0 | apply zz1 | refine zz3 ?_ GE294.out | refine zz3 ?_ GE305.out | refine zz3 ?_ GE310.out | refine zz3 ?_ GE316.out | refine zz3 ?_ GE338.out⟩
             ·replace c146:=Bool.eq_false_iff.mpr c146
              subst c146
              have H1:((laws_heldParty.f kj102 t311 t327 1).bind fun t340=>(if t340 < 0 then (some false) else (if t340=t326 then (some true) else (some false))))=some r:=by rw [if_neg (show ¬ (false=true) by decide)] at H;exact H
              clear H
              have H:=H1
              clear H1
              replace H:=zz30.mp H
              obtain ⟨t340,A1470,H⟩:=H
              replace H:(if t340 < 0 then (some false) else (if t340=t326 then (some true) else (some false)))=some r:=H
              have A147:=zz31 A1470
              clear A1470
              by_cases c148:t340 < 0
              ·rw [if_pos c148] at H
               have c148b0:decide (t340 < 0)=true:=decide_eq_true c148
               clear c148
               obtain rfl:=Option.some.inj H
               have hnb149:=NB316_294.out
               have hnc149:=NB294_316.out
               have hnb150:=NB316_305.out
               have hnc150:=NB305_316.out
               have hnb151:=NB316_310.out
               have hnc151:=NB310_316.out
               have hnb152:=NB316_338.out
               have hnc152:=NB338_316.out
               have hcz153_0:wc.cell? ⟨gb316,0,none⟩=some (.int .i64 t311):=(zz9 BK316.out 0).trans rfl
               have hcz153_1:wc.cell? ⟨gb316,1,none⟩=some (.slice Ao36 t327.length co36):=(zz9 BK316.out 1).trans rfl
               have hfz153_0:=zz10 BK316.out 0
               have hfz153_1:=zz10 BK316.out 1
               go_wp2_with (first | ((with_reducible refine gate_callee (f:=18) rfl ?_);refine goesL_ (some 90) rfl rfl Try.func18 (by kernel_rfl) rfl #[.agg #[.int .i64 t311,.slice Ao36 t327.length co36],.int .i64 1] rfl (by (try simp only [zz26,zz27,zz28]);first | done | rfl | (simp only [zz24,zz25];rfl)) ?_;(with_reducible refine (laws_heldParty.calls kj102 t311 _ _ t327 1 t340 _ ?side1 ?side2 A147.out).mono ?_);(case side1=>repeat (first | exact (Kd.R_reads' HO_317001.out).2.2 | (with_reducible refine zz18 ?_ _) | (with_reducible refine zz19 ?_ _) | (with_reducible refine zz20 ?_)));(case side2=>exact (Kd.R_reads' HO_317001.out).2.1);rintro e w154 ⟨rfl,hb⟩;refine ⟨_,rfl,?_⟩;have n0_:=zz31 (Kd.R_below (by (with_reducible repeat (first | apply zz12 | apply zz13 | apply zz14));exact HO_306001.out) hb);have n1_:=zz31 (Kd.R_below (by (with_reducible repeat (first | apply zz12 | apply zz13 | apply zz14));exact HO_311001.out) hb);have n2_:=zz31 (Kd.R_below (by (with_reducible repeat (first | apply zz12 | apply zz13 | apply zz14));exact HO_317001.out) hb);have n3_:=zz31 (Kd.R_below (by (with_reducible repeat (first | apply zz12 | apply zz13 | apply zz14));exact HO_339001.out) hb);have n4_:=zz31 (zz11 (g:=gb294) (o:=.cells #[.int .i64 a0_0,.slice A0_1 l0_1.length c0_1] 24 (0,0)) (by (with_reducible repeat (first | refine zz6 ?_ _ | refine zz7 ?_ | refine zz8 ?_ _));exact BK294.out) hb);have n5_:=zz31 (zz11 (g:=gb305) (o:=.cells #[.int .i64 t300,.slice Ao22 t301.length co22] 30 (0,0)) (by (with_reducible repeat (first | refine zz6 ?_ _ | refine zz7 ?_ | refine zz8 ?_ _));exact BK305.out) hb);have n6_:=zz31 (zz11 (g:=gb310) (o:=.cells #[.int .i64 t306,.slice Ao29 t324.length co29] 30 (0,0)) (by (with_reducible repeat (first | refine zz6 ?_ _ | refine zz7 ?_ | refine zz8 ?_ _));exact BK310.out) hb);have n7_:=zz31 (zz11 (g:=gb316) (o:=.cells #[.int .i64 t311,.slice Ao36 t327.length co36] 30 (0,0)) (by (with_reducible repeat (first | refine zz6 ?_ _ | refine zz7 ?_ | refine zz8 ?_ _));exact BK316.out) hb);have n8_:=zz31 (zz11 (g:=gb338) (o:=.cells #[.int .i64 t333,.slice Ao123 t334.length co123] 30 (0,0)) (by (with_reducible repeat (first | refine zz6 ?_ _ | refine zz7 ?_ | refine zz8 ?_ _));exact BK338.out) hb);have n9_:=zz31 (zz4 (by repeat first | exact HB.out | apply zz2 | apply zz0 | apply zz1 | refine zz3 ?_ GE294.out | refine zz3 ?_ GE305.out | refine zz3 ?_ GE310.out | refine zz3 ?_ GE316.out | refine zz3 ?_ GE338.out) hb);clear HO_306001;clear HO_311001;clear HO_317001;clear HO_339001;clear BK294;clear BK305;clear BK310;clear BK316;clear BK338;clear HB;have HO_306001:=n0_;have HO_311001:=n1_;have HO_317001:=n2_;have HO_339001:=n3_;have BK294:=n4_;have BK305:=n5_;have BK310:=n6_;have BK316:=n7_;have BK338:=n8_;have HB:=n9_;clear n0_ n1_ n2_ n3_ n4_ n5_ n6_ n7_ n8_ n9_;(try clear hb);(try clear hb2);(try clear hk);(try clear hi)))
               go_ret
               exact ⟨by first | rfl | (simp [errW_none,errW_some] <;> rfl) | (simp [*,errW_none,errW_some] <;> rfl),by repeat first | exact HB.out | apply zz2 | apply zz0 | apply zz1 | refine zz3 ?_ GE294.out | refine zz3 ?_ GE305.out | refine zz3 ?_ GE310.out | refine zz3 ?_ GE316.out | refine zz3 ?_ GE338.out⟩
              ·rw [if_neg c148] at H
               have c148b0:decide (t340 < 0)=false:=decide_eq_false c148
               clear c148
               by_cases c155:t340=t326
               ·rw [if_pos c155] at H
                have c155b0:(t340 == t326)=true:=beq_iff_eq.mpr c155
                have c155b1:(t340 != t326)=false:=bne_eq_false_iff_eq.mpr c155
                clear c155
                obtain rfl:=Option.some.inj H
                have hnb156:=NB316_294.out
                have hnc156:=NB294_316.out
                have hnb157:=NB316_305.out
                have hnc157:=NB305_316.out
                have hnb158:=NB316_310.out
                have hnc158:=NB310_316.out
                have hnb159:=NB316_338.out
                have hnc159:=NB338_316.out
                have hcz160_0:wc.cell? ⟨gb316,0,none⟩=some (.int .i64 t311):=(zz9 BK316.out 0).trans rfl
                have hcz160_1:wc.cell? ⟨gb316,1,none⟩=some (.slice Ao36 t327.length co36):=(zz9 BK316.out 1).trans rfl
                have hfz160_0:=zz10 BK316.out 0
                have hfz160_1:=zz10 BK316.out 1
                go_wp2_with (first | ((with_reducible refine gate_callee (f:=18) rfl ?_);refine goesL_ (some 90) rfl rfl Try.func18 (by kernel_rfl) rfl #[.agg #[.int .i64 t311,.slice Ao36 t327.length co36],.int .i64 1] rfl (by (try simp only [zz26,zz27,zz28]);first | done | rfl | (simp only [zz24,zz25];rfl)) ?_;(with_reducible refine (laws_heldParty.calls kj102 t311 _ _ t327 1 t340 _ ?side1 ?side2 A147.out).mono ?_);(case side1=>repeat (first | exact (Kd.R_reads' HO_317001.out).2.2 | (with_reducible refine zz18 ?_ _) | (with_reducible refine zz19 ?_ _) | (with_reducible refine zz20 ?_)));(case side2=>exact (Kd.R_reads' HO_317001.out).2.1);rintro e w161 ⟨rfl,hb⟩;refine ⟨_,rfl,?_⟩;have n0_:=zz31 (Kd.R_below (by (with_reducible repeat (first | apply zz12 | apply zz13 | apply zz14));exact HO_306001.out) hb);have n1_:=zz31 (Kd.R_below (by (with_reducible repeat (first | apply zz12 | apply zz13 | apply zz14));exact HO_311001.out) hb);have n2_:=zz31 (Kd.R_below (by (with_reducible repeat (first | apply zz12 | apply zz13 | apply zz14));exact HO_317001.out) hb);have n3_:=zz31 (Kd.R_below (by (with_reducible repeat (first | apply zz12 | apply zz13 | apply zz14));exact HO_339001.out) hb);have n4_:=zz31 (zz11 (g:=gb294) (o:=.cells #[.int .i64 a0_0,.slice A0_1 l0_1.length c0_1] 24 (0,0)) (by (with_reducible repeat (first | refine zz6 ?_ _ | refine zz7 ?_ | refine zz8 ?_ _));exact BK294.out) hb);have n5_:=zz31 (zz11 (g:=gb305) (o:=.cells #[.int .i64 t300,.slice Ao22 t301.length co22] 30 (0,0)) (by (with_reducible repeat (first | refine zz6 ?_ _ | refine zz7 ?_ | refine zz8 ?_ _));exact BK305.out) hb);have n6_:=zz31 (zz11 (g:=gb310) (o:=.cells #[.int .i64 t306,.slice Ao29 t324.length co29] 30 (0,0)) (by (with_reducible repeat (first | refine zz6 ?_ _ | refine zz7 ?_ | refine zz8 ?_ _));exact BK310.out) hb);have n7_:=zz31 (zz11 (g:=gb316) (o:=.cells #[.int .i64 t311,.slice Ao36 t327.length co36] 30 (0,0)) (by (with_reducible repeat (first | refine zz6 ?_ _ | refine zz7 ?_ | refine zz8 ?_ _));exact BK316.out) hb);have n8_:=zz31 (zz11 (g:=gb338) (o:=.cells #[.int .i64 t333,.slice Ao123 t334.length co123] 30 (0,0)) (by (with_reducible repeat (first | refine zz6 ?_ _ | refine zz7 ?_ | refine zz8 ?_ _));exact BK338.out) hb);have n9_:=zz31 (zz4 (by repeat first | exact HB.out | apply zz2 | apply zz0 | apply zz1 | refine zz3 ?_ GE294.out | refine zz3 ?_ GE305.out | refine zz3 ?_ GE310.out | refine zz3 ?_ GE316.out | refine zz3 ?_ GE338.out) hb);clear HO_306001;clear HO_311001;clear HO_317001;clear HO_339001;clear BK294;clear BK305;clear BK310;clear BK316;clear BK338;clear HB;have HO_306001:=n0_;have HO_311001:=n1_;have HO_317001:=n2_;have HO_339001:=n3_;have BK294:=n4_;have BK305:=n5_;have BK310:=n6_;have BK316:=n7_;have BK338:=n8_;have HB:=n9_;clear n0_ n1_ n2_ n3_ n4_ n5_ n6_ n7_ n8_ n9_;(try clear hb);(try clear hb2);(try clear hk);(try clear hi)))
                go_ret
                exact ⟨by first | rfl | (simp [errW_none,errW_some] <;> rfl) | (simp [*,errW_none,errW_some] <;> rfl),by repeat first | exact HB.out | apply zz2 | apply zz0 | apply zz1 | refine zz3 ?_ GE294.out | refine zz3 ?_ GE305.out | refine zz3 ?_ GE310.out | refine zz3 ?_ GE316.out | refine zz3 ?_ GE338.out⟩
               ·rw [if_neg c155] at H
                have c155b0:(t340 == t326)=false:=beq_eq_false_iff_ne.mpr c155
                have c155b1:(t340 != t326)=true:=bne_iff_ne.mpr c155
                obtain rfl:=Option.some.inj H
                have hnb162:=NB316_294.out
                have hnc162:=NB294_316.out
                have hnb163:=NB316_305.out
                have hnc163:=NB305_316.out
                have hnb164:=NB316_310.out
                have hnc164:=NB310_316.out
                have hnb165:=NB316_338.out
                have hnc165:=NB338_316.out
                have hcz166_0:wc.cell? ⟨gb316,0,none⟩=some (.int .i64 t311):=(zz9 BK316.out 0).trans rfl
                have hcz166_1:wc.cell? ⟨gb316,1,none⟩=some (.slice Ao36 t327.length co36):=(zz9 BK316.out 1).trans rfl
                have hfz166_0:=zz10 BK316.out 0
                have hfz166_1:=zz10 BK316.out 1
                go_wp2_with (first | ((with_reducible refine gate_callee (f:=18) rfl ?_);refine goesL_ (some 90) rfl rfl Try.func18 (by kernel_rfl) rfl #[.agg #[.int .i64 t311,.slice Ao36 t327.length co36],.int .i64 1] rfl (by (try simp only [zz26,zz27,zz28]);first | done | rfl | (simp only [zz24,zz25];rfl)) ?_;(with_reducible refine (laws_heldParty.calls kj102 t311 _ _ t327 1 t340 _ ?side1 ?side2 A147.out).mono ?_);(case side1=>repeat (first | exact (Kd.R_reads' HO_317001.out).2.2 | (with_reducible refine zz18 ?_ _) | (with_reducible refine zz19 ?_ _) | (with_reducible refine zz20 ?_)));(case side2=>exact (Kd.R_reads' HO_317001.out).2.1);rintro e w167 ⟨rfl,hb⟩;refine ⟨_,rfl,?_⟩;have n0_:=zz31 (Kd.R_below (by (with_reducible repeat (first | apply zz12 | apply zz13 | apply zz14));exact HO_306001.out) hb);have n1_:=zz31 (Kd.R_below (by (with_reducible repeat (first | apply zz12 | apply zz13 | apply zz14));exact HO_311001.out) hb);have n2_:=zz31 (Kd.R_below (by (with_reducible repeat (first | apply zz12 | apply zz13 | apply zz14));exact HO_317001.out) hb);have n3_:=zz31 (Kd.R_below (by (with_reducible repeat (first | apply zz12 | apply zz13 | apply zz14));exact HO_339001.out) hb);have n4_:=zz31 (zz11 (g:=gb294) (o:=.cells #[.int .i64 a0_0,.slice A0_1 l0_1.length c0_1] 24 (0,0)) (by (with_reducible repeat (first | refine zz6 ?_ _ | refine zz7 ?_ | refine zz8 ?_ _));exact BK294.out) hb);have n5_:=zz31 (zz11 (g:=gb305) (o:=.cells #[.int .i64 t300,.slice Ao22 t301.length co22] 30 (0,0)) (by (with_reducible repeat (first | refine zz6 ?_ _ | refine zz7 ?_ | refine zz8 ?_ _));exact BK305.out) hb);have n6_:=zz31 (zz11 (g:=gb310) (o:=.cells #[.int .i64 t306,.slice Ao29 t324.length co29] 30 (0,0)) (by (with_reducible repeat (first | refine zz6 ?_ _ | refine zz7 ?_ | refine zz8 ?_ _));exact BK310.out) hb);have n7_:=zz31 (zz11 (g:=gb316) (o:=.cells #[.int .i64 t311,.slice Ao36 t327.length co36] 30 (0,0)) (by (with_reducible repeat (first | refine zz6 ?_ _ | refine zz7 ?_ | refine zz8 ?_ _));exact BK316.out) hb);have n8_:=zz31 (zz11 (g:=gb338) (o:=.cells #[.int .i64 t333,.slice Ao123 t334.length co123] 30 (0,0)) (by (with_reducible repeat (first | refine zz6 ?_ _ | refine zz7 ?_ | refine zz8 ?_ _));exact BK338.out) hb);have n9_:=zz31 (zz4 (by repeat first | exact HB.out | apply zz2 | apply zz0 | apply zz1 | refine zz3 ?_ GE294.out | refine zz3 ?_ GE305.out | refine zz3 ?_ GE310.out | refine zz3 ?_ GE316.out | refine zz3 ?_ GE338.out) hb);clear HO_306001;clear HO_311001;clear HO_317001;clear HO_339001;clear BK294;clear BK305;clear BK310;clear BK316;clear BK338;clear HB;have HO_306001:=n0_;have HO_311001:=n1_;have HO_317001:=n2_;have HO_339001:=n3_;have BK294:=n4_;have BK305:=n5_;have BK310:=n6_;have BK316:=n7_;have BK338:=n8_;have HB:=n9_;clear n0_ n1_ n2_ n3_ n4_ n5_ n6_ n7_ n8_ n9_;(try clear hb);(try clear hb2);(try clear hk);(try clear hi)))
                go_ret
                exact ⟨by first | rfl | (simp [errW_none,errW_some] <;> rfl) | (simp [*,errW_none,errW_some] <;> rfl),by repeat first | exact HB.out | apply zz2 | apply zz0 | apply zz1 | refine zz3 ?_ GE294.out | refine zz3 ?_ GE305.out | refine zz3 ?_ GE310.out | refine zz3 ?_ GE316.out | refine zz3 ?_ GE338.out⟩
          ·rw [if_neg c100] at H
           have c100b0:(t328 == t326)=false:=beq_eq_false_iff_ne.mpr c100
           have c100b1:(t328 != t326)=true:=bne_iff_ne.mpr c100
           obtain rfl:=Option.some.inj H
           have hnb168:=NB316_294.out
           have hnc168:=NB294_316.out
           have hnb169:=NB316_305.out
           have hnc169:=NB305_316.out
           have hnb170:=NB316_310.out
           have hnc170:=NB310_316.out
           have hcz171_0:wc.cell? ⟨gb316,0,none⟩=some (.int .i64 t311):=(zz9 BK316.out 0).trans rfl
           have hcz171_1:wc.cell? ⟨gb316,1,none⟩=some (.slice Ao36 t312.length co36):=(zz9 BK316.out 1).trans rfl
           have hfz171_0:=zz10 BK316.out 0
           have hfz171_1:=zz10 BK316.out 1
           go_wp2_with (first | ((with_reducible refine gate_callee (f:=17) rfl ?_);refine goesL_ (some 64) rfl rfl Try.func17 (by kernel_rfl) rfl #[.agg #[.int .i64 t311,.slice Ao36 t312.length co36],.int .i64 1] rfl (by (try simp only [zz26,zz27,zz28]);first | done | rfl | (simp only [zz24,zz25];rfl)) ?_;(with_reducible refine (laws_markParty.calls kj59 t311 (fun k_=>some k_=(.slice Ao36 t312.length co36:Value).ownBlock) (.slice Ao36 t312.length co36) t312 1 t326 t327 w _ ?side1 ?side2 A90.out).mono ?_);(case side1=>repeat first | exact HB.out | apply zz2 | apply zz0 | apply zz1 | refine zz3 ?_ GE294.out | refine zz3 ?_ GE305.out | refine zz3 ?_ GE310.out | refine zz3 ?_ GE316.out);(case side2=>exact Kd.R_tight rfl HO_317001.out);rintro e w172 ⟨rfl,hy0,hb,hkp⟩;refine ⟨_,rfl,?_⟩;have n0_:=zz31 (Kd.R_mono (ok':=fun k_=>some k_ ≠ (.slice Ao29 t324.length co29:Value).ownBlock∧some k_ ≠ (.slice Ao36 t312.length co36:Value).ownBlock) (Kd.R_keptB (HO_306001.out) hkp (fun k_ hk_ hs_=>(hk_.2) hs_)) (fun k_ hk_=>⟨hk_.1.1,hk_.1.2⟩));have n1_:=zz31 (Kd.R_mono (ok':=fun k_=>some k_ ≠ (.slice Ao22 t301.length co22:Value).ownBlock∧some k_ ≠ (.slice Ao36 t312.length co36:Value).ownBlock) (Kd.R_keptB (HO_311001.out) hkp (fun k_ hk_ hs_=>(hk_.2) hs_)) (fun k_ hk_=>⟨hk_.1.1,hk_.1.2⟩));have n2_:=zz31 (Kd.R_reok rfl hy0 (fun k_ e_=>HO_317001.out.1 k_ e_));(first | have n3_:=zz31 (blk_kept BK294.out hkp (fun hs_=>(fun e_=>(Kd.R_ne HO_317001.out BK294.out (by decide)) e_) hs_)) | have n3_:=zz31 (blk_kept (by (with_reducible repeat (first | refine zz6 ?_ _ | refine zz7 ?_ | refine zz8 ?_ _));exact BK294.out) hkp (fun hs_=>(fun e_=>(Kd.R_ne HO_317001.out BK294.out (by decide)) e_) hs_)));(first | have n4_:=zz31 (blk_kept BK305.out hkp (fun hs_=>(fun e_=>(Kd.R_ne HO_317001.out BK305.out (by decide)) e_) hs_)) | have n4_:=zz31 (blk_kept (by (with_reducible repeat (first | refine zz6 ?_ _ | refine zz7 ?_ | refine zz8 ?_ _));exact BK305.out) hkp (fun hs_=>(fun e_=>(Kd.R_ne HO_317001.out BK305.out (by decide)) e_) hs_)));(first | have n5_:=zz31 (blk_kept BK310.out hkp (fun hs_=>(fun e_=>(Kd.R_ne HO_317001.out BK310.out (by decide)) e_) hs_)) | have n5_:=zz31 (blk_kept (by (with_reducible repeat (first | refine zz6 ?_ _ | refine zz7 ?_ | refine zz8 ?_ _));exact BK310.out) hkp (fun hs_=>(fun e_=>(Kd.R_ne HO_317001.out BK310.out (by decide)) e_) hs_)));(first | have n6_:=zz31 (blk_kept BK316.out hkp (fun hs_=>(fun e_=>(Kd.R_ne HO_317001.out BK316.out (by decide)) e_) hs_)) | have n6_:=zz31 (blk_kept (by (with_reducible repeat (first | refine zz6 ?_ _ | refine zz7 ?_ | refine zz8 ?_ _));exact BK316.out) hkp (fun hs_=>(fun e_=>(Kd.R_ne HO_317001.out BK316.out (by decide)) e_) hs_)));have n7_:=zz31 (hb);clear HO_306001;clear HO_311001;clear HO_317001;clear BK294;clear BK305;clear BK310;clear BK316;clear HB;have HO_306001:=n0_;have HO_311001:=n1_;have HO_317001:=n2_;have BK294:=n3_;have BK305:=n4_;have BK310:=n5_;have BK316:=n6_;have HB:=n7_;clear n0_ n1_ n2_ n3_ n4_ n5_ n6_ n7_;(try clear hb);(try clear hkp);(try clear hy0);have hcz173_0:w172.cell? ⟨gb316,0,none⟩=some (.int .i64 t311):=(zz9 BK316.out 0).trans rfl;have hcz173_1:w172.cell? ⟨gb316,1,none⟩=some (.slice Ao36 t312.length co36):=(zz9 BK316.out 1).trans rfl;have hfz173_0:=zz10 BK316.out 0;have hfz173_1:=zz10 BK316.out 1) | ((with_reducible refine gate_callee (f:=18) rfl ?_);refine goesL_ (some 67) rfl rfl Try.func18 (by kernel_rfl) rfl #[.agg #[.int .i64 t311,.slice Ao36 t327.length co36],.int .i64 1] rfl (by (try simp only [zz26,zz27,zz28]);first | done | (rw [show t327.length=t312.length from (Kd.R_reads' HO_317001.out).1.symm] <;> rfl) | rfl | (simp only [zz24,zz25];rfl)) ?_;(with_reducible refine (laws_heldParty.calls kj59 t311 _ _ t327 1 t328 _ ?side1 ?side2 A91.out).mono ?_);(case side1=>repeat (first | exact (Kd.R_reads' HO_317001.out).2.2 | (with_reducible refine zz18 ?_ _) | (with_reducible refine zz19 ?_ _) | (with_reducible refine zz20 ?_)));(case side2=>rw [show t327.length=t312.length from (Kd.R_reads' HO_317001.out).1.symm];exact (Kd.R_reads' HO_317001.out).2.1);rintro e w174 ⟨rfl,hb⟩;refine ⟨_,rfl,?_⟩;have n0_:=zz31 (Kd.R_below (by (with_reducible repeat (first | apply zz12 | apply zz13 | apply zz14));exact HO_306001.out) hb);have n1_:=zz31 (Kd.R_below (by (with_reducible repeat (first | apply zz12 | apply zz13 | apply zz14));exact HO_311001.out) hb);have n2_:=zz31 (Kd.R_below (by (with_reducible repeat (first | apply zz12 | apply zz13 | apply zz14));exact HO_317001.out) hb);have n3_:=zz31 (zz11 (g:=gb294) (o:=.cells #[.int .i64 a0_0,.slice A0_1 l0_1.length c0_1] 24 (0,0)) (by (with_reducible repeat (first | refine zz6 ?_ _ | refine zz7 ?_ | refine zz8 ?_ _));exact BK294.out) hb);have n4_:=zz31 (zz11 (g:=gb305) (o:=.cells #[.int .i64 t300,.slice Ao22 t301.length co22] 30 (0,0)) (by (with_reducible repeat (first | refine zz6 ?_ _ | refine zz7 ?_ | refine zz8 ?_ _));exact BK305.out) hb);have n5_:=zz31 (zz11 (g:=gb310) (o:=.cells #[.int .i64 t306,.slice Ao29 t324.length co29] 30 (0,0)) (by (with_reducible repeat (first | refine zz6 ?_ _ | refine zz7 ?_ | refine zz8 ?_ _));exact BK310.out) hb);have n6_:=zz31 (zz11 (g:=gb316) (o:=.cells #[.int .i64 t311,.slice Ao36 t312.length co36] 30 (0,0)) (by (with_reducible repeat (first | refine zz6 ?_ _ | refine zz7 ?_ | refine zz8 ?_ _));exact BK316.out) hb);have n7_:=zz31 (zz4 (by repeat first | exact HB.out | apply zz2 | apply zz0 | apply zz1 | refine zz3 ?_ GE294.out | refine zz3 ?_ GE305.out | refine zz3 ?_ GE310.out | refine zz3 ?_ GE316.out) hb);clear HO_306001;clear HO_311001;clear HO_317001;clear BK294;clear BK305;clear BK310;clear BK316;clear HB;have HO_306001:=n0_;have HO_311001:=n1_;have HO_317001:=n2_;have BK294:=n3_;have BK305:=n4_;have BK310:=n5_;have BK316:=n6_;have HB:=n7_;clear n0_ n1_ n2_ n3_ n4_ n5_ n6_ n7_;(try clear hb);(try clear hb2);(try clear hk);(try clear hi)))
           go_ret
           exact ⟨by first | rfl | (simp [errW_none,errW_some] <;> rfl) | (simp [*,errW_none,errW_some] <;> rfl),by repeat first | exact HB.out | apply zz2 | apply zz0 | apply zz1 | refine zz3 ?_ GE294.out | refine zz3 ?_ GE305.out | refine zz3 ?_ GE310.out | refine zz3 ?_ GE316.out⟩
     ·replace c58:=Bool.eq_false_iff.mpr c58
      subst c58
      have H1:(some false)=some r:=by rw [if_neg (show ¬ (false=true) by decide)] at H;exact H
      clear H
      have H:=H1
      clear H1
      obtain rfl:=Option.some.inj H
      try go_wp2
      have n0_:=zz31 (zz14 HO_306001.out)
      have n1_:=zz31 (zz14 HO_311001.out)
      have n2_:=zz31 (zz14 HO_317001.out)
      have n3_:=zz31 (zz7 BK294.out)
      have n4_:=zz31 (zz7 BK305.out)
      have n5_:=zz31 (zz7 BK310.out)
      have n6_:=zz31 (zz7 BK316.out)
      have n7_:=zz31 (zz1 HB.out)
      clear HO_306001
      clear HO_311001
      clear HO_317001
      clear BK294
      clear BK305
      clear BK310
      clear BK316
      clear HB
      have HO_306001:=n0_
      have HO_311001:=n1_
      have HO_317001:=n2_
      have BK294:=n3_
      have BK305:=n4_
      have BK310:=n5_
      have BK316:=n6_
      have HB:=n7_
      clear n0_ n1_ n2_ n3_ n4_ n5_ n6_ n7_
      refine start_ (n:=5) (S:=fun w'=>w'.cell? ⟨gb310,0,none⟩=some (.int .i64 t306)∧w'.cell? ⟨gb310,1,none⟩=some (.slice Ao29 t307.length co29)∧w'.cell? ⟨gb294,0,none⟩=some (.int .i64 a0_0)∧w'.cell? ⟨gb294,1,none⟩=some (.slice A0_1 l0_1.length c0_1)) (ds:=[]) #[F,F,F,F,F] (by kernel_rfl) rfl rfl ⟨(zz9 BK310.out 0).trans rfl,(zz9 BK310.out 1).trans rfl,(zz9 BK294.out 0).trans rfl,(zz9 BK294.out 1).trans rfl⟩ (fun hHeld=>?_)
      generalize wc.drew=w175 at HO_306001 HO_311001 HO_317001 BK294 BK305 BK310 BK316 HB hHeld ⊢
      refine take_ (i:=0) (N:=some 41) (v:=?_) (a':=?_) #[T,F,F,F,F] rfl rfl (by kernel_rfl) (fun _ _ _ h=>h) (Or.inl ⟨by rfl,?_⟩) hHeld ?_ ?_
      rotate_left
      ·rintro w' ⟨s0,s1,s2,s3⟩
       go_simp
       with_reducible rfl
      rotate_left
      ·simp only [Act.put,zz21,zz22,zz23,i64_w,i32_w]
       rfl
      refine take_ (i:=1) (N:=some 42) (v:=?_) (a':=?_) #[T,T,F,F,F] rfl rfl (by kernel_rfl) (fun _ _ _ h=>h) (Or.inl ⟨by rfl,?_⟩) hHeld ?_ ?_
      rotate_left
      ·rintro w' ⟨s0,s1,s2,s3⟩
       go_simp
       with_reducible rfl
      rotate_left
      ·simp only [Act.put,zz21,zz22,zz23,i64_w,i32_w]
       rfl
      refine one_ (i:=2) (N:=some 43) #[T,T,T,F,F] rfl rfl (by kernel_rfl) (by decide) (fun K hK=>?_)
      refine goes_ Try.func10 (by kernel_rfl) rfl #[.agg #[.int .i64 a0_0,.slice A0_1 l0_1.length c0_1]] (by rfl) rfl rfl (by (try simp only [zz26,zz27,zz28]);first | done | rfl | (simp only [zz24,zz25];rfl)) ?_
      with_reducible refine (laws_toParty.calls kj10 a0_0 _ _ l0_1 t318 t319 _ ?side1 ?side2 A56.out).mono ?_
      (case side1=>repeat (first | exact (Kd.C_below HR0_1.out HB.out) | (with_reducible refine zz18 ?_ _) | (with_reducible refine zz19 ?_ _) | (with_reducible refine zz20 ?_)))
      (case side2=>exact HC0_1.out)
      rintro e w176 ⟨v320,rfl,ho0,hb⟩
      refine ⟨_,rfl,?_⟩
      have n0_:=zz31 (Kd.R_elder' (by (with_reducible repeat (first | apply zz12 | apply zz13 | apply zz14));exact HO_306001.out) (Kd.R_base ho0) hb)
      have n1_:=zz31 (Kd.R_elder' (by (with_reducible repeat (first | apply zz12 | apply zz13 | apply zz14));exact HO_311001.out) (Kd.R_base ho0) hb)
      have n2_:=zz31 (Kd.R_elder' (by (with_reducible repeat (first | apply zz12 | apply zz13 | apply zz14));exact HO_317001.out) (Kd.R_base ho0) hb)
      have n3_:=zz31 (Kd.R_lower (Kd.R_new' (Kd.R_new' (Kd.R_new' ho0 (Kd.R_lt (by (with_reducible repeat (first | apply zz12 | apply zz13 | apply zz14));exact HO_306001.out))) (Kd.R_lt (by (with_reducible repeat (first | apply zz12 | apply zz13 | apply zz14));exact HO_311001.out))) (Kd.R_lt (by (with_reducible repeat (first | apply zz12 | apply zz13 | apply zz14));exact HO_317001.out))) (zz5 (by repeat first | exact HB.out | apply zz2 | apply zz0 | apply zz1 | refine zz3 ?_ GE294.out | refine zz3 ?_ GE305.out | refine zz3 ?_ GE310.out | refine zz3 ?_ GE316.out)))
      have n4_:=zz31 (zz11 (g:=gb294) (o:=.cells #[.int .i64 a0_0,.slice A0_1 l0_1.length c0_1] 24 (0,0)) (by (with_reducible repeat (first | refine zz6 ?_ _ | refine zz7 ?_ | refine zz8 ?_ _));exact BK294.out) hb)
      have n5_:=zz31 (zz11 (g:=gb305) (o:=.cells #[.int .i64 t300,.slice Ao22 t301.length co22] 30 (0,0)) (by (with_reducible repeat (first | refine zz6 ?_ _ | refine zz7 ?_ | refine zz8 ?_ _));exact BK305.out) hb)
      have n6_:=zz31 (zz11 (g:=gb310) (o:=.cells #[.int .i64 t306,.slice Ao29 t307.length co29] 30 (0,0)) (by (with_reducible repeat (first | refine zz6 ?_ _ | refine zz7 ?_ | refine zz8 ?_ _));exact BK310.out) hb)
      have n7_:=zz31 (zz11 (g:=gb316) (o:=.cells #[.int .i64 t311,.slice Ao36 t312.length co36] 30 (0,0)) (by (with_reducible repeat (first | refine zz6 ?_ _ | refine zz7 ?_ | refine zz8 ?_ _));exact BK316.out) hb)
      have n8_:=zz31 (zz4 (by repeat first | exact HB.out | apply zz2 | apply zz0 | apply zz1 | refine zz3 ?_ GE294.out | refine zz3 ?_ GE305.out | refine zz3 ?_ GE310.out | refine zz3 ?_ GE316.out) hb)
      clear HO_306001
      clear HO_311001
      clear HO_317001
      clear BK294
      clear BK305
      clear BK310
      clear BK316
      clear HB
      have HO_306001:=n0_
      have HO_311001:=n1_
      have HO_317001:=n2_
      have HO321:=n3_
      have BK294:=n4_
      have BK305:=n5_
      have BK310:=n6_
      have BK316:=n7_
      have HB:=n8_
      clear n0_ n1_ n2_ n3_ n4_ n5_ n6_ n7_ n8_
      (try clear hb)
      (try clear hb2)
      (try clear hk)
      (try clear hi)
      (try clear ho0)
      obtain ⟨Ao177,co177,eo177⟩:=Kd.R_slice HO321.out
      (first | subst eo177 | (injection eo177 with f1_ f2_ f3_;have f4_:=f1_.symm;have f5_:=f3_.symm;clear f1_ f2_ f3_;subst f4_;subst f5_))
      refine hK.out _ _ ⟨(zz9 BK310.out 0).trans rfl,(zz9 BK310.out 1).trans rfl,(zz9 BK294.out 0).trans rfl,(zz9 BK294.out 1).trans rfl⟩ (fun hHeld=>?_)
      clear hK K
      refine norm_ (a':=?_) ?_ ?_
      rotate_left
      ·show Act.put _ (some 43) _=_
       simp only [Act.put,zz21,zz22,zz23,i64_w,i32_w]
       rfl
      refine one_ (i:=3) (N:=some 44) #[T,T,T,T,F] rfl rfl (by kernel_rfl) (by decide) (fun K hK=>?_)
      refine goes_ Try.func12 (by kernel_rfl) rfl #[.agg #[.int .i64 t306,.slice Ao29 t307.length co29],.agg #[.int .i64 t318,.slice Ao177 t319.length co177]] (by rfl) rfl rfl (by (try simp only [zz26,zz27,zz28]);first | done | rfl | (simp only [zz24,zz25];rfl)) ?_
      with_reducible refine (laws_eqParty.calls kj10 t306 _ _ t307 t318 _ _ t319 false _ ?side1 ?side2 ?side3 ?side4 A57.out).mono ?_
      (case side1=>repeat (first | exact (Kd.R_reads' HO_311001.out).2.2 | (with_reducible refine zz18 ?_ _) | (with_reducible refine zz19 ?_ _) | (with_reducible refine zz20 ?_)))
      (case side2=>exact (Kd.R_reads' HO_311001.out).2.1)
      (case side3=>repeat (first | exact (Kd.R_reads' HO321.out).2.2 | (with_reducible refine zz18 ?_ _) | (with_reducible refine zz19 ?_ _) | (with_reducible refine zz20 ?_)))
      (case side4=>exact (Kd.R_reads' HO321.out).2.1)
      rintro e w178 ⟨rfl,hb⟩
      refine ⟨_,rfl,?_⟩
      have n0_:=zz31 (Kd.R_below (by (with_reducible repeat (first | apply zz12 | apply zz13 | apply zz14));exact HO_306001.out) hb)
      have n1_:=zz31 (Kd.R_below (by (with_reducible repeat (first | apply zz12 | apply zz13 | apply zz14));exact HO_311001.out) hb)
      have n2_:=zz31 (Kd.R_below (by (with_reducible repeat (first | apply zz12 | apply zz13 | apply zz14));exact HO_317001.out) hb)
      have n3_:=zz31 (Kd.R_below (by (with_reducible repeat (first | apply zz12 | apply zz13 | apply zz14));exact HO321.out) hb)
      have n4_:=zz31 (zz11 (g:=gb294) (o:=.cells #[.int .i64 a0_0,.slice A0_1 l0_1.length c0_1] 24 (0,0)) (by (with_reducible repeat (first | refine zz6 ?_ _ | refine zz7 ?_ | refine zz8 ?_ _));exact BK294.out) hb)
      have n5_:=zz31 (zz11 (g:=gb305) (o:=.cells #[.int .i64 t300,.slice Ao22 t301.length co22] 30 (0,0)) (by (with_reducible repeat (first | refine zz6 ?_ _ | refine zz7 ?_ | refine zz8 ?_ _));exact BK305.out) hb)
      have n6_:=zz31 (zz11 (g:=gb310) (o:=.cells #[.int .i64 t306,.slice Ao29 t307.length co29] 30 (0,0)) (by (with_reducible repeat (first | refine zz6 ?_ _ | refine zz7 ?_ | refine zz8 ?_ _));exact BK310.out) hb)
      have n7_:=zz31 (zz11 (g:=gb316) (o:=.cells #[.int .i64 t311,.slice Ao36 t312.length co36] 30 (0,0)) (by (with_reducible repeat (first | refine zz6 ?_ _ | refine zz7 ?_ | refine zz8 ?_ _));exact BK316.out) hb)
      have n8_:=zz31 (zz4 (by repeat first | exact HB.out | apply zz2 | apply zz0 | apply zz1 | refine zz3 ?_ GE294.out | refine zz3 ?_ GE305.out | refine zz3 ?_ GE310.out | refine zz3 ?_ GE316.out) hb)
      clear HO_306001
      clear HO_311001
      clear HO_317001
      clear HO321
      clear BK294
      clear BK305
      clear BK310
      clear BK316
      clear HB
      have HO_306001:=n0_
      have HO_311001:=n1_
      have HO_317001:=n2_
      have HO321:=n3_
      have BK294:=n4_
      have BK305:=n5_
      have BK310:=n6_
      have BK316:=n7_
      have HB:=n8_
      clear n0_ n1_ n2_ n3_ n4_ n5_ n6_ n7_ n8_
      (try clear hb)
      (try clear hb2)
      (try clear hk)
      (try clear hi)
      refine hK.out _ _ ⟨(zz9 BK310.out 0).trans rfl,(zz9 BK310.out 1).trans rfl,(zz9 BK294.out 0).trans rfl,(zz9 BK294.out 1).trans rfl⟩ (fun hHeld=>?_)
      clear hK K
      refine norm_ (a':=?_) ?_ ?_
      rotate_left
      ·show Act.put _ (some 44) _=_
       simp only [Act.put,zz21,zz22,zz23,i64_w,i32_w]
       rfl
      refine pure_ (i:=4) (N:=some 45) (v:=?_) (a':=?_) #[T,T,T,T,T] rfl rfl (by kernel_rfl) (fun _ _ _ h=>h) (Or.inl ⟨by rfl,?_⟩) ?_ ?_
      rotate_left
      ·intro w'
       go_simp
       with_reducible rfl
      rotate_left
      ·simp only [Act.put,zz21,zz22,zz23,i64_w,i32_w]
       rfl
      refine done_ (by kernel_rfl) ?_
      try go_wp2
      go_ret
      exact ⟨by first | rfl | (simp [errW_none,errW_some] <;> rfl) | (simp [*,errW_none,errW_some] <;> rfl),by repeat first | exact HB.out | apply zz2 | apply zz0 | apply zz1 | refine zz3 ?_ GE294.out | refine zz3 ?_ GE305.out | refine zz3 ?_ GE310.out | refine zz3 ?_ GE316.out⟩

end Go.Proofs.Ytoedkkoafidalaa.P
