-- PRINTED by print.py (a twelfth state) out of the translation. Not trusted: Lean checks it.
import Derived.Test.YtialimbdkokdcaaPx0
import Derived.Test.YtialimbdkokdcaaPx1
import Derived.Test.YtialimbdkokdcaaPx2
import Derived.Test.YtialimbdkokdcaaPx4
namespace Go.Proofs.Ytialimbdkokdcaa.P
open Go.RowKit Go.Proofs.YtialimbdkokdcaaW.PrintWords Go.Proofs.YtialimbdkokdcaaW.PrintLast Go.Proofs.YtialimbdkokdcaaW.PrintMore
open Bool renaming true → T, false → F
attribute [local go_sem] max2_int min2_int max_two min_two max_three min_three max_four min_four   -- for this text's walks alone
set_option linter.unusedVariables false
set_option linter.unusedSimpArgs false

/-! ### laws_FnExactDropPair: function 9 -/
mutual
def laws_FnExactDropPair.j0:Nat→Int→Int→Bool→Bool→Bool→Int→List (S94)→Int→List (S80)→Int→List (S80)→Int→List (S80)→Option (Bool)
 | 0,_,_,_,_,_,_,_,_,_,_,_,_,_=>none
 | k+1,x1,x2,x9,x12,x48,x250000,x250001,x261000,x261001,x266000,x266001,x272000,x272001=>if x48=true then (some false) else ((laws_toParty.f k x250000 x250001).bind fun bt273=>((laws_eqParty.f k x266000 x266001 bt273.1 bt273.2).bind fun t277=>(if t277=true then ((laws_markParty.f k x266000 x266001 1).bind fun bt278=>(if bt278.1 < 0 then (laws_FnExactDropPair.j1 k x1 x2 x9 true x250000 x250001 x261000 x261001 x272000 x272001) else ((laws_eqParty.f k x272000 x272001 x261000 x261001).bind fun t280=>(if t280=true then (laws_FnExactDropPair.j1 k x1 x2 x9 (x12 != x9) x250000 x250001 x261000 x261001 x272000 x272001) else (laws_FnExactDropPair.j1 k x1 x2 x9 true x250000 x250001 x261000 x261001 x272000 x272001))))) else (some false))))
def laws_FnExactDropPair.j1:Nat→Int→Int→Bool→Bool→Int→List (S94)→Int→List (S80)→Int→List (S80)→Option (Bool)
 | 0,_,_,_,_,_,_,_,_,_,_=>none
 | k+1,x1,x2,x9,x69,x250000,x250001,x261000,x261001,x272000,x272001=>if x69=true then (some false) else ((laws_markParty.f k x272000 x272001 1).bind fun bt281=>((laws_heldParty.f k x272000 bt281.2 1).bind fun t283=>(if t283 < 0 then (some false) else (if t283=bt281.1 then ((laws_toParty.f k x250000 x250001).bind fun bt284=>((impl_DropPair.f k bt284.1 bt284.2 x1 x2).bind fun bt288=>((laws_eqParty.f k bt288.1 bt288.2.1 x261000 x261001).bind fun t294=>(if t294=true then (laws_FnExactDropPair.j2 k bt281.1 (bt288.2.2 != x9) x272000 bt281.2) else (laws_FnExactDropPair.j2 k bt281.1 true x272000 bt281.2))))) else (some false)))))
def laws_FnExactDropPair.j2:Nat→Int→Bool→Int→List (S80)→Option (Bool)
 | 0,_,_,_,_=>none
 | k+1,x14,x97,x272000,x272001=>if x97=true then (some false) else ((laws_heldParty.f k x272000 x272001 1).bind fun t295=>(if t295 < 0 then (some false) else (if t295=x14 then (some true) else (some false))))
end
def laws_FnExactDropPair.f (k:Nat) (a0_0:Int) (l0_1:List (S94)) (a1:Int) (a2:Int):Option (Bool):=(laws_szParty.f a0_0 l0_1 1048576).bind fun t250=>(if t250 < 0 then (some true) else ((laws_toParty.f k a0_0 l0_1).bind fun bt251=>((spec_DropPair.f k bt251.1 bt251.2 a1 a2).bind fun bt255=>((laws_toParty.f k a0_0 l0_1).bind fun bt261=>((impl_DropPair.f k bt261.1 bt261.2 a1 a2).bind fun bt266=>((laws_eqParty.f k bt266.1 bt266.2.1 bt255.1 bt255.2.1).bind fun t272=>(if t272=true then (laws_FnExactDropPair.j0 k a1 a2 bt255.2.2 bt266.2.2 (bt266.2.2 != bt255.2.2) a0_0 l0_1 bt255.1 bt255.2.1 bt261.1 bt261.2 bt266.1 bt266.2.1) else (laws_FnExactDropPair.j0 k a1 a2 bt255.2.2 bt266.2.2 true a0_0 l0_1 bt255.1 bt255.2.1 bt261.1 bt261.2 bt266.1 bt266.2.1))))))))
theorem laws_FnExactDropPair.mono_l:∀ k,(∀ y0 y1 y2 y3 y4 y5 y6 y7 y8 y9 y10 y11 y12,LeO (laws_FnExactDropPair.j0 k y0 y1 y2 y3 y4 y5 y6 y7 y8 y9 y10 y11 y12) (laws_FnExactDropPair.j0 (k+1) y0 y1 y2 y3 y4 y5 y6 y7 y8 y9 y10 y11 y12))∧(∀ y0 y1 y2 y3 y4 y5 y6 y7 y8 y9,LeO (laws_FnExactDropPair.j1 k y0 y1 y2 y3 y4 y5 y6 y7 y8 y9) (laws_FnExactDropPair.j1 (k+1) y0 y1 y2 y3 y4 y5 y6 y7 y8 y9))∧(∀ y0 y1 y2 y3,LeO (laws_FnExactDropPair.j2 k y0 y1 y2 y3) (laws_FnExactDropPair.j2 (k+1) y0 y1 y2 y3))
 | 0=>⟨fun _ _ _ _ _ _ _ _ _ _ _ _ _ r h=>by simp [laws_FnExactDropPair.j0] at h,fun _ _ _ _ _ _ _ _ _ _ r h=>by simp [laws_FnExactDropPair.j1] at h,fun _ _ _ _ r h=>by simp [laws_FnExactDropPair.j2] at h⟩
 | k+1=>by
  obtain ⟨ih0,ih1,ih2⟩:=laws_FnExactDropPair.mono_l k
  refine ⟨?_,?_,?_⟩
  ·intro y0 y1 y2 y3 y4 y5 y6 y7 y8 y9 y10 y11 y12
   unfold laws_FnExactDropPair.j0
   repeat' first
   | (with_reducible exact ih0 _ _ _ _ _ _ _ _ _ _ _ _ _)
   | (with_reducible exact ih1 _ _ _ _ _ _ _ _ _ _)
   | (with_reducible exact ih2 _ _ _ _)
   | (with_reducible exact impl_DropPair.mono _ _ _ _ _)
   | (with_reducible exact laws_eqParty.mono _ _ _ _ _)
   | (with_reducible exact laws_heldParty.mono _ _ _ _)
   | (with_reducible exact laws_markParty.mono _ _ _ _)
   | (with_reducible exact laws_toParty.mono _ _ _)
   | (with_reducible exact spec_DropPair.mono _ _ _ _ _)
   | (with_reducible exact LeO.refl _)
   | (with_reducible exact LeO.none _)
   | (with_reducible refine LeO.ite ?_ ?_)
   | (with_reducible refine LeO.bind ?_ (fun _=>?_))
   | exact ih0 _ _ _ _ _ _ _ _ _ _ _ _ _
   | exact ih1 _ _ _ _ _ _ _ _ _ _
   | exact ih2 _ _ _ _
   | exact impl_DropPair.mono _ _ _ _ _
   | exact laws_eqParty.mono _ _ _ _ _
   | exact laws_heldParty.mono _ _ _ _
   | exact laws_markParty.mono _ _ _ _
   | exact laws_toParty.mono _ _ _
   | exact spec_DropPair.mono _ _ _ _ _
   | exact LeO.none _
   | refine LeO.ite ?_ ?_
   | refine LeO.bind ?_ (fun _=>?_)
  ·intro y0 y1 y2 y3 y4 y5 y6 y7 y8 y9
   unfold laws_FnExactDropPair.j1
   repeat' first
   | (with_reducible exact ih0 _ _ _ _ _ _ _ _ _ _ _ _ _)
   | (with_reducible exact ih1 _ _ _ _ _ _ _ _ _ _)
   | (with_reducible exact ih2 _ _ _ _)
   | (with_reducible exact impl_DropPair.mono _ _ _ _ _)
   | (with_reducible exact laws_eqParty.mono _ _ _ _ _)
   | (with_reducible exact laws_heldParty.mono _ _ _ _)
   | (with_reducible exact laws_markParty.mono _ _ _ _)
   | (with_reducible exact laws_toParty.mono _ _ _)
   | (with_reducible exact spec_DropPair.mono _ _ _ _ _)
   | (with_reducible exact LeO.refl _)
   | (with_reducible exact LeO.none _)
   | (with_reducible refine LeO.ite ?_ ?_)
   | (with_reducible refine LeO.bind ?_ (fun _=>?_))
   | exact ih0 _ _ _ _ _ _ _ _ _ _ _ _ _
   | exact ih1 _ _ _ _ _ _ _ _ _ _
   | exact ih2 _ _ _ _
   | exact impl_DropPair.mono _ _ _ _ _
   | exact laws_eqParty.mono _ _ _ _ _
   | exact laws_heldParty.mono _ _ _ _
   | exact laws_markParty.mono _ _ _ _
   | exact laws_toParty.mono _ _ _
   | exact spec_DropPair.mono _ _ _ _ _
   | exact LeO.none _
   | refine LeO.ite ?_ ?_
   | refine LeO.bind ?_ (fun _=>?_)
  ·intro y0 y1 y2 y3
   unfold laws_FnExactDropPair.j2
   repeat' first
   | (with_reducible exact ih0 _ _ _ _ _ _ _ _ _ _ _ _ _)
   | (with_reducible exact ih1 _ _ _ _ _ _ _ _ _ _)
   | (with_reducible exact ih2 _ _ _ _)
   | (with_reducible exact impl_DropPair.mono _ _ _ _ _)
   | (with_reducible exact laws_eqParty.mono _ _ _ _ _)
   | (with_reducible exact laws_heldParty.mono _ _ _ _)
   | (with_reducible exact laws_markParty.mono _ _ _ _)
   | (with_reducible exact laws_toParty.mono _ _ _)
   | (with_reducible exact spec_DropPair.mono _ _ _ _ _)
   | (with_reducible exact LeO.refl _)
   | (with_reducible exact LeO.none _)
   | (with_reducible refine LeO.ite ?_ ?_)
   | (with_reducible refine LeO.bind ?_ (fun _=>?_))
   | exact ih0 _ _ _ _ _ _ _ _ _ _ _ _ _
   | exact ih1 _ _ _ _ _ _ _ _ _ _
   | exact ih2 _ _ _ _
   | exact impl_DropPair.mono _ _ _ _ _
   | exact laws_eqParty.mono _ _ _ _ _
   | exact laws_heldParty.mono _ _ _ _
   | exact laws_markParty.mono _ _ _ _
   | exact laws_toParty.mono _ _ _
   | exact spec_DropPair.mono _ _ _ _ _
   | exact LeO.none _
   | refine LeO.ite ?_ ?_
   | refine LeO.bind ?_ (fun _=>?_)
theorem laws_FnExactDropPair.mono:∀ a0 a1 a2 a3 k,LeO (laws_FnExactDropPair.f k a0 a1 a2 a3) (laws_FnExactDropPair.f (k+1) a0 a1 a2 a3):=by
 intro a0 a1 a2 a3 k
 obtain ⟨ih0,ih1,ih2⟩:=laws_FnExactDropPair.mono_l k
 unfold laws_FnExactDropPair.f
 repeat' first
   | (with_reducible exact ih0 _ _ _ _ _ _ _ _ _ _ _ _ _)
   | (with_reducible exact ih1 _ _ _ _ _ _ _ _ _ _)
   | (with_reducible exact ih2 _ _ _ _)
   | (with_reducible exact impl_DropPair.mono _ _ _ _ _)
   | (with_reducible exact laws_eqParty.mono _ _ _ _ _)
   | (with_reducible exact laws_heldParty.mono _ _ _ _)
   | (with_reducible exact laws_markParty.mono _ _ _ _)
   | (with_reducible exact laws_toParty.mono _ _ _)
   | (with_reducible exact spec_DropPair.mono _ _ _ _ _)
   | (with_reducible exact LeO.refl _)
   | (with_reducible exact LeO.none _)
   | (with_reducible refine LeO.ite ?_ ?_)
   | (with_reducible refine LeO.bind ?_ (fun _=>?_))
   | exact ih0 _ _ _ _ _ _ _ _ _ _ _ _ _
   | exact ih1 _ _ _ _ _ _ _ _ _ _
   | exact ih2 _ _ _ _
   | exact impl_DropPair.mono _ _ _ _ _
   | exact laws_eqParty.mono _ _ _ _ _
   | exact laws_heldParty.mono _ _ _ _
   | exact laws_markParty.mono _ _ _ _
   | exact laws_toParty.mono _ _ _
   | exact spec_DropPair.mono _ _ _ _ _
   | exact LeO.none _
   | refine LeO.ite ?_ ?_
   | refine LeO.bind ?_ (fun _=>?_)
set_option maxHeartbeats 8000000 in
set_option maxRecDepth 100000 in
theorem laws_FnExactDropPair.calls (k:Nat) (a0_0:Int) (A0_1:Option Addr) (c0_1:Nat) (l0_1:List (S94)) (a1:Int) (a2:Int) (r:Bool) (w:World) (hr0_1:Kd.C k94 w A0_1 l0_1.length l0_1) (hc0_1:l0_1.length≤c0_1) (h:laws_FnExactDropPair.f k a0_0 l0_1 a1 a2=some r) :
  Calls Try.prog 9 #[.agg #[.int .i64 a0_0,.slice A0_1 l0_1.length c0_1],.int .i64 a1,.int .i64 a2] w fun e w'=>e=.returned (.bool r)∧Below w.heap.size w w':=by
 have hu24:=Try.underlying24
 have hu30:=Try.underlying30
 have HR0_1:=zz31 hr0_1
 have HC0_1:=zz31 hc0_1
 clear hr0_1 hc0_1
 have HB:=zz31 (Below.refl w.heap.size w)
 have H:((laws_szParty.f a0_0 l0_1 1048576).bind fun t250=>(if t250 < 0 then (some true) else ((laws_toParty.f k a0_0 l0_1).bind fun bt251=>((spec_DropPair.f k bt251.1 bt251.2 a1 a2).bind fun bt255=>((laws_toParty.f k a0_0 l0_1).bind fun bt261=>((impl_DropPair.f k bt261.1 bt261.2 a1 a2).bind fun bt266=>((laws_eqParty.f k bt266.1 bt266.2.1 bt255.1 bt255.2.1).bind fun t272=>(if t272=true then (laws_FnExactDropPair.j0 k a1 a2 bt255.2.2 bt266.2.2 (bt266.2.2 != bt255.2.2) a0_0 l0_1 bt255.1 bt255.2.1 bt261.1 bt261.2 bt266.1 bt266.2.1) else (laws_FnExactDropPair.j0 k a1 a2 bt255.2.2 bt266.2.2 true a0_0 l0_1 bt255.1 bt255.2.1 bt261.1 bt261.2 bt266.1 bt266.2.1)))))))))=some r:=h
 clear h
 replace H:=zz30.mp H
 obtain ⟨t250,A40,H⟩:=H
 replace H:(if t250 < 0 then (some true) else ((laws_toParty.f k a0_0 l0_1).bind fun bt251=>((spec_DropPair.f k bt251.1 bt251.2 a1 a2).bind fun bt255=>((laws_toParty.f k a0_0 l0_1).bind fun bt261=>((impl_DropPair.f k bt261.1 bt261.2 a1 a2).bind fun bt266=>((laws_eqParty.f k bt266.1 bt266.2.1 bt255.1 bt255.2.1).bind fun t272=>(if t272=true then (laws_FnExactDropPair.j0 k a1 a2 bt255.2.2 bt266.2.2 (bt266.2.2 != bt255.2.2) a0_0 l0_1 bt255.1 bt255.2.1 bt261.1 bt261.2 bt266.1 bt266.2.1) else (laws_FnExactDropPair.j0 k a1 a2 bt255.2.2 bt266.2.2 true a0_0 l0_1 bt255.1 bt255.2.1 bt261.1 bt261.2 bt266.1 bt266.2.1))))))))=some r:=H
 have A4:=zz31 A40
 clear A40
 by_cases c5:t250 < 0
 ·rw [if_pos c5] at H
  have c5b0:decide (t250 < 0)=true:=decide_eq_true c5
  clear c5
  obtain rfl:=Option.some.inj H
  go_enter Try.func9,Try.ntmps9
  go_wp2_with (first | ((with_reducible refine gate_dst (N:=3) rfl ?_);refine box_event ?hg (N:=3) ?hd (cs:=#[.int .i64 a0_0,.slice A0_1 l0_1.length c0_1]) (t:=24) ?hr ?_;(case hd=>rfl);(case hg=>rfl);(case hr=>first | (go_simp;done) | (go_simp;rfl));intro gb249 hg w6 hbox hb;have n0_:=zz31 (zz4 (by repeat first | exact HB.out | apply zz2 | apply zz0 | apply zz1) hb);have n1_:=zz31 (hbox);have n2_:=zz31 ((by rw [hg];exact (zz5 (by repeat first | exact HB.out | apply zz2 | apply zz0 | apply zz1)):w.heap.size≤gb249));have n3_:=zz31 ((by rw [hg];exact (zz5 (by repeat first | exact HB.out | apply zz2 | apply zz0 | apply zz1)):w.heap.size≤gb249));clear HB;have HB:=n0_;have BK249:=n1_;have GW249:=n2_;have GE249:=n3_;clear n0_ n1_ n2_ n3_;clear hb hbox hg;have hcz7_0:w6.cell? ⟨gb249,0,none⟩=some (.int .i64 a0_0):=(zz9 BK249.out 0).trans rfl;have hcz7_1:w6.cell? ⟨gb249,1,none⟩=some (.slice A0_1 l0_1.length c0_1):=(zz9 BK249.out 1).trans rfl;have hfz7_0:=zz10 BK249.out 0;have hfz7_1:=zz10 BK249.out 1) | ((with_reducible refine gate_callee (f:=12) rfl ?_);refine goesL_ (some 20) rfl rfl Try.func12 (by kernel_rfl) rfl #[.agg #[.int .i64 a0_0,.slice A0_1 l0_1.length c0_1],.int .i64 1048576] rfl (by (try simp only [zz26,zz27,zz28]);first | done | rfl | (simp only [zz24,zz25];rfl)) ?_;(with_reducible refine (laws_szParty.calls a0_0 _ _ l0_1 1048576 t250 _ ?side1 ?side2 A4.out).mono ?_);(case side1=>repeat (first | exact (Kd.C_below HR0_1.out HB.out) | (with_reducible refine zz18 ?_ _) | (with_reducible refine zz19 ?_ _) | (with_reducible refine zz20 ?_)));(case side2=>exact HC0_1.out);rintro e w8 ⟨rfl,hb⟩;refine ⟨_,rfl,?_⟩;have n0_:=zz31 (zz11 (g:=gb249) (o:=.cells #[.int .i64 a0_0,.slice A0_1 l0_1.length c0_1] 24 (0,0)) (by (with_reducible repeat (first | refine zz6 ?_ _ | refine zz7 ?_ | refine zz8 ?_ _));exact BK249.out) hb);have n1_:=zz31 (zz4 (by repeat first | exact HB.out | apply zz2 | apply zz0 | apply zz1 | refine zz3 ?_ GE249.out) hb);clear BK249;clear HB;have BK249:=n0_;have HB:=n1_;clear n0_ n1_;(try clear hb);(try clear hb2);(try clear hk);(try clear hi)))
  go_ret
  exact ⟨by first | rfl | (simp [errW_none,errW_some] <;> rfl) | (simp [*,errW_none,errW_some] <;> rfl),by repeat first | exact HB.out | apply zz2 | apply zz0 | apply zz1 | refine zz3 ?_ GE249.out⟩
 ·rw [if_neg c5] at H
  have c5b0:decide (t250 < 0)=false:=decide_eq_false c5
  clear c5
  replace H:=zz30.mp H
  obtain ⟨⟨t251,t252⟩,A90,H⟩:=H
  replace H:((spec_DropPair.f k t251 t252 a1 a2).bind fun bt255=>((laws_toParty.f k a0_0 l0_1).bind fun bt261=>((impl_DropPair.f k bt261.1 bt261.2 a1 a2).bind fun bt266=>((laws_eqParty.f k bt266.1 bt266.2.1 bt255.1 bt255.2.1).bind fun t272=>(if t272=true then (laws_FnExactDropPair.j0 k a1 a2 bt255.2.2 bt266.2.2 (bt266.2.2 != bt255.2.2) a0_0 l0_1 bt255.1 bt255.2.1 bt261.1 bt261.2 bt266.1 bt266.2.1) else (laws_FnExactDropPair.j0 k a1 a2 bt255.2.2 bt266.2.2 true a0_0 l0_1 bt255.1 bt255.2.1 bt261.1 bt261.2 bt266.1 bt266.2.1))))))=some r:=H
  have A9:=zz31 A90
  clear A90
  replace H:=zz30.mp H
  obtain ⟨⟨t255,t256,t259⟩,A100,H⟩:=H
  replace H:((laws_toParty.f k a0_0 l0_1).bind fun bt261=>((impl_DropPair.f k bt261.1 bt261.2 a1 a2).bind fun bt266=>((laws_eqParty.f k bt266.1 bt266.2.1 t255 t256).bind fun t272=>(if t272=true then (laws_FnExactDropPair.j0 k a1 a2 t259 bt266.2.2 (bt266.2.2 != t259) a0_0 l0_1 t255 t256 bt261.1 bt261.2 bt266.1 bt266.2.1) else (laws_FnExactDropPair.j0 k a1 a2 t259 bt266.2.2 true a0_0 l0_1 t255 t256 bt261.1 bt261.2 bt266.1 bt266.2.1)))))=some r:=H
  have A10:=zz31 A100
  clear A100
  replace H:=zz30.mp H
  obtain ⟨⟨t261,t262⟩,A110,H⟩:=H
  replace H:((impl_DropPair.f k t261 t262 a1 a2).bind fun bt266=>((laws_eqParty.f k bt266.1 bt266.2.1 t255 t256).bind fun t272=>(if t272=true then (laws_FnExactDropPair.j0 k a1 a2 t259 bt266.2.2 (bt266.2.2 != t259) a0_0 l0_1 t255 t256 t261 t262 bt266.1 bt266.2.1) else (laws_FnExactDropPair.j0 k a1 a2 t259 bt266.2.2 true a0_0 l0_1 t255 t256 t261 t262 bt266.1 bt266.2.1))))=some r:=H
  have A11:=zz31 A110
  clear A110
  replace H:=zz30.mp H
  obtain ⟨⟨t266,t267,t270⟩,A120,H⟩:=H
  replace H:((laws_eqParty.f k t266 t267 t255 t256).bind fun t272=>(if t272=true then (laws_FnExactDropPair.j0 k a1 a2 t259 t270 (t270 != t259) a0_0 l0_1 t255 t256 t261 t262 t266 t267) else (laws_FnExactDropPair.j0 k a1 a2 t259 t270 true a0_0 l0_1 t255 t256 t261 t262 t266 t267)))=some r:=H
  have A12:=zz31 A120
  clear A120
  have HC13:=zz31 H
  clear H
  go_enter Try.func9,Try.ntmps9
  go_upto_region 8 with (first | ((with_reducible refine gate_dst (N:=3) rfl ?_);refine box_event ?hg (N:=3) ?hd (cs:=#[.int .i64 a0_0,.slice A0_1 l0_1.length c0_1]) (t:=24) ?hr ?_;(case hd=>rfl);(case hg=>rfl);(case hr=>first | (go_simp;done) | (go_simp;rfl));intro gb249 hg w14 hbox hb;have n0_:=zz31 (zz4 (by repeat first | exact HB.out | apply zz2 | apply zz0 | apply zz1) hb);have n1_:=zz31 (hbox);have n2_:=zz31 ((by rw [hg];exact (zz5 (by repeat first | exact HB.out | apply zz2 | apply zz0 | apply zz1)):w.heap.size≤gb249));have n3_:=zz31 ((by rw [hg];exact (zz5 (by repeat first | exact HB.out | apply zz2 | apply zz0 | apply zz1)):w.heap.size≤gb249));clear HB;have HB:=n0_;have BK249:=n1_;have GW249:=n2_;have GE249:=n3_;clear n0_ n1_ n2_ n3_;clear hb hbox hg;have hcz15_0:w14.cell? ⟨gb249,0,none⟩=some (.int .i64 a0_0):=(zz9 BK249.out 0).trans rfl;have hcz15_1:w14.cell? ⟨gb249,1,none⟩=some (.slice A0_1 l0_1.length c0_1):=(zz9 BK249.out 1).trans rfl;have hfz15_0:=zz10 BK249.out 0;have hfz15_1:=zz10 BK249.out 1) | ((with_reducible refine gate_callee (f:=12) rfl ?_);refine goesL_ (some 20) rfl rfl Try.func12 (by kernel_rfl) rfl #[.agg #[.int .i64 a0_0,.slice A0_1 l0_1.length c0_1],.int .i64 1048576] rfl (by (try simp only [zz26,zz27,zz28]);first | done | rfl | (simp only [zz24,zz25];rfl)) ?_;(with_reducible refine (laws_szParty.calls a0_0 _ _ l0_1 1048576 t250 _ ?side1 ?side2 A4.out).mono ?_);(case side1=>repeat (first | exact (Kd.C_below HR0_1.out HB.out) | (with_reducible refine zz18 ?_ _) | (with_reducible refine zz19 ?_ _) | (with_reducible refine zz20 ?_)));(case side2=>exact HC0_1.out);rintro e w16 ⟨rfl,hb⟩;refine ⟨_,rfl,?_⟩;have n0_:=zz31 (zz11 (g:=gb249) (o:=.cells #[.int .i64 a0_0,.slice A0_1 l0_1.length c0_1] 24 (0,0)) (by (with_reducible repeat (first | refine zz6 ?_ _ | refine zz7 ?_ | refine zz8 ?_ _));exact BK249.out) hb);have n1_:=zz31 (zz4 (by repeat first | exact HB.out | apply zz2 | apply zz0 | apply zz1 | refine zz3 ?_ GE249.out) hb);clear BK249;clear HB;have BK249:=n0_;have HB:=n1_;clear n0_ n1_;(try clear hb);(try clear hb2);(try clear hk);(try clear hi);have hcz17_0:w16.cell? ⟨gb249,0,none⟩=some (.int .i64 a0_0):=(zz9 BK249.out 0).trans rfl;have hcz17_1:w16.cell? ⟨gb249,1,none⟩=some (.slice A0_1 l0_1.length c0_1):=(zz9 BK249.out 1).trans rfl;have hfz17_0:=zz10 BK249.out 0;have hfz17_1:=zz10 BK249.out 1) | ((with_reducible refine gate_callee (f:=14) rfl ?_);refine goesL_ (some 25) rfl rfl Try.func14 (by kernel_rfl) rfl #[.agg #[.int .i64 a0_0,.slice A0_1 l0_1.length c0_1]] rfl (by (try simp only [zz26,zz27,zz28]);first | done | rfl | (simp only [zz24,zz25];rfl)) ?_;(with_reducible refine (laws_toParty.calls k a0_0 _ _ l0_1 t251 t252 _ ?side1 ?side2 A9.out).mono ?_);(case side1=>repeat (first | exact (Kd.C_below HR0_1.out HB.out) | (with_reducible refine zz18 ?_ _) | (with_reducible refine zz19 ?_ _) | (with_reducible refine zz20 ?_)));(case side2=>exact HC0_1.out);rintro e w18 ⟨v253,rfl,ho0,hb⟩;refine ⟨_,rfl,?_⟩;have n0_:=zz31 (Kd.R_lower ho0 (zz5 (by repeat first | exact HB.out | apply zz2 | apply zz0 | apply zz1 | refine zz3 ?_ GE249.out)));have n1_:=zz31 (zz11 (g:=gb249) (o:=.cells #[.int .i64 a0_0,.slice A0_1 l0_1.length c0_1] 24 (0,0)) (by (with_reducible repeat (first | refine zz6 ?_ _ | refine zz7 ?_ | refine zz8 ?_ _));exact BK249.out) hb);have n2_:=zz31 (zz4 (by repeat first | exact HB.out | apply zz2 | apply zz0 | apply zz1 | refine zz3 ?_ GE249.out) hb);clear BK249;clear HB;have HO254:=n0_;have BK249:=n1_;have HB:=n2_;clear n0_ n1_ n2_;(try clear hb);(try clear hb2);(try clear hk);(try clear hi);(try clear ho0);obtain ⟨Ao19,co19,eo19⟩:=Kd.R_slice HO254.out;subst eo19) | ((with_reducible refine gate_callee (f:=34) rfl ?_);refine goesL_ (some 28) rfl rfl Try.func34 (by kernel_rfl) rfl #[.agg #[.int .i64 t251,.slice Ao19 t252.length co19],.int .i64 a1,.int .i64 a2] rfl (by (try simp only [zz26,zz27,zz28]);first | done | rfl | (simp only [zz24,zz25];rfl)) ?_;(with_reducible refine (spec_DropPair.calls k t251 _ _ t252 a1 a2 t255 t256 t259 _ ?side1 ?side2 A10.out).mono ?_);(case side1=>repeat (first | exact (Kd.R_reads' HO254.out).2.2 | (with_reducible refine zz18 ?_ _) | (with_reducible refine zz19 ?_ _) | (with_reducible refine zz20 ?_)));(case side2=>exact (Kd.R_reads' HO254.out).2.1);rintro e w20 ⟨v257,rfl,ho0,hb⟩;refine ⟨_,rfl,?_⟩;have n0_:=zz31 (Kd.R_elder' (by (with_reducible repeat (first | apply zz12 | apply zz13 | apply zz14));exact HO254.out) (Kd.R_base ho0) hb);have n1_:=zz31 (Kd.R_lower (Kd.R_new' ho0 (Kd.R_lt (by (with_reducible repeat (first | apply zz12 | apply zz13 | apply zz14));exact HO254.out))) (zz5 (by repeat first | exact HB.out | apply zz2 | apply zz0 | apply zz1 | refine zz3 ?_ GE249.out)));have n2_:=zz31 (zz11 (g:=gb249) (o:=.cells #[.int .i64 a0_0,.slice A0_1 l0_1.length c0_1] 24 (0,0)) (by (with_reducible repeat (first | refine zz6 ?_ _ | refine zz7 ?_ | refine zz8 ?_ _));exact BK249.out) hb);have n3_:=zz31 (zz4 (by repeat first | exact HB.out | apply zz2 | apply zz0 | apply zz1 | refine zz3 ?_ GE249.out) hb);clear HO254;clear BK249;clear HB;have HO254:=n0_;have HO258:=n1_;have BK249:=n2_;have HB:=n3_;clear n0_ n1_ n2_ n3_;(try clear hb);(try clear hb2);(try clear hk);(try clear hi);(try clear ho0)) | ((with_reducible refine gate_dst (N:=8) rfl ?_);refine box_event ?hg (N:=8) ?hd (cs:=#[.int .i64 0,.slice none 0 0]) (t:=30) ?hr ?_;(case hd=>rfl);(case hg=>rfl);(case hr=>first | (go_simp;done) | (go_simp;rfl));intro gb260 hg w21 hbox hb;have n0_:=zz31 (Kd.R_below (by (with_reducible repeat (first | apply zz12 | apply zz13 | apply zz14));exact HO254.out) hb);have n1_:=zz31 (Kd.R_below (by (with_reducible repeat (first | apply zz12 | apply zz13 | apply zz14));exact HO258.out) hb);have n2_:=zz31 (zz11 (g:=gb249) (o:=.cells #[.int .i64 a0_0,.slice A0_1 l0_1.length c0_1] 24 (0,0)) (by (with_reducible repeat (first | refine zz6 ?_ _ | refine zz7 ?_ | refine zz8 ?_ _));exact BK249.out) hb);have n3_:=zz31 (zz4 (by repeat first | exact HB.out | apply zz2 | apply zz0 | apply zz1 | refine zz3 ?_ GE249.out) hb);have n4_:=zz31 (hbox);have n5_:=zz31 ((by rw [hg];exact (zz5 (by repeat first | exact HB.out | apply zz2 | apply zz0 | apply zz1 | refine zz3 ?_ GE249.out)):w.heap.size≤gb260));have n6_:=zz31 ((by rw [hg];exact (zz5 (by repeat first | exact HB.out | apply zz2 | apply zz0 | apply zz1 | refine zz3 ?_ GE249.out)):w.heap.size≤gb260));have n7_:=zz31 ((by rw [hg];exact Nat.ne_of_lt (blk_lt (g:=gb249) (o:=.cells #[.int .i64 a0_0,.slice A0_1 l0_1.length c0_1] 24 (0,0)) (by (with_reducible repeat (first | refine zz6 ?_ _ | refine zz7 ?_ | refine zz8 ?_ _));exact BK249.out)):gb249 ≠ gb260));have n8_:=zz31 ((by rw [hg];exact Nat.ne_of_gt (blk_lt (g:=gb249) (o:=.cells #[.int .i64 a0_0,.slice A0_1 l0_1.length c0_1] 24 (0,0)) (by (with_reducible repeat (first | refine zz6 ?_ _ | refine zz7 ?_ | refine zz8 ?_ _));exact BK249.out)):gb260 ≠ gb249));clear HO254;clear HO258;clear BK249;clear HB;have HO254:=n0_;have HO258:=n1_;have BK249:=n2_;have HB:=n3_;have BK260:=n4_;have GW260:=n5_;have GE260:=n6_;have NB249_260:=n7_;have NB260_249:=n8_;clear n0_ n1_ n2_ n3_ n4_ n5_ n6_ n7_ n8_;clear hb hbox hg;have hnb22:=NB260_249.out;have hnc22:=NB249_260.out;have hcz23_0:w21.cell? ⟨gb260,0,none⟩=some (.int .i64 0):=(zz9 BK260.out 0).trans rfl;have hcz23_1:w21.cell? ⟨gb260,1,none⟩=some (.slice none 0 0):=(zz9 BK260.out 1).trans rfl;have hfz23_0:=zz10 BK260.out 0;have hfz23_1:=zz10 BK260.out 1;obtain ⟨Ao24,co24,eo24⟩:=Kd.R_slice HO258.out;subst eo24;have hcz25_0:w21.cell? ⟨gb249,0,none⟩=some (.int .i64 a0_0):=(zz9 BK249.out 0).trans rfl;have hcz25_1:w21.cell? ⟨gb249,1,none⟩=some (.slice A0_1 l0_1.length c0_1):=(zz9 BK249.out 1).trans rfl;have hfz25_0:=zz10 BK249.out 0;have hfz25_1:=zz10 BK249.out 1) | ((with_reducible refine gate_callee (f:=14) rfl ?_);refine goesL_ (some 32) rfl rfl Try.func14 (by kernel_rfl) rfl #[.agg #[.int .i64 a0_0,.slice A0_1 l0_1.length c0_1]] rfl (by (try simp only [zz26,zz27,zz28]);first | done | rfl | (simp only [zz24,zz25];rfl)) ?_;(with_reducible refine (laws_toParty.calls k a0_0 _ _ l0_1 t261 t262 _ ?side1 ?side2 A11.out).mono ?_);(case side1=>exact Kd.C_below HR0_1.out (by repeat first | exact HB.out | apply zz2 | apply zz0 | apply zz1 | refine zz3 ?_ GE249.out | refine zz3 ?_ GE260.out));(case side2=>exact HC0_1.out);rintro e w26 ⟨v263,rfl,ho0,hb⟩;refine ⟨_,rfl,?_⟩;have n0_:=zz31 (Kd.R_elder' (by (with_reducible repeat (first | apply zz12 | apply zz13 | apply zz14));exact (Kd.R_mono (Kd.R_far (p:=⟨gb260,1,none⟩) (Kd.R_far (p:=⟨gb260,0,none⟩) (Kd.R_types HO254.out BK260.out (by decide)) (fun _ hk=>hk.2) (.int .i64 t255)) (fun _ hk=>hk.2) (.slice Ao24 t256.length co24)) (fun _ h_=>h_.1))) (Kd.R_base ho0) hb);have n1_:=zz31 (Kd.R_elder' (by (with_reducible repeat (first | apply zz12 | apply zz13 | apply zz14));exact (Kd.R_mono (Kd.R_far (p:=⟨gb260,1,none⟩) (Kd.R_far (p:=⟨gb260,0,none⟩) (Kd.R_types HO258.out BK260.out (by decide)) (fun _ hk=>hk.2) (.int .i64 t255)) (fun _ hk=>hk.2) (.slice Ao24 t256.length co24)) (fun _ h_=>h_.1))) (Kd.R_base ho0) hb);have n2_:=zz31 (Kd.R_lower (Kd.R_new' (Kd.R_new' ho0 (Kd.R_lt (by (with_reducible repeat (first | apply zz12 | apply zz13 | apply zz14));exact (Kd.R_mono (Kd.R_far (p:=⟨gb260,1,none⟩) (Kd.R_far (p:=⟨gb260,0,none⟩) (Kd.R_types HO254.out BK260.out (by decide)) (fun _ hk=>hk.2) (.int .i64 t255)) (fun _ hk=>hk.2) (.slice Ao24 t256.length co24)) (fun _ h_=>h_.1))))) (Kd.R_lt (by (with_reducible repeat (first | apply zz12 | apply zz13 | apply zz14));exact (Kd.R_mono (Kd.R_far (p:=⟨gb260,1,none⟩) (Kd.R_far (p:=⟨gb260,0,none⟩) (Kd.R_types HO258.out BK260.out (by decide)) (fun _ hk=>hk.2) (.int .i64 t255)) (fun _ hk=>hk.2) (.slice Ao24 t256.length co24)) (fun _ h_=>h_.1))))) (zz5 (by repeat first | exact HB.out | apply zz2 | apply zz0 | apply zz1 | refine zz3 ?_ GE249.out | refine zz3 ?_ GE260.out)));have n3_:=zz31 (zz11 (g:=gb249) (o:=.cells #[.int .i64 a0_0,.slice A0_1 l0_1.length c0_1] 24 (0,0)) (by (with_reducible repeat (first | refine zz6 ?_ _ | refine zz7 ?_ | refine zz8 ?_ _));refine blk_far ?_ NB249_260.out _;(with_reducible repeat (first | refine zz6 ?_ _ | refine zz7 ?_ | refine zz8 ?_ _));refine blk_far ?_ NB249_260.out _;(with_reducible repeat (first | refine zz6 ?_ _ | refine zz7 ?_ | refine zz8 ?_ _));exact BK249.out) hb);have n4_:=zz31 (zz11 (g:=gb260) (o:=.cells #[.int .i64 t255,.slice Ao24 t256.length co24] 30 (0,0)) (by (with_reducible repeat (first | refine zz6 ?_ _ | refine zz7 ?_ | refine zz8 ?_ _));refine blk_put (cs:=#[.int .i64 t255,.slice none 0 0]) ?_ 1 _ rfl;(with_reducible repeat (first | refine zz6 ?_ _ | refine zz7 ?_ | refine zz8 ?_ _));refine blk_put (cs:=#[.int .i64 0,.slice none 0 0]) ?_ 0 _ rfl;(with_reducible repeat (first | refine zz6 ?_ _ | refine zz7 ?_ | refine zz8 ?_ _));exact BK260.out) hb);have n5_:=zz31 (zz4 (by repeat first | exact HB.out | apply zz2 | apply zz0 | apply zz1 | refine zz3 ?_ GE249.out | refine zz3 ?_ GE260.out) hb);clear HO254;clear HO258;clear BK249;clear BK260;clear HB;have HO254:=n0_;have HO258:=n1_;have HO264:=n2_;have BK249:=n3_;have BK260:=n4_;have HB:=n5_;clear n0_ n1_ n2_ n3_ n4_ n5_;(try clear hb);(try clear hb2);(try clear hk);(try clear hi);(try clear ho0)) | ((with_reducible refine gate_dst (N:=10) rfl ?_);refine box_event ?hg (N:=10) ?hd (cs:=#[.int .i64 0,.slice none 0 0]) (t:=30) ?hr ?_;(case hd=>rfl);(case hg=>rfl);(case hr=>first | (go_simp;done) | (go_simp;rfl));intro gb265 hg w27 hbox hb;have n0_:=zz31 (Kd.R_below (by (with_reducible repeat (first | apply zz12 | apply zz13 | apply zz14));exact HO254.out) hb);have n1_:=zz31 (Kd.R_below (by (with_reducible repeat (first | apply zz12 | apply zz13 | apply zz14));exact HO258.out) hb);have n2_:=zz31 (Kd.R_below (by (with_reducible repeat (first | apply zz12 | apply zz13 | apply zz14));exact HO264.out) hb);have n3_:=zz31 (zz11 (g:=gb249) (o:=.cells #[.int .i64 a0_0,.slice A0_1 l0_1.length c0_1] 24 (0,0)) (by (with_reducible repeat (first | refine zz6 ?_ _ | refine zz7 ?_ | refine zz8 ?_ _));exact BK249.out) hb);have n4_:=zz31 (zz11 (g:=gb260) (o:=.cells #[.int .i64 t255,.slice Ao24 t256.length co24] 30 (0,0)) (by (with_reducible repeat (first | refine zz6 ?_ _ | refine zz7 ?_ | refine zz8 ?_ _));exact BK260.out) hb);have n5_:=zz31 (zz4 (by repeat first | exact HB.out | apply zz2 | apply zz0 | apply zz1 | refine zz3 ?_ GE249.out | refine zz3 ?_ GE260.out) hb);have n6_:=zz31 (hbox);have n7_:=zz31 ((by rw [hg];exact (zz5 (by repeat first | exact HB.out | apply zz2 | apply zz0 | apply zz1 | refine zz3 ?_ GE249.out | refine zz3 ?_ GE260.out)):w.heap.size≤gb265));have n8_:=zz31 ((by rw [hg];exact (zz5 (by repeat first | exact HB.out | apply zz2 | apply zz0 | apply zz1 | refine zz3 ?_ GE249.out | refine zz3 ?_ GE260.out)):w.heap.size≤gb265));have n9_:=zz31 ((by rw [hg];exact Nat.ne_of_lt (blk_lt (g:=gb249) (o:=.cells #[.int .i64 a0_0,.slice A0_1 l0_1.length c0_1] 24 (0,0)) (by (with_reducible repeat (first | refine zz6 ?_ _ | refine zz7 ?_ | refine zz8 ?_ _));exact BK249.out)):gb249 ≠ gb265));have n10_:=zz31 ((by rw [hg];exact Nat.ne_of_gt (blk_lt (g:=gb249) (o:=.cells #[.int .i64 a0_0,.slice A0_1 l0_1.length c0_1] 24 (0,0)) (by (with_reducible repeat (first | refine zz6 ?_ _ | refine zz7 ?_ | refine zz8 ?_ _));exact BK249.out)):gb265 ≠ gb249));have n11_:=zz31 ((by rw [hg];exact Nat.ne_of_lt (blk_lt (g:=gb260) (o:=.cells #[.int .i64 t255,.slice Ao24 t256.length co24] 30 (0,0)) (by (with_reducible repeat (first | refine zz6 ?_ _ | refine zz7 ?_ | refine zz8 ?_ _));exact BK260.out)):gb260 ≠ gb265));have n12_:=zz31 ((by rw [hg];exact Nat.ne_of_gt (blk_lt (g:=gb260) (o:=.cells #[.int .i64 t255,.slice Ao24 t256.length co24] 30 (0,0)) (by (with_reducible repeat (first | refine zz6 ?_ _ | refine zz7 ?_ | refine zz8 ?_ _));exact BK260.out)):gb265 ≠ gb260));clear HO254;clear HO258;clear HO264;clear BK249;clear BK260;clear HB;have HO254:=n0_;have HO258:=n1_;have HO264:=n2_;have BK249:=n3_;have BK260:=n4_;have HB:=n5_;have BK265:=n6_;have GW265:=n7_;have GE265:=n8_;have NB249_265:=n9_;have NB265_249:=n10_;have NB260_265:=n11_;have NB265_260:=n12_;clear n0_ n1_ n2_ n3_ n4_ n5_ n6_ n7_ n8_ n9_ n10_ n11_ n12_;clear hb hbox hg;have hnb28:=NB265_249.out;have hnc28:=NB249_265.out;have hnb29:=NB265_260.out;have hnc29:=NB260_265.out;have hcz30_0:w27.cell? ⟨gb265,0,none⟩=some (.int .i64 0):=(zz9 BK265.out 0).trans rfl;have hcz30_1:w27.cell? ⟨gb265,1,none⟩=some (.slice none 0 0):=(zz9 BK265.out 1).trans rfl;have hfz30_0:=zz10 BK265.out 0;have hfz30_1:=zz10 BK265.out 1;obtain ⟨Ao31,co31,eo31⟩:=Kd.R_slice HO264.out;subst eo31) | ((with_reducible refine gate_callee (f:=35) rfl ?_);refine goesL_ (some 37) rfl rfl Try.func35 (by kernel_rfl) rfl #[.agg #[.int .i64 t261,.slice Ao31 t262.length co31],.int .i64 a1,.int .i64 a2] rfl (by (try simp only [zz26,zz27,zz28]);first | done | rfl | (simp only [zz24,zz25];rfl)) ?_;(with_reducible refine (impl_DropPair.calls k t261 _ _ t262 a1 a2 t266 t267 t270 _ ?side1 ?side2 A12.out).mono ?_);(case side1=>refine (Kd.R_reads' (e:=80) (base:=w.heap.size) (ok:=fun k_=>((True∧some k_ ≠ (.slice Ao19 t252.length co19:Value).ownBlock)∧some k_ ≠ (.slice Ao24 t256.length co24:Value).ownBlock)) (n:=t262.length) (c:=co31) ?_).2.2;exact (by (with_reducible repeat (first | apply zz12 | apply zz13 | apply zz14));exact (Kd.R_mono (Kd.R_far (p:=⟨gb265,1,none⟩) (Kd.R_far (p:=⟨gb265,0,none⟩) (Kd.R_types HO264.out BK265.out (by decide)) (fun _ hk=>hk.2) (.int .i64 t261)) (fun _ hk=>hk.2) (.slice Ao31 t262.length co31)) (fun _ h_=>h_.1))));(case side2=>exact (Kd.R_reads' HO264.out).2.1);rintro e w32 ⟨v268,rfl,ho0,hb⟩;refine ⟨_,rfl,?_⟩;have n0_:=zz31 (Kd.R_elder' (by (with_reducible repeat (first | apply zz12 | apply zz13 | apply zz14));exact (Kd.R_mono (Kd.R_far (p:=⟨gb265,1,none⟩) (Kd.R_far (p:=⟨gb265,0,none⟩) (Kd.R_types HO254.out BK265.out (by decide)) (fun _ hk=>hk.2) (.int .i64 t261)) (fun _ hk=>hk.2) (.slice Ao31 t262.length co31)) (fun _ h_=>h_.1))) (Kd.R_base ho0) hb);have n1_:=zz31 (Kd.R_elder' (by (with_reducible repeat (first | apply zz12 | apply zz13 | apply zz14));exact (Kd.R_mono (Kd.R_far (p:=⟨gb265,1,none⟩) (Kd.R_far (p:=⟨gb265,0,none⟩) (Kd.R_types HO258.out BK265.out (by decide)) (fun _ hk=>hk.2) (.int .i64 t261)) (fun _ hk=>hk.2) (.slice Ao31 t262.length co31)) (fun _ h_=>h_.1))) (Kd.R_base ho0) hb);have n2_:=zz31 (Kd.R_elder' (by (with_reducible repeat (first | apply zz12 | apply zz13 | apply zz14));exact (Kd.R_mono (Kd.R_far (p:=⟨gb265,1,none⟩) (Kd.R_far (p:=⟨gb265,0,none⟩) (Kd.R_types HO264.out BK265.out (by decide)) (fun _ hk=>hk.2) (.int .i64 t261)) (fun _ hk=>hk.2) (.slice Ao31 t262.length co31)) (fun _ h_=>h_.1))) (Kd.R_base ho0) hb);have n3_:=zz31 (Kd.R_lower (Kd.R_new' (Kd.R_new' (Kd.R_new' ho0 (Kd.R_lt (by (with_reducible repeat (first | apply zz12 | apply zz13 | apply zz14));exact (Kd.R_mono (Kd.R_far (p:=⟨gb265,1,none⟩) (Kd.R_far (p:=⟨gb265,0,none⟩) (Kd.R_types HO254.out BK265.out (by decide)) (fun _ hk=>hk.2) (.int .i64 t261)) (fun _ hk=>hk.2) (.slice Ao31 t262.length co31)) (fun _ h_=>h_.1))))) (Kd.R_lt (by (with_reducible repeat (first | apply zz12 | apply zz13 | apply zz14));exact (Kd.R_mono (Kd.R_far (p:=⟨gb265,1,none⟩) (Kd.R_far (p:=⟨gb265,0,none⟩) (Kd.R_types HO258.out BK265.out (by decide)) (fun _ hk=>hk.2) (.int .i64 t261)) (fun _ hk=>hk.2) (.slice Ao31 t262.length co31)) (fun _ h_=>h_.1))))) (Kd.R_lt (by (with_reducible repeat (first | apply zz12 | apply zz13 | apply zz14));exact (Kd.R_mono (Kd.R_far (p:=⟨gb265,1,none⟩) (Kd.R_far (p:=⟨gb265,0,none⟩) (Kd.R_types HO264.out BK265.out (by decide)) (fun _ hk=>hk.2) (.int .i64 t261)) (fun _ hk=>hk.2) (.slice Ao31 t262.length co31)) (fun _ h_=>h_.1))))) (zz5 (by repeat first | exact HB.out | apply zz2 | apply zz0 | apply zz1 | refine zz3 ?_ GE249.out | refine zz3 ?_ GE260.out | refine zz3 ?_ GE265.out)));have n4_:=zz31 (zz11 (g:=gb249) (o:=.cells #[.int .i64 a0_0,.slice A0_1 l0_1.length c0_1] 24 (0,0)) (by (with_reducible repeat (first | refine zz6 ?_ _ | refine zz7 ?_ | refine zz8 ?_ _));refine blk_far ?_ NB249_265.out _;(with_reducible repeat (first | refine zz6 ?_ _ | refine zz7 ?_ | refine zz8 ?_ _));refine blk_far ?_ NB249_265.out _;(with_reducible repeat (first | refine zz6 ?_ _ | refine zz7 ?_ | refine zz8 ?_ _));exact BK249.out) hb);have n5_:=zz31 (zz11 (g:=gb260) (o:=.cells #[.int .i64 t255,.slice Ao24 t256.length co24] 30 (0,0)) (by (with_reducible repeat (first | refine zz6 ?_ _ | refine zz7 ?_ | refine zz8 ?_ _));refine blk_far ?_ NB260_265.out _;(with_reducible repeat (first | refine zz6 ?_ _ | refine zz7 ?_ | refine zz8 ?_ _));refine blk_far ?_ NB260_265.out _;(with_reducible repeat (first | refine zz6 ?_ _ | refine zz7 ?_ | refine zz8 ?_ _));exact BK260.out) hb);have n6_:=zz31 (zz11 (g:=gb265) (o:=.cells #[.int .i64 t261,.slice Ao31 t262.length co31] 30 (0,0)) (by (with_reducible repeat (first | refine zz6 ?_ _ | refine zz7 ?_ | refine zz8 ?_ _));refine blk_put (cs:=#[.int .i64 t261,.slice none 0 0]) ?_ 1 _ rfl;(with_reducible repeat (first | refine zz6 ?_ _ | refine zz7 ?_ | refine zz8 ?_ _));refine blk_put (cs:=#[.int .i64 0,.slice none 0 0]) ?_ 0 _ rfl;(with_reducible repeat (first | refine zz6 ?_ _ | refine zz7 ?_ | refine zz8 ?_ _));exact BK265.out) hb);have n7_:=zz31 (zz4 (by repeat first | exact HB.out | apply zz2 | apply zz0 | apply zz1 | refine zz3 ?_ GE249.out | refine zz3 ?_ GE260.out | refine zz3 ?_ GE265.out) hb);clear HO254;clear HO258;clear HO264;clear BK249;clear BK260;clear BK265;clear HB;have HO254:=n0_;have HO258:=n1_;have HO264:=n2_;have HO269:=n3_;have BK249:=n4_;have BK260:=n5_;have BK265:=n6_;have HB:=n7_;clear n0_ n1_ n2_ n3_ n4_ n5_ n6_ n7_;(try clear hb);(try clear hb2);(try clear hk);(try clear hi);(try clear ho0)) | ((with_reducible refine gate_dst (N:=11) rfl ?_);refine box_event ?hg (N:=11) ?hd (cs:=#[.int .i64 0,.slice none 0 0]) (t:=30) ?hr ?_;(case hd=>rfl);(case hg=>rfl);(case hr=>first | (go_simp;done) | (go_simp;rfl));intro gb271 hg w33 hbox hb;have n0_:=zz31 (Kd.R_below (by (with_reducible repeat (first | apply zz12 | apply zz13 | apply zz14));exact HO254.out) hb);have n1_:=zz31 (Kd.R_below (by (with_reducible repeat (first | apply zz12 | apply zz13 | apply zz14));exact HO258.out) hb);have n2_:=zz31 (Kd.R_below (by (with_reducible repeat (first | apply zz12 | apply zz13 | apply zz14));exact HO264.out) hb);have n3_:=zz31 (Kd.R_below (by (with_reducible repeat (first | apply zz12 | apply zz13 | apply zz14));exact HO269.out) hb);have n4_:=zz31 (zz11 (g:=gb249) (o:=.cells #[.int .i64 a0_0,.slice A0_1 l0_1.length c0_1] 24 (0,0)) (by (with_reducible repeat (first | refine zz6 ?_ _ | refine zz7 ?_ | refine zz8 ?_ _));exact BK249.out) hb);have n5_:=zz31 (zz11 (g:=gb260) (o:=.cells #[.int .i64 t255,.slice Ao24 t256.length co24] 30 (0,0)) (by (with_reducible repeat (first | refine zz6 ?_ _ | refine zz7 ?_ | refine zz8 ?_ _));exact BK260.out) hb);have n6_:=zz31 (zz11 (g:=gb265) (o:=.cells #[.int .i64 t261,.slice Ao31 t262.length co31] 30 (0,0)) (by (with_reducible repeat (first | refine zz6 ?_ _ | refine zz7 ?_ | refine zz8 ?_ _));exact BK265.out) hb);have n7_:=zz31 (zz4 (by repeat first | exact HB.out | apply zz2 | apply zz0 | apply zz1 | refine zz3 ?_ GE249.out | refine zz3 ?_ GE260.out | refine zz3 ?_ GE265.out) hb);have n8_:=zz31 (hbox);have n9_:=zz31 ((by rw [hg];exact (zz5 (by repeat first | exact HB.out | apply zz2 | apply zz0 | apply zz1 | refine zz3 ?_ GE249.out | refine zz3 ?_ GE260.out | refine zz3 ?_ GE265.out)):w.heap.size≤gb271));have n10_:=zz31 ((by rw [hg];exact (zz5 (by repeat first | exact HB.out | apply zz2 | apply zz0 | apply zz1 | refine zz3 ?_ GE249.out | refine zz3 ?_ GE260.out | refine zz3 ?_ GE265.out)):w.heap.size≤gb271));have n11_:=zz31 ((by rw [hg];exact Nat.ne_of_lt (blk_lt (g:=gb249) (o:=.cells #[.int .i64 a0_0,.slice A0_1 l0_1.length c0_1] 24 (0,0)) (by (with_reducible repeat (first | refine zz6 ?_ _ | refine zz7 ?_ | refine zz8 ?_ _));exact BK249.out)):gb249 ≠ gb271));have n12_:=zz31 ((by rw [hg];exact Nat.ne_of_gt (blk_lt (g:=gb249) (o:=.cells #[.int .i64 a0_0,.slice A0_1 l0_1.length c0_1] 24 (0,0)) (by (with_reducible repeat (first | refine zz6 ?_ _ | refine zz7 ?_ | refine zz8 ?_ _));exact BK249.out)):gb271 ≠ gb249));have n13_:=zz31 ((by rw [hg];exact Nat.ne_of_lt (blk_lt (g:=gb260) (o:=.cells #[.int .i64 t255,.slice Ao24 t256.length co24] 30 (0,0)) (by (with_reducible repeat (first | refine zz6 ?_ _ | refine zz7 ?_ | refine zz8 ?_ _));exact BK260.out)):gb260 ≠ gb271));have n14_:=zz31 ((by rw [hg];exact Nat.ne_of_gt (blk_lt (g:=gb260) (o:=.cells #[.int .i64 t255,.slice Ao24 t256.length co24] 30 (0,0)) (by (with_reducible repeat (first | refine zz6 ?_ _ | refine zz7 ?_ | refine zz8 ?_ _));exact BK260.out)):gb271 ≠ gb260));have n15_:=zz31 ((by rw [hg];exact Nat.ne_of_lt (blk_lt (g:=gb265) (o:=.cells #[.int .i64 t261,.slice Ao31 t262.length co31] 30 (0,0)) (by (with_reducible repeat (first | refine zz6 ?_ _ | refine zz7 ?_ | refine zz8 ?_ _));exact BK265.out)):gb265 ≠ gb271));have n16_:=zz31 ((by rw [hg];exact Nat.ne_of_gt (blk_lt (g:=gb265) (o:=.cells #[.int .i64 t261,.slice Ao31 t262.length co31] 30 (0,0)) (by (with_reducible repeat (first | refine zz6 ?_ _ | refine zz7 ?_ | refine zz8 ?_ _));exact BK265.out)):gb271 ≠ gb265));clear HO254;clear HO258;clear HO264;clear HO269;clear BK249;clear BK260;clear BK265;clear HB;have HO254:=n0_;have HO258:=n1_;have HO264:=n2_;have HO269:=n3_;have BK249:=n4_;have BK260:=n5_;have BK265:=n6_;have HB:=n7_;have BK271:=n8_;have GW271:=n9_;have GE271:=n10_;have NB249_271:=n11_;have NB271_249:=n12_;have NB260_271:=n13_;have NB271_260:=n14_;have NB265_271:=n15_;have NB271_265:=n16_;clear n0_ n1_ n2_ n3_ n4_ n5_ n6_ n7_ n8_ n9_ n10_ n11_ n12_ n13_ n14_ n15_ n16_;clear hb hbox hg;have hnb34:=NB271_249.out;have hnc34:=NB249_271.out;have hnb35:=NB271_260.out;have hnc35:=NB260_271.out;have hnb36:=NB271_265.out;have hnc36:=NB265_271.out;have hcz37_0:w33.cell? ⟨gb271,0,none⟩=some (.int .i64 0):=(zz9 BK271.out 0).trans rfl;have hcz37_1:w33.cell? ⟨gb271,1,none⟩=some (.slice none 0 0):=(zz9 BK271.out 1).trans rfl;have hfz37_0:=zz10 BK271.out 0;have hfz37_1:=zz10 BK271.out 1;obtain ⟨Ao38,co38,eo38⟩:=Kd.R_slice HO269.out;subst eo38))
  (try simp only [Act.put,zz21,zz22,zz23])
  go_cut [48] (fun v48 wc=>∃ (kq:Nat) (x48_12:Bool),v48=.bool x48_12∧Aside0 (laws_FnExactDropPair.j0 kq a1 a2 t259 t270 x48_12 a0_0 l0_1 t255 t256 t261 t262 t266 t267=some r)∧Aside0 (kq≤k)∧Aside0 (Kd.R k80 80 wc w.heap.size (fun k_=>some k_ ≠ ((.slice Ao31 t262.length co31):Value).ownBlock∧some k_ ≠ ((.slice Ao38 t267.length co38):Value).ownBlock) (.slice Ao24 t256.length co24) t256)∧Aside0 (Kd.R k80 80 wc w.heap.size (fun k_=>some k_ ≠ ((.slice Ao24 t256.length co24):Value).ownBlock∧some k_ ≠ ((.slice Ao38 t267.length co38):Value).ownBlock) (.slice Ao31 t262.length co31) t262)∧Aside0 (Kd.R k80 80 wc w.heap.size (fun k_=>some k_ ≠ ((.slice Ao24 t256.length co24):Value).ownBlock∧some k_ ≠ ((.slice Ao31 t262.length co31):Value).ownBlock) (.slice Ao38 t267.length co38) t267)∧Aside0 (wc.heap[gb249]?=some (.cells #[.int .i64 a0_0,(.slice A0_1 l0_1.length c0_1)] 24 (0,0)))∧Aside0 (wc.heap[gb260]?=some (.cells #[.int .i64 t255,(.slice Ao24 t256.length co24)] 30 (0,0)))∧Aside0 (wc.heap[gb265]?=some (.cells #[.int .i64 t261,(.slice Ao31 t262.length co31)] 30 (0,0)))∧Aside0 (wc.heap[gb271]?=some (.cells #[.int .i64 t266,(.slice Ao38 t267.length co38)] 30 (0,0)))∧Aside0 (Below w.heap.size w wc))
  case first =>
   have H:=HC13.out
   clear HC13
   replace H:=zz30.mp H
   obtain ⟨t272,A390,H⟩:=H
   replace H:(if t272=true then (laws_FnExactDropPair.j0 k a1 a2 t259 t270 (t270 != t259) a0_0 l0_1 t255 t256 t261 t262 t266 t267) else (laws_FnExactDropPair.j0 k a1 a2 t259 t270 true a0_0 l0_1 t255 t256 t261 t262 t266 t267))=some r:=H
   have A39:=zz31 A390
   clear A390
   by_cases c40:t272=true
   ·subst c40
    have H1:(laws_FnExactDropPair.j0 k a1 a2 t259 t270 (t270 != t259) a0_0 l0_1 t255 t256 t261 t262 t266 t267)=some r:=by rw [if_pos rfl] at H;exact H
    clear H
    have H:=H1
    clear H1
    have H':=zz31 H
    clear H
    have hnb41:=NB271_249.out
    have hnc41:=NB249_271.out
    have hnb42:=NB271_260.out
    have hnc42:=NB260_271.out
    have hnb43:=NB271_265.out
    have hnc43:=NB265_271.out
    have hcz44_0:w33.cell? ⟨gb271,0,none⟩=some (.int .i64 0):=(zz9 BK271.out 0).trans rfl
    have hcz44_1:w33.cell? ⟨gb271,1,none⟩=some (.slice none 0 0):=(zz9 BK271.out 1).trans rfl
    have hfz44_0:=zz10 BK271.out 0
    have hfz44_1:=zz10 BK271.out 1
    have hnb45:=NB260_249.out
    have hnc45:=NB249_260.out
    have hnb46:=NB260_265.out
    have hnc46:=NB265_260.out
    have hcz47_0:w33.cell? ⟨gb260,0,none⟩=some (.int .i64 t255):=(zz9 BK260.out 0).trans rfl
    have hcz47_1:w33.cell? ⟨gb260,1,none⟩=some (.slice Ao24 t256.length co24):=(zz9 BK260.out 1).trans rfl
    have hfz47_0:=zz10 BK260.out 0
    have hfz47_1:=zz10 BK260.out 1
    go_wp2_with (first | ((with_reducible refine gate_callee (f:=16) rfl ?_);refine goesL_ (some 42) rfl rfl Try.func16 (by kernel_rfl) rfl #[.agg #[.int .i64 t266,.slice Ao38 t267.length co38],.agg #[.int .i64 t255,.slice Ao24 t256.length co24]] rfl (by (try simp only [zz26,zz27,zz28]);first | done | rfl | (simp only [zz24,zz25];rfl)) ?_;(with_reducible refine (laws_eqParty.calls k t266 _ _ t267 t255 _ _ t256 true _ ?side1 ?side2 ?side3 ?side4 A39.out).mono ?_);(case side1=>refine (Kd.R_reads' (e:=80) (base:=w.heap.size) (ok:=fun k_=>(((True∧some k_ ≠ (.slice Ao19 t252.length co19:Value).ownBlock)∧some k_ ≠ (.slice Ao24 t256.length co24:Value).ownBlock)∧some k_ ≠ (.slice Ao31 t262.length co31:Value).ownBlock)) (n:=t267.length) (c:=co38) ?_).2.2;exact (by (with_reducible repeat (first | apply zz12 | apply zz13 | apply zz14));exact (Kd.R_mono (Kd.R_far (p:=⟨gb271,1,none⟩) (Kd.R_far (p:=⟨gb271,0,none⟩) (Kd.R_types HO269.out BK271.out (by decide)) (fun _ hk=>hk.2) (.int .i64 t266)) (fun _ hk=>hk.2) (.slice Ao38 t267.length co38)) (fun _ h_=>h_.1))));(case side2=>exact (Kd.R_reads' HO269.out).2.1);(case side3=>refine (Kd.R_reads' (e:=80) (base:=w.heap.size) (ok:=fun k_=>(((True∧some k_ ≠ (.slice Ao19 t252.length co19:Value).ownBlock)∧some k_ ≠ (.slice Ao31 t262.length co31:Value).ownBlock)∧some k_ ≠ (.slice Ao38 t267.length co38:Value).ownBlock)) (n:=t256.length) (c:=co24) ?_).2.2;exact (by (with_reducible repeat (first | apply zz12 | apply zz13 | apply zz14));exact (Kd.R_mono (Kd.R_far (p:=⟨gb271,1,none⟩) (Kd.R_far (p:=⟨gb271,0,none⟩) (Kd.R_types HO258.out BK271.out (by decide)) (fun _ hk=>hk.2) (.int .i64 t266)) (fun _ hk=>hk.2) (.slice Ao38 t267.length co38)) (fun _ h_=>h_.1))));(case side4=>exact (Kd.R_reads' HO258.out).2.1);rintro e w48 ⟨rfl,hb⟩;refine ⟨_,rfl,?_⟩;have n0_:=zz31 (Kd.R_below (by (with_reducible repeat (first | apply zz12 | apply zz13 | apply zz14));exact (Kd.R_mono (Kd.R_far (p:=⟨gb271,1,none⟩) (Kd.R_far (p:=⟨gb271,0,none⟩) (Kd.R_types HO254.out BK271.out (by decide)) (fun _ hk=>hk.2) (.int .i64 t266)) (fun _ hk=>hk.2) (.slice Ao38 t267.length co38)) (fun _ h_=>h_.1))) hb);have n1_:=zz31 (Kd.R_below (by (with_reducible repeat (first | apply zz12 | apply zz13 | apply zz14));exact (Kd.R_mono (Kd.R_far (p:=⟨gb271,1,none⟩) (Kd.R_far (p:=⟨gb271,0,none⟩) (Kd.R_types HO258.out BK271.out (by decide)) (fun _ hk=>hk.2) (.int .i64 t266)) (fun _ hk=>hk.2) (.slice Ao38 t267.length co38)) (fun _ h_=>h_.1))) hb);have n2_:=zz31 (Kd.R_below (by (with_reducible repeat (first | apply zz12 | apply zz13 | apply zz14));exact (Kd.R_mono (Kd.R_far (p:=⟨gb271,1,none⟩) (Kd.R_far (p:=⟨gb271,0,none⟩) (Kd.R_types HO264.out BK271.out (by decide)) (fun _ hk=>hk.2) (.int .i64 t266)) (fun _ hk=>hk.2) (.slice Ao38 t267.length co38)) (fun _ h_=>h_.1))) hb);have n3_:=zz31 (Kd.R_below (by (with_reducible repeat (first | apply zz12 | apply zz13 | apply zz14));exact (Kd.R_mono (Kd.R_far (p:=⟨gb271,1,none⟩) (Kd.R_far (p:=⟨gb271,0,none⟩) (Kd.R_types HO269.out BK271.out (by decide)) (fun _ hk=>hk.2) (.int .i64 t266)) (fun _ hk=>hk.2) (.slice Ao38 t267.length co38)) (fun _ h_=>h_.1))) hb);have n4_:=zz31 (zz11 (g:=gb249) (o:=.cells #[.int .i64 a0_0,.slice A0_1 l0_1.length c0_1] 24 (0,0)) (by (with_reducible repeat (first | refine zz6 ?_ _ | refine zz7 ?_ | refine zz8 ?_ _));refine blk_far ?_ NB249_271.out _;(with_reducible repeat (first | refine zz6 ?_ _ | refine zz7 ?_ | refine zz8 ?_ _));refine blk_far ?_ NB249_271.out _;(with_reducible repeat (first | refine zz6 ?_ _ | refine zz7 ?_ | refine zz8 ?_ _));exact BK249.out) hb);have n5_:=zz31 (zz11 (g:=gb260) (o:=.cells #[.int .i64 t255,.slice Ao24 t256.length co24] 30 (0,0)) (by (with_reducible repeat (first | refine zz6 ?_ _ | refine zz7 ?_ | refine zz8 ?_ _));refine blk_far ?_ NB260_271.out _;(with_reducible repeat (first | refine zz6 ?_ _ | refine zz7 ?_ | refine zz8 ?_ _));refine blk_far ?_ NB260_271.out _;(with_reducible repeat (first | refine zz6 ?_ _ | refine zz7 ?_ | refine zz8 ?_ _));exact BK260.out) hb);have n6_:=zz31 (zz11 (g:=gb265) (o:=.cells #[.int .i64 t261,.slice Ao31 t262.length co31] 30 (0,0)) (by (with_reducible repeat (first | refine zz6 ?_ _ | refine zz7 ?_ | refine zz8 ?_ _));refine blk_far ?_ NB265_271.out _;(with_reducible repeat (first | refine zz6 ?_ _ | refine zz7 ?_ | refine zz8 ?_ _));refine blk_far ?_ NB265_271.out _;(with_reducible repeat (first | refine zz6 ?_ _ | refine zz7 ?_ | refine zz8 ?_ _));exact BK265.out) hb);have n7_:=zz31 (zz11 (g:=gb271) (o:=.cells #[.int .i64 t266,.slice Ao38 t267.length co38] 30 (0,0)) (by (with_reducible repeat (first | refine zz6 ?_ _ | refine zz7 ?_ | refine zz8 ?_ _));refine blk_put (cs:=#[.int .i64 t266,.slice none 0 0]) ?_ 1 _ rfl;(with_reducible repeat (first | refine zz6 ?_ _ | refine zz7 ?_ | refine zz8 ?_ _));refine blk_put (cs:=#[.int .i64 0,.slice none 0 0]) ?_ 0 _ rfl;(with_reducible repeat (first | refine zz6 ?_ _ | refine zz7 ?_ | refine zz8 ?_ _));exact BK271.out) hb);have n8_:=zz31 (zz4 (by repeat first | exact HB.out | apply zz2 | apply zz0 | apply zz1 | refine zz3 ?_ GE249.out | refine zz3 ?_ GE260.out | refine zz3 ?_ GE265.out | refine zz3 ?_ GE271.out) hb);clear HO254;clear HO258;clear HO264;clear HO269;clear BK249;clear BK260;clear BK265;clear BK271;clear HB;have HO254:=n0_;have HO258:=n1_;have HO264:=n2_;have HO269:=n3_;have BK249:=n4_;have BK260:=n5_;have BK265:=n6_;have BK271:=n7_;have HB:=n8_;clear n0_ n1_ n2_ n3_ n4_ n5_ n6_ n7_ n8_;(try clear hb);(try clear hb2);(try clear hk);(try clear hi)))
    go_meet
    case rel=>exact ⟨_,((t270 != t259)),(by first | rfl | (simp;done) | (simp [*];done)),H',⟨by first | omega | exact Nat.le_refl _⟩,⟨by (with_reducible repeat (first | apply zz12 | apply zz13 | apply zz14));exact Kd.R_mono HO258.out (fun _ hk=>⟨hk.1.2,hk.2⟩)⟩,⟨by (with_reducible repeat (first | apply zz12 | apply zz13 | apply zz14));exact Kd.R_mono HO264.out (fun _ hk=>⟨hk.1.2,hk.2⟩)⟩,⟨by (with_reducible repeat (first | apply zz12 | apply zz13 | apply zz14));exact Kd.R_mono HO269.out (fun _ hk=>⟨hk.1.2,hk.2⟩)⟩,⟨by (with_reducible repeat (first | refine zz6 ?_ _ | refine zz7 ?_ | refine zz8 ?_ _));exact BK249.out⟩,⟨by (with_reducible repeat (first | refine zz6 ?_ _ | refine zz7 ?_ | refine zz8 ?_ _));exact BK260.out⟩,⟨by (with_reducible repeat (first | refine zz6 ?_ _ | refine zz7 ?_ | refine zz8 ?_ _));exact BK265.out⟩,⟨by (with_reducible repeat (first | refine zz6 ?_ _ | refine zz7 ?_ | refine zz8 ?_ _));exact BK271.out⟩,⟨by repeat first | exact HB.out | apply zz2 | apply zz0 | apply zz1 | refine zz3 ?_ GE249.out | refine zz3 ?_ GE260.out | refine zz3 ?_ GE265.out | refine zz3 ?_ GE271.out⟩⟩
   ·replace c40:=Bool.eq_false_iff.mpr c40
    subst c40
    have H1:(laws_FnExactDropPair.j0 k a1 a2 t259 t270 true a0_0 l0_1 t255 t256 t261 t262 t266 t267)=some r:=by rw [if_neg (show ¬ (false=true) by decide)] at H;exact H
    clear H
    have H:=H1
    clear H1
    have H':=zz31 H
    clear H
    have hnb49:=NB271_249.out
    have hnc49:=NB249_271.out
    have hnb50:=NB271_260.out
    have hnc50:=NB260_271.out
    have hnb51:=NB271_265.out
    have hnc51:=NB265_271.out
    have hcz52_0:w33.cell? ⟨gb271,0,none⟩=some (.int .i64 0):=(zz9 BK271.out 0).trans rfl
    have hcz52_1:w33.cell? ⟨gb271,1,none⟩=some (.slice none 0 0):=(zz9 BK271.out 1).trans rfl
    have hfz52_0:=zz10 BK271.out 0
    have hfz52_1:=zz10 BK271.out 1
    have hnb53:=NB260_249.out
    have hnc53:=NB249_260.out
    have hnb54:=NB260_265.out
    have hnc54:=NB265_260.out
    have hcz55_0:w33.cell? ⟨gb260,0,none⟩=some (.int .i64 t255):=(zz9 BK260.out 0).trans rfl
    have hcz55_1:w33.cell? ⟨gb260,1,none⟩=some (.slice Ao24 t256.length co24):=(zz9 BK260.out 1).trans rfl
    have hfz55_0:=zz10 BK260.out 0
    have hfz55_1:=zz10 BK260.out 1
    go_wp2_with (first | ((with_reducible refine gate_callee (f:=16) rfl ?_);refine goesL_ (some 42) rfl rfl Try.func16 (by kernel_rfl) rfl #[.agg #[.int .i64 t266,.slice Ao38 t267.length co38],.agg #[.int .i64 t255,.slice Ao24 t256.length co24]] rfl (by (try simp only [zz26,zz27,zz28]);first | done | rfl | (simp only [zz24,zz25];rfl)) ?_;(with_reducible refine (laws_eqParty.calls k t266 _ _ t267 t255 _ _ t256 false _ ?side1 ?side2 ?side3 ?side4 A39.out).mono ?_);(case side1=>refine (Kd.R_reads' (e:=80) (base:=w.heap.size) (ok:=fun k_=>(((True∧some k_ ≠ (.slice Ao19 t252.length co19:Value).ownBlock)∧some k_ ≠ (.slice Ao24 t256.length co24:Value).ownBlock)∧some k_ ≠ (.slice Ao31 t262.length co31:Value).ownBlock)) (n:=t267.length) (c:=co38) ?_).2.2;exact (by (with_reducible repeat (first | apply zz12 | apply zz13 | apply zz14));exact (Kd.R_mono (Kd.R_far (p:=⟨gb271,1,none⟩) (Kd.R_far (p:=⟨gb271,0,none⟩) (Kd.R_types HO269.out BK271.out (by decide)) (fun _ hk=>hk.2) (.int .i64 t266)) (fun _ hk=>hk.2) (.slice Ao38 t267.length co38)) (fun _ h_=>h_.1))));(case side2=>exact (Kd.R_reads' HO269.out).2.1);(case side3=>refine (Kd.R_reads' (e:=80) (base:=w.heap.size) (ok:=fun k_=>(((True∧some k_ ≠ (.slice Ao19 t252.length co19:Value).ownBlock)∧some k_ ≠ (.slice Ao31 t262.length co31:Value).ownBlock)∧some k_ ≠ (.slice Ao38 t267.length co38:Value).ownBlock)) (n:=t256.length) (c:=co24) ?_).2.2;exact (by (with_reducible repeat (first | apply zz12 | apply zz13 | apply zz14));exact (Kd.R_mono (Kd.R_far (p:=⟨gb271,1,none⟩) (Kd.R_far (p:=⟨gb271,0,none⟩) (Kd.R_types HO258.out BK271.out (by decide)) (fun _ hk=>hk.2) (.int .i64 t266)) (fun _ hk=>hk.2) (.slice Ao38 t267.length co38)) (fun _ h_=>h_.1))));(case side4=>exact (Kd.R_reads' HO258.out).2.1);rintro e w56 ⟨rfl,hb⟩;refine ⟨_,rfl,?_⟩;have n0_:=zz31 (Kd.R_below (by (with_reducible repeat (first | apply zz12 | apply zz13 | apply zz14));exact (Kd.R_mono (Kd.R_far (p:=⟨gb271,1,none⟩) (Kd.R_far (p:=⟨gb271,0,none⟩) (Kd.R_types HO254.out BK271.out (by decide)) (fun _ hk=>hk.2) (.int .i64 t266)) (fun _ hk=>hk.2) (.slice Ao38 t267.length co38)) (fun _ h_=>h_.1))) hb);have n1_:=zz31 (Kd.R_below (by (with_reducible repeat (first | apply zz12 | apply zz13 | apply zz14));exact (Kd.R_mono (Kd.R_far (p:=⟨gb271,1,none⟩) (Kd.R_far (p:=⟨gb271,0,none⟩) (Kd.R_types HO258.out BK271.out (by decide)) (fun _ hk=>hk.2) (.int .i64 t266)) (fun _ hk=>hk.2) (.slice Ao38 t267.length co38)) (fun _ h_=>h_.1))) hb);have n2_:=zz31 (Kd.R_below (by (with_reducible repeat (first | apply zz12 | apply zz13 | apply zz14));exact (Kd.R_mono (Kd.R_far (p:=⟨gb271,1,none⟩) (Kd.R_far (p:=⟨gb271,0,none⟩) (Kd.R_types HO264.out BK271.out (by decide)) (fun _ hk=>hk.2) (.int .i64 t266)) (fun _ hk=>hk.2) (.slice Ao38 t267.length co38)) (fun _ h_=>h_.1))) hb);have n3_:=zz31 (Kd.R_below (by (with_reducible repeat (first | apply zz12 | apply zz13 | apply zz14));exact (Kd.R_mono (Kd.R_far (p:=⟨gb271,1,none⟩) (Kd.R_far (p:=⟨gb271,0,none⟩) (Kd.R_types HO269.out BK271.out (by decide)) (fun _ hk=>hk.2) (.int .i64 t266)) (fun _ hk=>hk.2) (.slice Ao38 t267.length co38)) (fun _ h_=>h_.1))) hb);have n4_:=zz31 (zz11 (g:=gb249) (o:=.cells #[.int .i64 a0_0,.slice A0_1 l0_1.length c0_1] 24 (0,0)) (by (with_reducible repeat (first | refine zz6 ?_ _ | refine zz7 ?_ | refine zz8 ?_ _));refine blk_far ?_ NB249_271.out _;(with_reducible repeat (first | refine zz6 ?_ _ | refine zz7 ?_ | refine zz8 ?_ _));refine blk_far ?_ NB249_271.out _;(with_reducible repeat (first | refine zz6 ?_ _ | refine zz7 ?_ | refine zz8 ?_ _));exact BK249.out) hb);have n5_:=zz31 (zz11 (g:=gb260) (o:=.cells #[.int .i64 t255,.slice Ao24 t256.length co24] 30 (0,0)) (by (with_reducible repeat (first | refine zz6 ?_ _ | refine zz7 ?_ | refine zz8 ?_ _));refine blk_far ?_ NB260_271.out _;(with_reducible repeat (first | refine zz6 ?_ _ | refine zz7 ?_ | refine zz8 ?_ _));refine blk_far ?_ NB260_271.out _;(with_reducible repeat (first | refine zz6 ?_ _ | refine zz7 ?_ | refine zz8 ?_ _));exact BK260.out) hb);have n6_:=zz31 (zz11 (g:=gb265) (o:=.cells #[.int .i64 t261,.slice Ao31 t262.length co31] 30 (0,0)) (by (with_reducible repeat (first | refine zz6 ?_ _ | refine zz7 ?_ | refine zz8 ?_ _));refine blk_far ?_ NB265_271.out _;(with_reducible repeat (first | refine zz6 ?_ _ | refine zz7 ?_ | refine zz8 ?_ _));refine blk_far ?_ NB265_271.out _;(with_reducible repeat (first | refine zz6 ?_ _ | refine zz7 ?_ | refine zz8 ?_ _));exact BK265.out) hb);have n7_:=zz31 (zz11 (g:=gb271) (o:=.cells #[.int .i64 t266,.slice Ao38 t267.length co38] 30 (0,0)) (by (with_reducible repeat (first | refine zz6 ?_ _ | refine zz7 ?_ | refine zz8 ?_ _));refine blk_put (cs:=#[.int .i64 t266,.slice none 0 0]) ?_ 1 _ rfl;(with_reducible repeat (first | refine zz6 ?_ _ | refine zz7 ?_ | refine zz8 ?_ _));refine blk_put (cs:=#[.int .i64 0,.slice none 0 0]) ?_ 0 _ rfl;(with_reducible repeat (first | refine zz6 ?_ _ | refine zz7 ?_ | refine zz8 ?_ _));exact BK271.out) hb);have n8_:=zz31 (zz4 (by repeat first | exact HB.out | apply zz2 | apply zz0 | apply zz1 | refine zz3 ?_ GE249.out | refine zz3 ?_ GE260.out | refine zz3 ?_ GE265.out | refine zz3 ?_ GE271.out) hb);clear HO254;clear HO258;clear HO264;clear HO269;clear BK249;clear BK260;clear BK265;clear BK271;clear HB;have HO254:=n0_;have HO258:=n1_;have HO264:=n2_;have HO269:=n3_;have BK249:=n4_;have BK260:=n5_;have BK265:=n6_;have BK271:=n7_;have HB:=n8_;clear n0_ n1_ n2_ n3_ n4_ n5_ n6_ n7_ n8_;(try clear hb);(try clear hb2);(try clear hk);(try clear hi)))
    go_meet
    case rel=>exact ⟨_,(true),(by first | rfl | (simp;done) | (simp [*];done)),H',⟨by first | omega | exact Nat.le_refl _⟩,⟨by (with_reducible repeat (first | apply zz12 | apply zz13 | apply zz14));exact Kd.R_mono HO258.out (fun _ hk=>⟨hk.1.2,hk.2⟩)⟩,⟨by (with_reducible repeat (first | apply zz12 | apply zz13 | apply zz14));exact Kd.R_mono HO264.out (fun _ hk=>⟨hk.1.2,hk.2⟩)⟩,⟨by (with_reducible repeat (first | apply zz12 | apply zz13 | apply zz14));exact Kd.R_mono HO269.out (fun _ hk=>⟨hk.1.2,hk.2⟩)⟩,⟨by (with_reducible repeat (first | refine zz6 ?_ _ | refine zz7 ?_ | refine zz8 ?_ _));exact BK249.out⟩,⟨by (with_reducible repeat (first | refine zz6 ?_ _ | refine zz7 ?_ | refine zz8 ?_ _));exact BK260.out⟩,⟨by (with_reducible repeat (first | refine zz6 ?_ _ | refine zz7 ?_ | refine zz8 ?_ _));exact BK265.out⟩,⟨by (with_reducible repeat (first | refine zz6 ?_ _ | refine zz7 ?_ | refine zz8 ?_ _));exact BK271.out⟩,⟨by repeat first | exact HB.out | apply zz2 | apply zz0 | apply zz1 | refine zz3 ?_ GE249.out | refine zz3 ?_ GE260.out | refine zz3 ?_ GE265.out | refine zz3 ?_ GE271.out⟩⟩
  case rest =>
   clear HC13
   try clear c1
   try clear c2
   try clear p2
   try clear c3
   try clear c4
   try clear c5
   try clear c5b0
   try clear c9
   try clear c12
   try clear c14
   try clear c16
   try clear c22
   try clear c28
   try clear c29
   try clear c34
   try clear c35
   try clear c36
   try clear c40
   try clear c41
   try clear c42
   try clear c43
   try clear c45
   try clear c46
   try clear c49
   try clear c50
   try clear c51
   try clear c53
   try clear c54
   try clear hcz15_0
   try clear hcz15_1
   try clear hcz17_0
   try clear hcz17_1
   try clear hcz23_0
   try clear hcz23_1
   try clear hcz25_0
   try clear hcz25_1
   try clear hcz30_0
   try clear hcz30_1
   try clear hcz37_0
   try clear hcz37_1
   try clear hcz44_0
   try clear hcz44_1
   try clear hcz47_0
   try clear hcz47_1
   try clear hcz52_0
   try clear hcz52_1
   try clear hcz55_0
   try clear hcz55_1
   try clear hcz7_0
   try clear hcz7_1
   try clear hfz15_0
   try clear hfz15_1
   try clear hfz17_0
   try clear hfz17_1
   try clear hfz23_0
   try clear hfz23_1
   try clear hfz25_0
   try clear hfz25_1
   try clear hfz30_0
   try clear hfz30_1
   try clear hfz37_0
   try clear hfz37_1
   try clear hfz44_0
   try clear hfz44_1
   try clear hfz47_0
   try clear hfz47_1
   try clear hfz52_0
   try clear hfz52_1
   try clear hfz55_0
   try clear hfz55_1
   try clear hfz7_0
   try clear hfz7_1
   obtain ⟨kq,x48_12,rfl,HA,HJ12,HO_261001,HO_266001,HO_272001,BK249,BK260,BK265,BK271,HB⟩:=hcut
   cases kq with
   | zero=>exact absurd HA.out (by simp [laws_FnExactDropPair.j0])
   | succ kj12 =>
    have H:=HA.out
    clear HA
    simp only [laws_FnExactDropPair.j0] at H
    by_cases c57:x48_12=true
    ·subst c57
     have H1:(some false)=some r:=by rw [if_pos rfl] at H;exact H
     clear H
     have H:=H1
     clear H1
     obtain rfl:=Option.some.inj H
     go_wp2
     go_ret
     exact ⟨by first | rfl | (simp [errW_none,errW_some] <;> rfl) | (simp [*,errW_none,errW_some] <;> rfl),by repeat first | exact HB.out | apply zz2 | apply zz0 | apply zz1 | refine zz3 ?_ GE249.out | refine zz3 ?_ GE260.out | refine zz3 ?_ GE265.out | refine zz3 ?_ GE271.out⟩
    ·replace c57:=Bool.eq_false_iff.mpr c57
     subst c57
     have H1:((laws_toParty.f kj12 a0_0 l0_1).bind fun bt273=>((laws_eqParty.f kj12 t261 t262 bt273.1 bt273.2).bind fun t277=>(if t277=true then ((laws_markParty.f kj12 t261 t262 1).bind fun bt278=>(if bt278.1 < 0 then (laws_FnExactDropPair.j1 kj12 a1 a2 t259 true a0_0 l0_1 t255 t256 t266 t267) else ((laws_eqParty.f kj12 t266 t267 t255 t256).bind fun t280=>(if t280=true then (laws_FnExactDropPair.j1 kj12 a1 a2 t259 (t270 != t259) a0_0 l0_1 t255 t256 t266 t267) else (laws_FnExactDropPair.j1 kj12 a1 a2 t259 true a0_0 l0_1 t255 t256 t266 t267))))) else (some false))))=some r:=by rw [if_neg (show ¬ (false=true) by decide)] at H;exact H
     clear H
     have H:=H1
     clear H1
     replace H:=zz30.mp H
     obtain ⟨⟨t273,t274⟩,A580,H⟩:=H
     replace H:((laws_eqParty.f kj12 t261 t262 t273 t274).bind fun t277=>(if t277=true then ((laws_markParty.f kj12 t261 t262 1).bind fun bt278=>(if bt278.1 < 0 then (laws_FnExactDropPair.j1 kj12 a1 a2 t259 true a0_0 l0_1 t255 t256 t266 t267) else ((laws_eqParty.f kj12 t266 t267 t255 t256).bind fun t280=>(if t280=true then (laws_FnExactDropPair.j1 kj12 a1 a2 t259 (t270 != t259) a0_0 l0_1 t255 t256 t266 t267) else (laws_FnExactDropPair.j1 kj12 a1 a2 t259 true a0_0 l0_1 t255 t256 t266 t267))))) else (some false)))=some r:=H
     have A58:=zz31 A580
     clear A580
     replace H:=zz30.mp H
     obtain ⟨t277,A590,H⟩:=H
     replace H:(if t277=true then ((laws_markParty.f kj12 t261 t262 1).bind fun bt278=>(if bt278.1 < 0 then (laws_FnExactDropPair.j1 kj12 a1 a2 t259 true a0_0 l0_1 t255 t256 t266 t267) else ((laws_eqParty.f kj12 t266 t267 t255 t256).bind fun t280=>(if t280=true then (laws_FnExactDropPair.j1 kj12 a1 a2 t259 (t270 != t259) a0_0 l0_1 t255 t256 t266 t267) else (laws_FnExactDropPair.j1 kj12 a1 a2 t259 true a0_0 l0_1 t255 t256 t266 t267))))) else (some false))=some r:=H
     have A59:=zz31 A590
     clear A590
     by_cases c60:t277=true
     ·subst c60
      have H1:((laws_markParty.f kj12 t261 t262 1).bind fun bt278=>(if bt278.1 < 0 then (laws_FnExactDropPair.j1 kj12 a1 a2 t259 true a0_0 l0_1 t255 t256 t266 t267) else ((laws_eqParty.f kj12 t266 t267 t255 t256).bind fun t280=>(if t280=true then (laws_FnExactDropPair.j1 kj12 a1 a2 t259 (t270 != t259) a0_0 l0_1 t255 t256 t266 t267) else (laws_FnExactDropPair.j1 kj12 a1 a2 t259 true a0_0 l0_1 t255 t256 t266 t267)))))=some r:=by rw [if_pos rfl] at H;exact H
      clear H
      have H:=H1
      clear H1
      replace H:=zz30.mp H
      obtain ⟨⟨t278,t279⟩,A610,H⟩:=H
      replace H:(if t278 < 0 then (laws_FnExactDropPair.j1 kj12 a1 a2 t259 true a0_0 l0_1 t255 t256 t266 t267) else ((laws_eqParty.f kj12 t266 t267 t255 t256).bind fun t280=>(if t280=true then (laws_FnExactDropPair.j1 kj12 a1 a2 t259 (t270 != t259) a0_0 l0_1 t255 t256 t266 t267) else (laws_FnExactDropPair.j1 kj12 a1 a2 t259 true a0_0 l0_1 t255 t256 t266 t267))))=some r:=H
      have A61:=zz31 A610
      clear A610
      have HC62:=zz31 H
      clear H
      try go_wp2
      have n0_:=zz31 (zz14 HO_261001.out)
      have n1_:=zz31 (zz14 HO_266001.out)
      have n2_:=zz31 (zz14 HO_272001.out)
      have n3_:=zz31 (zz7 BK249.out)
      have n4_:=zz31 (zz7 BK260.out)
      have n5_:=zz31 (zz7 BK265.out)
      have n6_:=zz31 (zz7 BK271.out)
      have n7_:=zz31 (zz1 HB.out)
      clear HO_261001
      clear HO_266001
      clear HO_272001
      clear BK249
      clear BK260
      clear BK265
      clear BK271
      clear HB
      have HO_261001:=n0_
      have HO_266001:=n1_
      have HO_272001:=n2_
      have BK249:=n3_
      have BK260:=n4_
      have BK265:=n5_
      have BK271:=n6_
      have HB:=n7_
      clear n0_ n1_ n2_ n3_ n4_ n5_ n6_ n7_
      refine start_ (n:=5) (S:=fun w'=>w'.cell? ⟨gb265,0,none⟩=some (.int .i64 t261)∧w'.cell? ⟨gb265,1,none⟩=some (.slice Ao31 t262.length co31)∧w'.cell? ⟨gb249,0,none⟩=some (.int .i64 a0_0)∧w'.cell? ⟨gb249,1,none⟩=some (.slice A0_1 l0_1.length c0_1)) (ds:=[]) #[F,F,F,F,F] (by kernel_rfl) rfl rfl ⟨(zz9 BK265.out 0).trans rfl,(zz9 BK265.out 1).trans rfl,(zz9 BK249.out 0).trans rfl,(zz9 BK249.out 1).trans rfl⟩ (fun hHeld=>?_)
      generalize wc.drew=w63 at HO_261001 HO_266001 HO_272001 BK249 BK260 BK265 BK271 HB hHeld ⊢
      refine take_ (i:=0) (N:=some 49) (v:=?_) (a':=?_) #[T,F,F,F,F] rfl rfl (by kernel_rfl) (fun _ _ _ h=>h) (Or.inl ⟨by rfl,?_⟩) hHeld ?_ ?_
      rotate_left
      ·rintro w' ⟨s0,s1,s2,s3⟩
       go_simp
       with_reducible rfl
      rotate_left
      ·simp only [Act.put,zz21,zz22,zz23,i64_w,i32_w]
       rfl
      refine take_ (i:=1) (N:=some 50) (v:=?_) (a':=?_) #[T,T,F,F,F] rfl rfl (by kernel_rfl) (fun _ _ _ h=>h) (Or.inl ⟨by rfl,?_⟩) hHeld ?_ ?_
      rotate_left
      ·rintro w' ⟨s0,s1,s2,s3⟩
       go_simp
       with_reducible rfl
      rotate_left
      ·simp only [Act.put,zz21,zz22,zz23,i64_w,i32_w]
       rfl
      refine one_ (i:=2) (N:=some 51) #[T,T,T,F,F] rfl rfl (by kernel_rfl) (by decide) (fun K hK=>?_)
      refine goes_ Try.func14 (by kernel_rfl) rfl #[.agg #[.int .i64 a0_0,.slice A0_1 l0_1.length c0_1]] (by rfl) rfl rfl (by (try simp only [zz26,zz27,zz28]);first | done | rfl | (simp only [zz24,zz25];rfl)) ?_
      with_reducible refine (laws_toParty.calls kj12 a0_0 _ _ l0_1 t273 t274 _ ?side1 ?side2 A58.out).mono ?_
      (case side1=>repeat (first | exact (Kd.C_below HR0_1.out HB.out) | (with_reducible refine zz18 ?_ _) | (with_reducible refine zz19 ?_ _) | (with_reducible refine zz20 ?_)))
      (case side2=>exact HC0_1.out)
      rintro e w64 ⟨v275,rfl,ho0,hb⟩
      refine ⟨_,rfl,?_⟩
      have n0_:=zz31 (Kd.R_elder' (by (with_reducible repeat (first | apply zz12 | apply zz13 | apply zz14));exact HO_261001.out) (Kd.R_base ho0) hb)
      have n1_:=zz31 (Kd.R_elder' (by (with_reducible repeat (first | apply zz12 | apply zz13 | apply zz14));exact HO_266001.out) (Kd.R_base ho0) hb)
      have n2_:=zz31 (Kd.R_elder' (by (with_reducible repeat (first | apply zz12 | apply zz13 | apply zz14));exact HO_272001.out) (Kd.R_base ho0) hb)
      have n3_:=zz31 (Kd.R_lower (Kd.R_new' (Kd.R_new' (Kd.R_new' ho0 (Kd.R_lt (by (with_reducible repeat (first | apply zz12 | apply zz13 | apply zz14));exact HO_261001.out))) (Kd.R_lt (by (with_reducible repeat (first | apply zz12 | apply zz13 | apply zz14));exact HO_266001.out))) (Kd.R_lt (by (with_reducible repeat (first | apply zz12 | apply zz13 | apply zz14));exact HO_272001.out))) (zz5 (by repeat first | exact HB.out | apply zz2 | apply zz0 | apply zz1 | refine zz3 ?_ GE249.out | refine zz3 ?_ GE260.out | refine zz3 ?_ GE265.out | refine zz3 ?_ GE271.out)))
      have n4_:=zz31 (zz11 (g:=gb249) (o:=.cells #[.int .i64 a0_0,.slice A0_1 l0_1.length c0_1] 24 (0,0)) (by (with_reducible repeat (first | refine zz6 ?_ _ | refine zz7 ?_ | refine zz8 ?_ _));exact BK249.out) hb)
      have n5_:=zz31 (zz11 (g:=gb260) (o:=.cells #[.int .i64 t255,.slice Ao24 t256.length co24] 30 (0,0)) (by (with_reducible repeat (first | refine zz6 ?_ _ | refine zz7 ?_ | refine zz8 ?_ _));exact BK260.out) hb)
      have n6_:=zz31 (zz11 (g:=gb265) (o:=.cells #[.int .i64 t261,.slice Ao31 t262.length co31] 30 (0,0)) (by (with_reducible repeat (first | refine zz6 ?_ _ | refine zz7 ?_ | refine zz8 ?_ _));exact BK265.out) hb)
      have n7_:=zz31 (zz11 (g:=gb271) (o:=.cells #[.int .i64 t266,.slice Ao38 t267.length co38] 30 (0,0)) (by (with_reducible repeat (first | refine zz6 ?_ _ | refine zz7 ?_ | refine zz8 ?_ _));exact BK271.out) hb)
      have n8_:=zz31 (zz4 (by repeat first | exact HB.out | apply zz2 | apply zz0 | apply zz1 | refine zz3 ?_ GE249.out | refine zz3 ?_ GE260.out | refine zz3 ?_ GE265.out | refine zz3 ?_ GE271.out) hb)
      clear HO_261001
      clear HO_266001
      clear HO_272001
      clear BK249
      clear BK260
      clear BK265
      clear BK271
      clear HB
      have HO_261001:=n0_
      have HO_266001:=n1_
      have HO_272001:=n2_
      have HO276:=n3_
      have BK249:=n4_
      have BK260:=n5_
      have BK265:=n6_
      have BK271:=n7_
      have HB:=n8_
      clear n0_ n1_ n2_ n3_ n4_ n5_ n6_ n7_ n8_
      (try clear hb)
      (try clear hb2)
      (try clear hk)
      (try clear hi)
      (try clear ho0)
      obtain ⟨Ao65,co65,eo65⟩:=Kd.R_slice HO276.out
      (first | subst eo65 | (injection eo65 with f1_ f2_ f3_;have f4_:=f1_.symm;have f5_:=f3_.symm;clear f1_ f2_ f3_;subst f4_;subst f5_))
      refine hK.out _ _ ⟨(zz9 BK265.out 0).trans rfl,(zz9 BK265.out 1).trans rfl,(zz9 BK249.out 0).trans rfl,(zz9 BK249.out 1).trans rfl⟩ (fun hHeld=>?_)
      clear hK K
      refine norm_ (a':=?_) ?_ ?_
      rotate_left
      ·show Act.put _ (some 51) _=_
       simp only [Act.put,zz21,zz22,zz23,i64_w,i32_w]
       rfl
      refine one_ (i:=3) (N:=some 52) #[T,T,T,T,F] rfl rfl (by kernel_rfl) (by decide) (fun K hK=>?_)
      refine goes_ Try.func16 (by kernel_rfl) rfl #[.agg #[.int .i64 t261,.slice Ao31 t262.length co31],.agg #[.int .i64 t273,.slice Ao65 t274.length co65]] (by rfl) rfl rfl (by (try simp only [zz26,zz27,zz28]);first | done | rfl | (simp only [zz24,zz25];rfl)) ?_
      with_reducible refine (laws_eqParty.calls kj12 t261 _ _ t262 t273 _ _ t274 true _ ?side1 ?side2 ?side3 ?side4 A59.out).mono ?_
      (case side1=>repeat (first | exact (Kd.R_reads' HO_266001.out).2.2 | (with_reducible refine zz18 ?_ _) | (with_reducible refine zz19 ?_ _) | (with_reducible refine zz20 ?_)))
      (case side2=>exact (Kd.R_reads' HO_266001.out).2.1)
      (case side3=>repeat (first | exact (Kd.R_reads' HO276.out).2.2 | (with_reducible refine zz18 ?_ _) | (with_reducible refine zz19 ?_ _) | (with_reducible refine zz20 ?_)))
      (case side4=>exact (Kd.R_reads' HO276.out).2.1)
      rintro e w66 ⟨rfl,hb⟩
      refine ⟨_,rfl,?_⟩
      have n0_:=zz31 (Kd.R_below (by (with_reducible repeat (first | apply zz12 | apply zz13 | apply zz14));exact HO_261001.out) hb)
      have n1_:=zz31 (Kd.R_below (by (with_reducible repeat (first | apply zz12 | apply zz13 | apply zz14));exact HO_266001.out) hb)
      have n2_:=zz31 (Kd.R_below (by (with_reducible repeat (first | apply zz12 | apply zz13 | apply zz14));exact HO_272001.out) hb)
      have n3_:=zz31 (Kd.R_below (by (with_reducible repeat (first | apply zz12 | apply zz13 | apply zz14));exact HO276.out) hb)
      have n4_:=zz31 (zz11 (g:=gb249) (o:=.cells #[.int .i64 a0_0,.slice A0_1 l0_1.length c0_1] 24 (0,0)) (by (with_reducible repeat (first | refine zz6 ?_ _ | refine zz7 ?_ | refine zz8 ?_ _));exact BK249.out) hb)
      have n5_:=zz31 (zz11 (g:=gb260) (o:=.cells #[.int .i64 t255,.slice Ao24 t256.length co24] 30 (0,0)) (by (with_reducible repeat (first | refine zz6 ?_ _ | refine zz7 ?_ | refine zz8 ?_ _));exact BK260.out) hb)
      have n6_:=zz31 (zz11 (g:=gb265) (o:=.cells #[.int .i64 t261,.slice Ao31 t262.length co31] 30 (0,0)) (by (with_reducible repeat (first | refine zz6 ?_ _ | refine zz7 ?_ | refine zz8 ?_ _));exact BK265.out) hb)
      have n7_:=zz31 (zz11 (g:=gb271) (o:=.cells #[.int .i64 t266,.slice Ao38 t267.length co38] 30 (0,0)) (by (with_reducible repeat (first | refine zz6 ?_ _ | refine zz7 ?_ | refine zz8 ?_ _));exact BK271.out) hb)
      have n8_:=zz31 (zz4 (by repeat first | exact HB.out | apply zz2 | apply zz0 | apply zz1 | refine zz3 ?_ GE249.out | refine zz3 ?_ GE260.out | refine zz3 ?_ GE265.out | refine zz3 ?_ GE271.out) hb)
      clear HO_261001
      clear HO_266001
      clear HO_272001
      clear HO276
      clear BK249
      clear BK260
      clear BK265
      clear BK271
      clear HB
      have HO_261001:=n0_
      have HO_266001:=n1_
      have HO_272001:=n2_
      have HO276:=n3_
      have BK249:=n4_
      have BK260:=n5_
      have BK265:=n6_
      have BK271:=n7_
      have HB:=n8_
      clear n0_ n1_ n2_ n3_ n4_ n5_ n6_ n7_ n8_
      (try clear hb)
      (try clear hb2)
      (try clear hk)
      (try clear hi)
      refine hK.out _ _ ⟨(zz9 BK265.out 0).trans rfl,(zz9 BK265.out 1).trans rfl,(zz9 BK249.out 0).trans rfl,(zz9 BK249.out 1).trans rfl⟩ (fun hHeld=>?_)
      clear hK K
      refine norm_ (a':=?_) ?_ ?_
      rotate_left
      ·show Act.put _ (some 52) _=_
       simp only [Act.put,zz21,zz22,zz23,i64_w,i32_w]
       rfl
      refine pure_ (i:=4) (N:=some 53) (v:=?_) (a':=?_) #[T,T,T,T,T] rfl rfl (by kernel_rfl) (fun _ _ _ h=>h) (Or.inl ⟨by rfl,?_⟩) ?_ ?_
      rotate_left
      ·intro w'
       go_simp
       with_reducible rfl
      rotate_left
      ·simp only [Act.put,zz21,zz22,zz23,i64_w,i32_w]
       rfl
      refine done_ (by kernel_rfl) ?_
      have hnb67:=NB265_249.out
      have hnc67:=NB249_265.out
      have hnb68:=NB265_260.out
      have hnc68:=NB260_265.out
      have hnb69:=NB265_271.out
      have hnc69:=NB271_265.out
      have hcz70_0:w66.cell? ⟨gb265,0,none⟩=some (.int .i64 t261):=(zz9 BK265.out 0).trans rfl
      have hcz70_1:w66.cell? ⟨gb265,1,none⟩=some (.slice Ao31 t262.length co31):=(zz9 BK265.out 1).trans rfl
      have hfz70_0:=zz10 BK265.out 0
      have hfz70_1:=zz10 BK265.out 1
      go_upto_region 14 with (first | ((with_reducible refine gate_callee (f:=20) rfl ?_);refine goesL_ (some 56) rfl rfl Try.func20 (by kernel_rfl) rfl #[.agg #[.int .i64 t261,.slice Ao31 t262.length co31],.int .i64 1] rfl (by (try simp only [zz26,zz27,zz28]);first | done | rfl | (simp only [zz24,zz25];rfl)) ?_;(with_reducible refine (laws_markParty.calls kj12 t261 (fun k_=>some k_=(.slice Ao31 t262.length co31:Value).ownBlock) (.slice Ao31 t262.length co31) t262 1 t278 t279 w _ ?side1 ?side2 A61.out).mono ?_);(case side1=>repeat first | exact HB.out | apply zz2 | apply zz0 | apply zz1 | refine zz3 ?_ GE249.out | refine zz3 ?_ GE260.out | refine zz3 ?_ GE265.out | refine zz3 ?_ GE271.out);(case side2=>exact Kd.R_tight rfl HO_266001.out);rintro e w71 ⟨rfl,hy0,hb,hkp⟩;refine ⟨_,rfl,?_⟩;have n0_:=zz31 (Kd.R_mono (ok':=fun k_=>some k_ ≠ (.slice Ao31 t262.length co31:Value).ownBlock∧some k_ ≠ (.slice Ao38 t267.length co38:Value).ownBlock∧some k_ ≠ (.slice Ao65 t274.length co65:Value).ownBlock) (Kd.R_keptB (HO_261001.out) hkp (fun k_ hk_ hs_=>(hk_.1.1) hs_)) (fun k_ hk_=>⟨hk_.1.1.1,hk_.1.1.2,hk_.1.2⟩));have n1_:=zz31 (Kd.R_reok rfl hy0 (fun k_ e_=>HO_266001.out.1 k_ e_));have n2_:=zz31 (Kd.R_mono (ok':=fun k_=>some k_ ≠ (.slice Ao24 t256.length co24:Value).ownBlock∧some k_ ≠ (.slice Ao31 t262.length co31:Value).ownBlock∧some k_ ≠ (.slice Ao65 t274.length co65:Value).ownBlock) (Kd.R_keptB (HO_272001.out) hkp (fun k_ hk_ hs_=>(hk_.1.2) hs_)) (fun k_ hk_=>⟨hk_.1.1.1,hk_.1.1.2,hk_.1.2⟩));(first | have n3_:=zz31 (blk_kept BK249.out hkp (fun hs_=>(fun e_=>(Kd.R_ne HO_266001.out BK249.out (by decide)) e_) hs_)) | have n3_:=zz31 (blk_kept (by (with_reducible repeat (first | refine zz6 ?_ _ | refine zz7 ?_ | refine zz8 ?_ _));exact BK249.out) hkp (fun hs_=>(fun e_=>(Kd.R_ne HO_266001.out BK249.out (by decide)) e_) hs_)));(first | have n4_:=zz31 (blk_kept BK260.out hkp (fun hs_=>(fun e_=>(Kd.R_ne HO_266001.out BK260.out (by decide)) e_) hs_)) | have n4_:=zz31 (blk_kept (by (with_reducible repeat (first | refine zz6 ?_ _ | refine zz7 ?_ | refine zz8 ?_ _));exact BK260.out) hkp (fun hs_=>(fun e_=>(Kd.R_ne HO_266001.out BK260.out (by decide)) e_) hs_)));(first | have n5_:=zz31 (blk_kept BK265.out hkp (fun hs_=>(fun e_=>(Kd.R_ne HO_266001.out BK265.out (by decide)) e_) hs_)) | have n5_:=zz31 (blk_kept (by (with_reducible repeat (first | refine zz6 ?_ _ | refine zz7 ?_ | refine zz8 ?_ _));exact BK265.out) hkp (fun hs_=>(fun e_=>(Kd.R_ne HO_266001.out BK265.out (by decide)) e_) hs_)));(first | have n6_:=zz31 (blk_kept BK271.out hkp (fun hs_=>(fun e_=>(Kd.R_ne HO_266001.out BK271.out (by decide)) e_) hs_)) | have n6_:=zz31 (blk_kept (by (with_reducible repeat (first | refine zz6 ?_ _ | refine zz7 ?_ | refine zz8 ?_ _));exact BK271.out) hkp (fun hs_=>(fun e_=>(Kd.R_ne HO_266001.out BK271.out (by decide)) e_) hs_)));have n7_:=zz31 (Kd.R_mono (ok':=fun k_=>some k_ ≠ (.slice Ao24 t256.length co24:Value).ownBlock∧some k_ ≠ (.slice Ao31 t262.length co31:Value).ownBlock∧some k_ ≠ (.slice Ao38 t267.length co38:Value).ownBlock) (Kd.R_keptB (HO276.out) hkp (fun k_ hk_ hs_=>(hk_.1.2) hs_)) (fun k_ hk_=>⟨hk_.1.1.1.2,hk_.1.1.2,hk_.1.2⟩));have n8_:=zz31 (hb);clear HO_261001;clear HO_266001;clear HO_272001;clear BK249;clear BK260;clear BK265;clear BK271;clear HO276;clear HB;have HO_261001:=n0_;have HO_266001:=n1_;have HO_272001:=n2_;have BK249:=n3_;have BK260:=n4_;have BK265:=n5_;have BK271:=n6_;have HO276:=n7_;have HB:=n8_;clear n0_ n1_ n2_ n3_ n4_ n5_ n6_ n7_ n8_;(try clear hb);(try clear hkp);(try clear hy0)))
      (try simp only [Act.put,zz21,zz22,zz23])
      go_cut [69] (fun v69 wc=>∃ (kq:Nat) (x69_61:Bool),v69=.bool x69_61∧Aside0 (laws_FnExactDropPair.j1 kq a1 a2 t259 x69_61 a0_0 l0_1 t255 t256 t266 t267=some r)∧Aside0 (kq≤kj12)∧Aside0 (Kd.R k80 80 wc w.heap.size (fun k_=>some k_ ≠ ((.slice Ao31 t262.length co31):Value).ownBlock∧some k_ ≠ ((.slice Ao38 t267.length co38):Value).ownBlock) (.slice Ao24 t256.length co24) t256)∧Aside0 (Kd.R k80 80 wc w.heap.size (fun k_=>some k_ ≠ ((.slice Ao24 t256.length co24):Value).ownBlock∧some k_ ≠ ((.slice Ao38 t267.length co38):Value).ownBlock) (.slice Ao31 t262.length co31) t279)∧Aside0 (Kd.R k80 80 wc w.heap.size (fun k_=>some k_ ≠ ((.slice Ao24 t256.length co24):Value).ownBlock∧some k_ ≠ ((.slice Ao31 t262.length co31):Value).ownBlock) (.slice Ao38 t267.length co38) t267)∧Aside0 (wc.heap[gb249]?=some (.cells #[.int .i64 a0_0,(.slice A0_1 l0_1.length c0_1)] 24 (0,0)))∧Aside0 (wc.heap[gb260]?=some (.cells #[.int .i64 t255,(.slice Ao24 t256.length co24)] 30 (0,0)))∧Aside0 (wc.heap[gb265]?=some (.cells #[.int .i64 t261,(.slice Ao31 t262.length co31)] 30 (0,0)))∧Aside0 (wc.heap[gb271]?=some (.cells #[.int .i64 t266,(.slice Ao38 t267.length co38)] 30 (0,0)))∧Aside0 (Below w.heap.size w wc))
      case first =>
       have H:=HC62.out
       clear HC62
       by_cases c72:t278 < 0
       ·rw [if_pos c72] at H
        have c72b0:decide (t278 < 0)=true:=decide_eq_true c72
        clear c72
        (first | rw [c72b0] | (simp only [i64_w,i32_w];rw [c72b0]) | skip)
        have H':=zz31 H
        clear H
        go_wp2
        go_meet
        case rel=>exact ⟨_,(true),(by first | rfl | (simp;done) | (simp [*];done)),H',⟨by have:=HJ12.out;first | omega | exact Nat.le_refl _⟩,⟨by (with_reducible repeat (first | apply zz12 | apply zz13 | apply zz14));exact Kd.R_mono HO_261001.out (fun _ hk=>⟨hk.1,hk.2.1⟩)⟩,⟨by (with_reducible repeat (first | apply zz12 | apply zz13 | apply zz14));exact Kd.R_mono HO_266001.out (fun _ hk=>⟨hk.1.1,hk.1.2⟩)⟩,⟨by (with_reducible repeat (first | apply zz12 | apply zz13 | apply zz14));exact Kd.R_mono HO_272001.out (fun _ hk=>⟨hk.1,hk.2.1⟩)⟩,⟨by (with_reducible repeat (first | refine zz6 ?_ _ | refine zz7 ?_ | refine zz8 ?_ _));exact BK249.out⟩,⟨by (with_reducible repeat (first | refine zz6 ?_ _ | refine zz7 ?_ | refine zz8 ?_ _));exact BK260.out⟩,⟨by (with_reducible repeat (first | refine zz6 ?_ _ | refine zz7 ?_ | refine zz8 ?_ _));exact BK265.out⟩,⟨by (with_reducible repeat (first | refine zz6 ?_ _ | refine zz7 ?_ | refine zz8 ?_ _));exact BK271.out⟩,⟨by repeat first | exact HB.out | apply zz2 | apply zz0 | apply zz1 | refine zz3 ?_ GE249.out | refine zz3 ?_ GE260.out | refine zz3 ?_ GE265.out | refine zz3 ?_ GE271.out⟩⟩
       ·rw [if_neg c72] at H
        have c72b0:decide (t278 < 0)=false:=decide_eq_false c72
        clear c72
        (first | rw [c72b0] | (simp only [i64_w,i32_w];rw [c72b0]) | skip)
        replace H:=zz30.mp H
        obtain ⟨t280,A730,H⟩:=H
        replace H:(if t280=true then (laws_FnExactDropPair.j1 kj12 a1 a2 t259 (t270 != t259) a0_0 l0_1 t255 t256 t266 t267) else (laws_FnExactDropPair.j1 kj12 a1 a2 t259 true a0_0 l0_1 t255 t256 t266 t267))=some r:=H
        have A73:=zz31 A730
        clear A730
        by_cases c74:t280=true
        ·subst c74
         have H1:(laws_FnExactDropPair.j1 kj12 a1 a2 t259 (t270 != t259) a0_0 l0_1 t255 t256 t266 t267)=some r:=by rw [if_pos rfl] at H;exact H
         clear H
         have H:=H1
         clear H1
         have H':=zz31 H
         clear H
         have hnb75:=NB271_249.out
         have hnc75:=NB249_271.out
         have hnb76:=NB271_260.out
         have hnc76:=NB260_271.out
         have hnb77:=NB271_265.out
         have hnc77:=NB265_271.out
         have hcz78_0:w71.cell? ⟨gb271,0,none⟩=some (.int .i64 t266):=(zz9 BK271.out 0).trans rfl
         have hcz78_1:w71.cell? ⟨gb271,1,none⟩=some (.slice Ao38 t267.length co38):=(zz9 BK271.out 1).trans rfl
         have hfz78_0:=zz10 BK271.out 0
         have hfz78_1:=zz10 BK271.out 1
         have hnb79:=NB260_249.out
         have hnc79:=NB249_260.out
         have hnb80:=NB260_265.out
         have hnc80:=NB265_260.out
         have hcz81_0:w71.cell? ⟨gb260,0,none⟩=some (.int .i64 t255):=(zz9 BK260.out 0).trans rfl
         have hcz81_1:w71.cell? ⟨gb260,1,none⟩=some (.slice Ao24 t256.length co24):=(zz9 BK260.out 1).trans rfl
         have hfz81_0:=zz10 BK260.out 0
         have hfz81_1:=zz10 BK260.out 1
         go_wp2_with (first | (go_at_call 16;(with_reducible refine (laws_eqParty.calls kj12 t266 _ _ t267 t255 _ _ t256 true _ ?side1 ?side2 ?side3 ?side4 A73.out).mono ?_);(case side1=>repeat (first | exact (Kd.R_reads' HO_272001.out).2.2 | (with_reducible refine zz18 ?_ _) | (with_reducible refine zz19 ?_ _) | (with_reducible refine zz20 ?_)));(case side2=>exact (Kd.R_reads' HO_272001.out).2.1);(case side3=>repeat (first | exact (Kd.R_reads' HO_261001.out).2.2 | (with_reducible refine zz18 ?_ _) | (with_reducible refine zz19 ?_ _) | (with_reducible refine zz20 ?_)));(case side4=>exact (Kd.R_reads' HO_261001.out).2.1);rintro e w82 ⟨rfl,hb⟩;have n0_:=zz31 (Kd.R_below (by (with_reducible repeat (first | apply zz12 | apply zz13 | apply zz14));exact HO_261001.out) hb);have n1_:=zz31 (Kd.R_below (by (with_reducible repeat (first | apply zz12 | apply zz13 | apply zz14));exact HO_266001.out) hb);have n2_:=zz31 (Kd.R_below (by (with_reducible repeat (first | apply zz12 | apply zz13 | apply zz14));exact HO_272001.out) hb);have n3_:=zz31 (Kd.R_below (by (with_reducible repeat (first | apply zz12 | apply zz13 | apply zz14));exact HO276.out) hb);have n4_:=zz31 (zz11 (g:=gb249) (o:=.cells #[.int .i64 a0_0,.slice A0_1 l0_1.length c0_1] 24 (0,0)) (by (with_reducible repeat (first | refine zz6 ?_ _ | refine zz7 ?_ | refine zz8 ?_ _));exact BK249.out) hb);have n5_:=zz31 (zz11 (g:=gb260) (o:=.cells #[.int .i64 t255,.slice Ao24 t256.length co24] 30 (0,0)) (by (with_reducible repeat (first | refine zz6 ?_ _ | refine zz7 ?_ | refine zz8 ?_ _));exact BK260.out) hb);have n6_:=zz31 (zz11 (g:=gb265) (o:=.cells #[.int .i64 t261,.slice Ao31 t262.length co31] 30 (0,0)) (by (with_reducible repeat (first | refine zz6 ?_ _ | refine zz7 ?_ | refine zz8 ?_ _));exact BK265.out) hb);have n7_:=zz31 (zz11 (g:=gb271) (o:=.cells #[.int .i64 t266,.slice Ao38 t267.length co38] 30 (0,0)) (by (with_reducible repeat (first | refine zz6 ?_ _ | refine zz7 ?_ | refine zz8 ?_ _));exact BK271.out) hb);have n8_:=zz31 (zz4 (by repeat first | exact HB.out | apply zz2 | apply zz0 | apply zz1 | refine zz3 ?_ GE249.out | refine zz3 ?_ GE260.out | refine zz3 ?_ GE265.out | refine zz3 ?_ GE271.out) hb);clear HO_261001;clear HO_266001;clear HO_272001;clear HO276;clear BK249;clear BK260;clear BK265;clear BK271;clear HB;have HO_261001:=n0_;have HO_266001:=n1_;have HO_272001:=n2_;have HO276:=n3_;have BK249:=n4_;have BK260:=n5_;have BK265:=n6_;have BK271:=n7_;have HB:=n8_;clear n0_ n1_ n2_ n3_ n4_ n5_ n6_ n7_ n8_;(try clear hb);(try clear hb2);(try clear hk);(try clear hi)))
         go_meet
         case rel=>exact ⟨_,((t270 != t259)),(by first | rfl | (simp;done) | (simp [*];done)),H',⟨by have:=HJ12.out;first | omega | exact Nat.le_refl _⟩,⟨by (with_reducible repeat (first | apply zz12 | apply zz13 | apply zz14));exact Kd.R_mono HO_261001.out (fun _ hk=>⟨hk.1,hk.2.1⟩)⟩,⟨by (with_reducible repeat (first | apply zz12 | apply zz13 | apply zz14));exact Kd.R_mono HO_266001.out (fun _ hk=>⟨hk.1.1,hk.1.2⟩)⟩,⟨by (with_reducible repeat (first | apply zz12 | apply zz13 | apply zz14));exact Kd.R_mono HO_272001.out (fun _ hk=>⟨hk.1,hk.2.1⟩)⟩,⟨by (with_reducible repeat (first | refine zz6 ?_ _ | refine zz7 ?_ | refine zz8 ?_ _));exact BK249.out⟩,⟨by (with_reducible repeat (first | refine zz6 ?_ _ | refine zz7 ?_ | refine zz8 ?_ _));exact BK260.out⟩,⟨by (with_reducible repeat (first | refine zz6 ?_ _ | refine zz7 ?_ | refine zz8 ?_ _));exact BK265.out⟩,⟨by (with_reducible repeat (first | refine zz6 ?_ _ | refine zz7 ?_ | refine zz8 ?_ _));exact BK271.out⟩,⟨by repeat first | exact HB.out | apply zz2 | apply zz0 | apply zz1 | refine zz3 ?_ GE249.out | refine zz3 ?_ GE260.out | refine zz3 ?_ GE265.out | refine zz3 ?_ GE271.out⟩⟩
        ·replace c74:=Bool.eq_false_iff.mpr c74
         subst c74
         have H1:(laws_FnExactDropPair.j1 kj12 a1 a2 t259 true a0_0 l0_1 t255 t256 t266 t267)=some r:=by rw [if_neg (show ¬ (false=true) by decide)] at H;exact H
         clear H
         have H:=H1
         clear H1
         have H':=zz31 H
         clear H
         have hnb83:=NB271_249.out
         have hnc83:=NB249_271.out
         have hnb84:=NB271_260.out
         have hnc84:=NB260_271.out
         have hnb85:=NB271_265.out
         have hnc85:=NB265_271.out
         have hcz86_0:w71.cell? ⟨gb271,0,none⟩=some (.int .i64 t266):=(zz9 BK271.out 0).trans rfl
         have hcz86_1:w71.cell? ⟨gb271,1,none⟩=some (.slice Ao38 t267.length co38):=(zz9 BK271.out 1).trans rfl
         have hfz86_0:=zz10 BK271.out 0
         have hfz86_1:=zz10 BK271.out 1
         have hnb87:=NB260_249.out
         have hnc87:=NB249_260.out
         have hnb88:=NB260_265.out
         have hnc88:=NB265_260.out
         have hcz89_0:w71.cell? ⟨gb260,0,none⟩=some (.int .i64 t255):=(zz9 BK260.out 0).trans rfl
         have hcz89_1:w71.cell? ⟨gb260,1,none⟩=some (.slice Ao24 t256.length co24):=(zz9 BK260.out 1).trans rfl
         have hfz89_0:=zz10 BK260.out 0
         have hfz89_1:=zz10 BK260.out 1
         go_wp2_with (first | (go_at_call 16;(with_reducible refine (laws_eqParty.calls kj12 t266 _ _ t267 t255 _ _ t256 false _ ?side1 ?side2 ?side3 ?side4 A73.out).mono ?_);(case side1=>repeat (first | exact (Kd.R_reads' HO_272001.out).2.2 | (with_reducible refine zz18 ?_ _) | (with_reducible refine zz19 ?_ _) | (with_reducible refine zz20 ?_)));(case side2=>exact (Kd.R_reads' HO_272001.out).2.1);(case side3=>repeat (first | exact (Kd.R_reads' HO_261001.out).2.2 | (with_reducible refine zz18 ?_ _) | (with_reducible refine zz19 ?_ _) | (with_reducible refine zz20 ?_)));(case side4=>exact (Kd.R_reads' HO_261001.out).2.1);rintro e w90 ⟨rfl,hb⟩;have n0_:=zz31 (Kd.R_below (by (with_reducible repeat (first | apply zz12 | apply zz13 | apply zz14));exact HO_261001.out) hb);have n1_:=zz31 (Kd.R_below (by (with_reducible repeat (first | apply zz12 | apply zz13 | apply zz14));exact HO_266001.out) hb);have n2_:=zz31 (Kd.R_below (by (with_reducible repeat (first | apply zz12 | apply zz13 | apply zz14));exact HO_272001.out) hb);have n3_:=zz31 (Kd.R_below (by (with_reducible repeat (first | apply zz12 | apply zz13 | apply zz14));exact HO276.out) hb);have n4_:=zz31 (zz11 (g:=gb249) (o:=.cells #[.int .i64 a0_0,.slice A0_1 l0_1.length c0_1] 24 (0,0)) (by (with_reducible repeat (first | refine zz6 ?_ _ | refine zz7 ?_ | refine zz8 ?_ _));exact BK249.out) hb);have n5_:=zz31 (zz11 (g:=gb260) (o:=.cells #[.int .i64 t255,.slice Ao24 t256.length co24] 30 (0,0)) (by (with_reducible repeat (first | refine zz6 ?_ _ | refine zz7 ?_ | refine zz8 ?_ _));exact BK260.out) hb);have n6_:=zz31 (zz11 (g:=gb265) (o:=.cells #[.int .i64 t261,.slice Ao31 t262.length co31] 30 (0,0)) (by (with_reducible repeat (first | refine zz6 ?_ _ | refine zz7 ?_ | refine zz8 ?_ _));exact BK265.out) hb);have n7_:=zz31 (zz11 (g:=gb271) (o:=.cells #[.int .i64 t266,.slice Ao38 t267.length co38] 30 (0,0)) (by (with_reducible repeat (first | refine zz6 ?_ _ | refine zz7 ?_ | refine zz8 ?_ _));exact BK271.out) hb);have n8_:=zz31 (zz4 (by repeat first | exact HB.out | apply zz2 | apply zz0 | apply zz1 | refine zz3 ?_ GE249.out | refine zz3 ?_ GE260.out | refine zz3 ?_ GE265.out | refine zz3 ?_ GE271.out) hb);clear HO_261001;clear HO_266001;clear HO_272001;clear HO276;clear BK249;clear BK260;clear BK265;clear BK271;clear HB;have HO_261001:=n0_;have HO_266001:=n1_;have HO_272001:=n2_;have HO276:=n3_;have BK249:=n4_;have BK260:=n5_;have BK265:=n6_;have BK271:=n7_;have HB:=n8_;clear n0_ n1_ n2_ n3_ n4_ n5_ n6_ n7_ n8_;(try clear hb);(try clear hb2);(try clear hk);(try clear hi)))
         go_meet
         case rel=>exact ⟨_,(true),(by first | rfl | (simp;done) | (simp [*];done)),H',⟨by have:=HJ12.out;first | omega | exact Nat.le_refl _⟩,⟨by (with_reducible repeat (first | apply zz12 | apply zz13 | apply zz14));exact Kd.R_mono HO_261001.out (fun _ hk=>⟨hk.1,hk.2.1⟩)⟩,⟨by (with_reducible repeat (first | apply zz12 | apply zz13 | apply zz14));exact Kd.R_mono HO_266001.out (fun _ hk=>⟨hk.1.1,hk.1.2⟩)⟩,⟨by (with_reducible repeat (first | apply zz12 | apply zz13 | apply zz14));exact Kd.R_mono HO_272001.out (fun _ hk=>⟨hk.1,hk.2.1⟩)⟩,⟨by (with_reducible repeat (first | refine zz6 ?_ _ | refine zz7 ?_ | refine zz8 ?_ _));exact BK249.out⟩,⟨by (with_reducible repeat (first | refine zz6 ?_ _ | refine zz7 ?_ | refine zz8 ?_ _));exact BK260.out⟩,⟨by (with_reducible repeat (first | refine zz6 ?_ _ | refine zz7 ?_ | refine zz8 ?_ _));exact BK265.out⟩,⟨by (with_reducible repeat (first | refine zz6 ?_ _ | refine zz7 ?_ | refine zz8 ?_ _));exact BK271.out⟩,⟨by repeat first | exact HB.out | apply zz2 | apply zz0 | apply zz1 | refine zz3 ?_ GE249.out | refine zz3 ?_ GE260.out | refine zz3 ?_ GE265.out | refine zz3 ?_ GE271.out⟩⟩
      case rest =>
       clear HC62
       try clear c1
       try clear c2
       try clear p2
       try clear c3
       try clear c4
       try clear c5
       try clear c5b0
       try clear c6
       try clear c7
       try clear c8
       try clear c9
       try clear c12
       try clear c14
       try clear c16
       try clear c20
       try clear c22
       try clear c28
       try clear c29
       try clear c34
       try clear c35
       try clear c36
       try clear c40
       try clear c41
       try clear c42
       try clear c43
       try clear c45
       try clear c46
       try clear c49
       try clear c50
       try clear c51
       try clear c53
       try clear c54
       try clear c57
       try clear c60
       try clear c67
       try clear c68
       try clear c69
       try clear c72
       try clear c72b0
       try clear c74
       try clear c75
       try clear c76
       try clear c77
       try clear c79
       try clear c80
       try clear c83
       try clear c84
       try clear c85
       try clear c87
       try clear c88
       try clear hcz15_0
       try clear hcz15_1
       try clear hcz17_0
       try clear hcz17_1
       try clear hcz23_0
       try clear hcz23_1
       try clear hcz25_0
       try clear hcz25_1
       try clear hcz30_0
       try clear hcz30_1
       try clear hcz37_0
       try clear hcz37_1
       try clear hcz44_0
       try clear hcz44_1
       try clear hcz47_0
       try clear hcz47_1
       try clear hcz52_0
       try clear hcz52_1
       try clear hcz55_0
       try clear hcz55_1
       try clear hcz70_0
       try clear hcz70_1
       try clear hcz78_0
       try clear hcz78_1
       try clear hcz7_0
       try clear hcz7_1
       try clear hcz81_0
       try clear hcz81_1
       try clear hcz86_0
       try clear hcz86_1
       try clear hcz89_0
       try clear hcz89_1
       try clear hfz15_0
       try clear hfz15_1
       try clear hfz17_0
       try clear hfz17_1
       try clear hfz23_0
       try clear hfz23_1
       try clear hfz25_0
       try clear hfz25_1
       try clear hfz30_0
       try clear hfz30_1
       try clear hfz37_0
       try clear hfz37_1
       try clear hfz44_0
       try clear hfz44_1
       try clear hfz47_0
       try clear hfz47_1
       try clear hfz52_0
       try clear hfz52_1
       try clear hfz55_0
       try clear hfz55_1
       try clear hfz70_0
       try clear hfz70_1
       try clear hfz78_0
       try clear hfz78_1
       try clear hfz7_0
       try clear hfz7_1
       try clear hfz81_0
       try clear hfz81_1
       try clear hfz86_0
       try clear hfz86_1
       try clear hfz89_0
       try clear hfz89_1
       try clear p2
       obtain ⟨kq,x69_61,rfl,HA,HJ61,HO_261001,HO_266001,HO_272001,BK249,BK260,BK265,BK271,HB⟩:=hcut
       have hl266001_61:=(Kd.R_reads' HO_266001.out).1
       rw [hl266001_61] at HO_266001
       (try simp only [hl266001_61])
       (try simp only [hl266001_61] at BK249)
       (try simp only [hl266001_61] at BK260)
       (try simp only [hl266001_61] at BK265)
       (try simp only [hl266001_61] at BK271)
       (try simp only [hl266001_61] at HO_261001)
       (try simp only [hl266001_61] at HO_272001)
       cases kq with
       | zero=>exact absurd HA.out (by simp [laws_FnExactDropPair.j1])
       | succ kj61 =>
        have H:=HA.out
        clear HA
        simp only [laws_FnExactDropPair.j1] at H
        by_cases c91:x69_61=true
        ·subst c91
         have H1:(some false)=some r:=by rw [if_pos rfl] at H;exact H
         clear H
         have H:=H1
         clear H1
         obtain rfl:=Option.some.inj H
         go_wp2
         go_ret
         exact ⟨by first | rfl | (simp [errW_none,errW_some] <;> rfl) | (simp [*,errW_none,errW_some] <;> rfl),by repeat first | exact HB.out | apply zz2 | apply zz0 | apply zz1 | refine zz3 ?_ GE249.out | refine zz3 ?_ GE260.out | refine zz3 ?_ GE265.out | refine zz3 ?_ GE271.out⟩
        ·replace c91:=Bool.eq_false_iff.mpr c91
         subst c91
         have H1:((laws_markParty.f kj61 t266 t267 1).bind fun bt281=>((laws_heldParty.f kj61 t266 bt281.2 1).bind fun t283=>(if t283 < 0 then (some false) else (if t283=bt281.1 then ((laws_toParty.f kj61 a0_0 l0_1).bind fun bt284=>((impl_DropPair.f kj61 bt284.1 bt284.2 a1 a2).bind fun bt288=>((laws_eqParty.f kj61 bt288.1 bt288.2.1 t255 t256).bind fun t294=>(if t294=true then (laws_FnExactDropPair.j2 kj61 bt281.1 (bt288.2.2 != t259) t266 bt281.2) else (laws_FnExactDropPair.j2 kj61 bt281.1 true t266 bt281.2))))) else (some false)))))=some r:=by rw [if_neg (show ¬ (false=true) by decide)] at H;exact H
         clear H
         have H:=H1
         clear H1
         replace H:=zz30.mp H
         obtain ⟨⟨t281,t282⟩,A920,H⟩:=H
         replace H:((laws_heldParty.f kj61 t266 t282 1).bind fun t283=>(if t283 < 0 then (some false) else (if t283=t281 then ((laws_toParty.f kj61 a0_0 l0_1).bind fun bt284=>((impl_DropPair.f kj61 bt284.1 bt284.2 a1 a2).bind fun bt288=>((laws_eqParty.f kj61 bt288.1 bt288.2.1 t255 t256).bind fun t294=>(if t294=true then (laws_FnExactDropPair.j2 kj61 t281 (bt288.2.2 != t259) t266 t282) else (laws_FnExactDropPair.j2 kj61 t281 true t266 t282))))) else (some false))))=some r:=H
         have A92:=zz31 A920
         clear A920
         replace H:=zz30.mp H
         obtain ⟨t283,A930,H⟩:=H
         replace H:(if t283 < 0 then (some false) else (if t283=t281 then ((laws_toParty.f kj61 a0_0 l0_1).bind fun bt284=>((impl_DropPair.f kj61 bt284.1 bt284.2 a1 a2).bind fun bt288=>((laws_eqParty.f kj61 bt288.1 bt288.2.1 t255 t256).bind fun t294=>(if t294=true then (laws_FnExactDropPair.j2 kj61 t281 (bt288.2.2 != t259) t266 t282) else (laws_FnExactDropPair.j2 kj61 t281 true t266 t282))))) else (some false)))=some r:=H
         have A93:=zz31 A930
         clear A930
         by_cases c94:t283 < 0
         ·rw [if_pos c94] at H
          have c94b0:decide (t283 < 0)=true:=decide_eq_true c94
          clear c94
          obtain rfl:=Option.some.inj H
          have hnb95:=NB271_249.out
          have hnc95:=NB249_271.out
          have hnb96:=NB271_260.out
          have hnc96:=NB260_271.out
          have hnb97:=NB271_265.out
          have hnc97:=NB265_271.out
          have hcz98_0:wc.cell? ⟨gb271,0,none⟩=some (.int .i64 t266):=(zz9 BK271.out 0).trans rfl
          have hcz98_1:wc.cell? ⟨gb271,1,none⟩=some (.slice Ao38 t267.length co38):=(zz9 BK271.out 1).trans rfl
          have hfz98_0:=zz10 BK271.out 0
          have hfz98_1:=zz10 BK271.out 1
          go_wp2_with (first | ((with_reducible refine gate_callee (f:=20) rfl ?_);refine goesL_ (some 72) rfl rfl Try.func20 (by kernel_rfl) rfl #[.agg #[.int .i64 t266,.slice Ao38 t267.length co38],.int .i64 1] rfl (by (try simp only [zz26,zz27,zz28]);first | done | rfl | (simp only [zz24,zz25];rfl)) ?_;(with_reducible refine (laws_markParty.calls kj61 t266 (fun k_=>some k_=(.slice Ao38 t267.length co38:Value).ownBlock) (.slice Ao38 t267.length co38) t267 1 t281 t282 w _ ?side1 ?side2 A92.out).mono ?_);(case side1=>repeat first | exact HB.out | apply zz2 | apply zz0 | apply zz1 | refine zz3 ?_ GE249.out | refine zz3 ?_ GE260.out | refine zz3 ?_ GE265.out | refine zz3 ?_ GE271.out);(case side2=>exact Kd.R_tight rfl HO_272001.out);rintro e w99 ⟨rfl,hy0,hb,hkp⟩;refine ⟨_,rfl,?_⟩;have n0_:=zz31 (Kd.R_mono (ok':=fun k_=>some k_ ≠ (.slice Ao31 t279.length co31:Value).ownBlock∧some k_ ≠ (.slice Ao38 t267.length co38:Value).ownBlock) (Kd.R_keptB (HO_261001.out) hkp (fun k_ hk_ hs_=>(hk_.2) hs_)) (fun k_ hk_=>⟨hk_.1.1,hk_.1.2⟩));have n1_:=zz31 (Kd.R_mono (ok':=fun k_=>some k_ ≠ (.slice Ao24 t256.length co24:Value).ownBlock∧some k_ ≠ (.slice Ao38 t267.length co38:Value).ownBlock) (Kd.R_keptB (HO_266001.out) hkp (fun k_ hk_ hs_=>(hk_.2) hs_)) (fun k_ hk_=>⟨hk_.1.1,hk_.1.2⟩));have n2_:=zz31 (Kd.R_reok rfl hy0 (fun k_ e_=>HO_272001.out.1 k_ e_));(first | have n3_:=zz31 (blk_kept BK249.out hkp (fun hs_=>(fun e_=>(Kd.R_ne HO_272001.out BK249.out (by decide)) e_) hs_)) | have n3_:=zz31 (blk_kept (by (with_reducible repeat (first | refine zz6 ?_ _ | refine zz7 ?_ | refine zz8 ?_ _));exact BK249.out) hkp (fun hs_=>(fun e_=>(Kd.R_ne HO_272001.out BK249.out (by decide)) e_) hs_)));(first | have n4_:=zz31 (blk_kept BK260.out hkp (fun hs_=>(fun e_=>(Kd.R_ne HO_272001.out BK260.out (by decide)) e_) hs_)) | have n4_:=zz31 (blk_kept (by (with_reducible repeat (first | refine zz6 ?_ _ | refine zz7 ?_ | refine zz8 ?_ _));exact BK260.out) hkp (fun hs_=>(fun e_=>(Kd.R_ne HO_272001.out BK260.out (by decide)) e_) hs_)));(first | have n5_:=zz31 (blk_kept BK265.out hkp (fun hs_=>(fun e_=>(Kd.R_ne HO_272001.out BK265.out (by decide)) e_) hs_)) | have n5_:=zz31 (blk_kept (by (with_reducible repeat (first | refine zz6 ?_ _ | refine zz7 ?_ | refine zz8 ?_ _));exact BK265.out) hkp (fun hs_=>(fun e_=>(Kd.R_ne HO_272001.out BK265.out (by decide)) e_) hs_)));(first | have n6_:=zz31 (blk_kept BK271.out hkp (fun hs_=>(fun e_=>(Kd.R_ne HO_272001.out BK271.out (by decide)) e_) hs_)) | have n6_:=zz31 (blk_kept (by (with_reducible repeat (first | refine zz6 ?_ _ | refine zz7 ?_ | refine zz8 ?_ _));exact BK271.out) hkp (fun hs_=>(fun e_=>(Kd.R_ne HO_272001.out BK271.out (by decide)) e_) hs_)));have n7_:=zz31 (hb);clear HO_261001;clear HO_266001;clear HO_272001;clear BK249;clear BK260;clear BK265;clear BK271;clear HB;have HO_261001:=n0_;have HO_266001:=n1_;have HO_272001:=n2_;have BK249:=n3_;have BK260:=n4_;have BK265:=n5_;have BK271:=n6_;have HB:=n7_;clear n0_ n1_ n2_ n3_ n4_ n5_ n6_ n7_;(try clear hb);(try clear hkp);(try clear hy0);have hcz100_0:w99.cell? ⟨gb271,0,none⟩=some (.int .i64 t266):=(zz9 BK271.out 0).trans rfl;have hcz100_1:w99.cell? ⟨gb271,1,none⟩=some (.slice Ao38 t267.length co38):=(zz9 BK271.out 1).trans rfl;have hfz100_0:=zz10 BK271.out 0;have hfz100_1:=zz10 BK271.out 1) | ((with_reducible refine gate_callee (f:=29) rfl ?_);refine goesL_ (some 75) rfl rfl Try.func29 (by kernel_rfl) rfl #[.agg #[.int .i64 t266,.slice Ao38 t282.length co38],.int .i64 1] rfl (by (try simp only [zz26,zz27,zz28]);first | done | (rw [show t282.length=t267.length from (Kd.R_reads' HO_272001.out).1.symm] <;> rfl) | rfl | (simp only [zz24,zz25];rfl)) ?_;(with_reducible refine (laws_heldParty.calls kj61 t266 _ _ t282 1 t283 _ ?side1 ?side2 A93.out).mono ?_);(case side1=>repeat (first | exact (Kd.R_reads' HO_272001.out).2.2 | (with_reducible refine zz18 ?_ _) | (with_reducible refine zz19 ?_ _) | (with_reducible refine zz20 ?_)));(case side2=>rw [show t282.length=t267.length from (Kd.R_reads' HO_272001.out).1.symm];exact (Kd.R_reads' HO_272001.out).2.1);rintro e w101 ⟨rfl,hb⟩;refine ⟨_,rfl,?_⟩;have n0_:=zz31 (Kd.R_below (by (with_reducible repeat (first | apply zz12 | apply zz13 | apply zz14));exact HO_261001.out) hb);have n1_:=zz31 (Kd.R_below (by (with_reducible repeat (first | apply zz12 | apply zz13 | apply zz14));exact HO_266001.out) hb);have n2_:=zz31 (Kd.R_below (by (with_reducible repeat (first | apply zz12 | apply zz13 | apply zz14));exact HO_272001.out) hb);have n3_:=zz31 (zz11 (g:=gb249) (o:=.cells #[.int .i64 a0_0,.slice A0_1 l0_1.length c0_1] 24 (0,0)) (by (with_reducible repeat (first | refine zz6 ?_ _ | refine zz7 ?_ | refine zz8 ?_ _));exact BK249.out) hb);have n4_:=zz31 (zz11 (g:=gb260) (o:=.cells #[.int .i64 t255,.slice Ao24 t256.length co24] 30 (0,0)) (by (with_reducible repeat (first | refine zz6 ?_ _ | refine zz7 ?_ | refine zz8 ?_ _));exact BK260.out) hb);have n5_:=zz31 (zz11 (g:=gb265) (o:=.cells #[.int .i64 t261,.slice Ao31 t279.length co31] 30 (0,0)) (by (with_reducible repeat (first | refine zz6 ?_ _ | refine zz7 ?_ | refine zz8 ?_ _));exact BK265.out) hb);have n6_:=zz31 (zz11 (g:=gb271) (o:=.cells #[.int .i64 t266,.slice Ao38 t267.length co38] 30 (0,0)) (by (with_reducible repeat (first | refine zz6 ?_ _ | refine zz7 ?_ | refine zz8 ?_ _));exact BK271.out) hb);have n7_:=zz31 (zz4 (by repeat first | exact HB.out | apply zz2 | apply zz0 | apply zz1 | refine zz3 ?_ GE249.out | refine zz3 ?_ GE260.out | refine zz3 ?_ GE265.out | refine zz3 ?_ GE271.out) hb);clear HO_261001;clear HO_266001;clear HO_272001;clear BK249;clear BK260;clear BK265;clear BK271;clear HB;have HO_261001:=n0_;have HO_266001:=n1_;have HO_272001:=n2_;have BK249:=n3_;have BK260:=n4_;have BK265:=n5_;have BK271:=n6_;have HB:=n7_;clear n0_ n1_ n2_ n3_ n4_ n5_ n6_ n7_;(try clear hb);(try clear hb2);(try clear hk);(try clear hi)))
          go_ret
          exact ⟨by first | rfl | (simp [errW_none,errW_some] <;> rfl) | (simp [*,errW_none,errW_some] <;> rfl),by repeat first | exact HB.out | apply zz2 | apply zz0 | apply zz1 | refine zz3 ?_ GE249.out | refine zz3 ?_ GE260.out | refine zz3 ?_ GE265.out | refine zz3 ?_ GE271.out⟩
         ·rw [if_neg c94] at H
          have c94b0:decide (t283 < 0)=false:=decide_eq_false c94
          clear c94
          by_cases c102:t283=t281
          ·rw [if_pos c102] at H
           have c102b0:(t283 == t281)=true:=beq_iff_eq.mpr c102
           have c102b1:(t283 != t281)=false:=bne_eq_false_iff_eq.mpr c102
           clear c102
           replace H:=zz30.mp H
           obtain ⟨⟨t284,t285⟩,A1030,H⟩:=H
           replace H:((impl_DropPair.f kj61 t284 t285 a1 a2).bind fun bt288=>((laws_eqParty.f kj61 bt288.1 bt288.2.1 t255 t256).bind fun t294=>(if t294=true then (laws_FnExactDropPair.j2 kj61 t281 (bt288.2.2 != t259) t266 t282) else (laws_FnExactDropPair.j2 kj61 t281 true t266 t282))))=some r:=H
           have A103:=zz31 A1030
           clear A1030
           replace H:=zz30.mp H
           obtain ⟨⟨t288,t289,t292⟩,A1040,H⟩:=H
           replace H:((laws_eqParty.f kj61 t288 t289 t255 t256).bind fun t294=>(if t294=true then (laws_FnExactDropPair.j2 kj61 t281 (t292 != t259) t266 t282) else (laws_FnExactDropPair.j2 kj61 t281 true t266 t282)))=some r:=H
           have A104:=zz31 A1040
           clear A1040
           have HC105:=zz31 H
           clear H
           have hnb106:=NB271_249.out
           have hnc106:=NB249_271.out
           have hnb107:=NB271_260.out
           have hnc107:=NB260_271.out
           have hnb108:=NB271_265.out
           have hnc108:=NB265_271.out
           have hcz109_0:wc.cell? ⟨gb271,0,none⟩=some (.int .i64 t266):=(zz9 BK271.out 0).trans rfl
           have hcz109_1:wc.cell? ⟨gb271,1,none⟩=some (.slice Ao38 t267.length co38):=(zz9 BK271.out 1).trans rfl
           have hfz109_0:=zz10 BK271.out 0
           have hfz109_1:=zz10 BK271.out 1
           go_upto_region 25 with (first | ((with_reducible refine gate_callee (f:=20) rfl ?_);refine goesL_ (some 72) rfl rfl Try.func20 (by kernel_rfl) rfl #[.agg #[.int .i64 t266,.slice Ao38 t267.length co38],.int .i64 1] rfl (by (try simp only [zz26,zz27,zz28]);first | done | rfl | (simp only [zz24,zz25];rfl)) ?_;(with_reducible refine (laws_markParty.calls kj61 t266 (fun k_=>some k_=(.slice Ao38 t267.length co38:Value).ownBlock) (.slice Ao38 t267.length co38) t267 1 t281 t282 w _ ?side1 ?side2 A92.out).mono ?_);(case side1=>repeat first | exact HB.out | apply zz2 | apply zz0 | apply zz1 | refine zz3 ?_ GE249.out | refine zz3 ?_ GE260.out | refine zz3 ?_ GE265.out | refine zz3 ?_ GE271.out);(case side2=>exact Kd.R_tight rfl HO_272001.out);rintro e w110 ⟨rfl,hy0,hb,hkp⟩;refine ⟨_,rfl,?_⟩;have n0_:=zz31 (Kd.R_mono (ok':=fun k_=>some k_ ≠ (.slice Ao31 t279.length co31:Value).ownBlock∧some k_ ≠ (.slice Ao38 t267.length co38:Value).ownBlock) (Kd.R_keptB (HO_261001.out) hkp (fun k_ hk_ hs_=>(hk_.2) hs_)) (fun k_ hk_=>⟨hk_.1.1,hk_.1.2⟩));have n1_:=zz31 (Kd.R_mono (ok':=fun k_=>some k_ ≠ (.slice Ao24 t256.length co24:Value).ownBlock∧some k_ ≠ (.slice Ao38 t267.length co38:Value).ownBlock) (Kd.R_keptB (HO_266001.out) hkp (fun k_ hk_ hs_=>(hk_.2) hs_)) (fun k_ hk_=>⟨hk_.1.1,hk_.1.2⟩));have n2_:=zz31 (Kd.R_reok rfl hy0 (fun k_ e_=>HO_272001.out.1 k_ e_));(first | have n3_:=zz31 (blk_kept BK249.out hkp (fun hs_=>(fun e_=>(Kd.R_ne HO_272001.out BK249.out (by decide)) e_) hs_)) | have n3_:=zz31 (blk_kept (by (with_reducible repeat (first | refine zz6 ?_ _ | refine zz7 ?_ | refine zz8 ?_ _));exact BK249.out) hkp (fun hs_=>(fun e_=>(Kd.R_ne HO_272001.out BK249.out (by decide)) e_) hs_)));(first | have n4_:=zz31 (blk_kept BK260.out hkp (fun hs_=>(fun e_=>(Kd.R_ne HO_272001.out BK260.out (by decide)) e_) hs_)) | have n4_:=zz31 (blk_kept (by (with_reducible repeat (first | refine zz6 ?_ _ | refine zz7 ?_ | refine zz8 ?_ _));exact BK260.out) hkp (fun hs_=>(fun e_=>(Kd.R_ne HO_272001.out BK260.out (by decide)) e_) hs_)));(first | have n5_:=zz31 (blk_kept BK265.out hkp (fun hs_=>(fun e_=>(Kd.R_ne HO_272001.out BK265.out (by decide)) e_) hs_)) | have n5_:=zz31 (blk_kept (by (with_reducible repeat (first | refine zz6 ?_ _ | refine zz7 ?_ | refine zz8 ?_ _));exact BK265.out) hkp (fun hs_=>(fun e_=>(Kd.R_ne HO_272001.out BK265.out (by decide)) e_) hs_)));(first | have n6_:=zz31 (blk_kept BK271.out hkp (fun hs_=>(fun e_=>(Kd.R_ne HO_272001.out BK271.out (by decide)) e_) hs_)) | have n6_:=zz31 (blk_kept (by (with_reducible repeat (first | refine zz6 ?_ _ | refine zz7 ?_ | refine zz8 ?_ _));exact BK271.out) hkp (fun hs_=>(fun e_=>(Kd.R_ne HO_272001.out BK271.out (by decide)) e_) hs_)));have n7_:=zz31 (hb);clear HO_261001;clear HO_266001;clear HO_272001;clear BK249;clear BK260;clear BK265;clear BK271;clear HB;have HO_261001:=n0_;have HO_266001:=n1_;have HO_272001:=n2_;have BK249:=n3_;have BK260:=n4_;have BK265:=n5_;have BK271:=n6_;have HB:=n7_;clear n0_ n1_ n2_ n3_ n4_ n5_ n6_ n7_;(try clear hb);(try clear hkp);(try clear hy0);have hcz111_0:w110.cell? ⟨gb271,0,none⟩=some (.int .i64 t266):=(zz9 BK271.out 0).trans rfl;have hcz111_1:w110.cell? ⟨gb271,1,none⟩=some (.slice Ao38 t267.length co38):=(zz9 BK271.out 1).trans rfl;have hfz111_0:=zz10 BK271.out 0;have hfz111_1:=zz10 BK271.out 1) | ((with_reducible refine gate_callee (f:=29) rfl ?_);refine goesL_ (some 75) rfl rfl Try.func29 (by kernel_rfl) rfl #[.agg #[.int .i64 t266,.slice Ao38 t282.length co38],.int .i64 1] rfl (by (try simp only [zz26,zz27,zz28]);first | done | (rw [show t282.length=t267.length from (Kd.R_reads' HO_272001.out).1.symm] <;> rfl) | rfl | (simp only [zz24,zz25];rfl)) ?_;(with_reducible refine (laws_heldParty.calls kj61 t266 _ _ t282 1 t283 _ ?side1 ?side2 A93.out).mono ?_);(case side1=>repeat (first | exact (Kd.R_reads' HO_272001.out).2.2 | (with_reducible refine zz18 ?_ _) | (with_reducible refine zz19 ?_ _) | (with_reducible refine zz20 ?_)));(case side2=>rw [show t282.length=t267.length from (Kd.R_reads' HO_272001.out).1.symm];exact (Kd.R_reads' HO_272001.out).2.1);rintro e w112 ⟨rfl,hb⟩;refine ⟨_,rfl,?_⟩;have n0_:=zz31 (Kd.R_below (by (with_reducible repeat (first | apply zz12 | apply zz13 | apply zz14));exact HO_261001.out) hb);have n1_:=zz31 (Kd.R_below (by (with_reducible repeat (first | apply zz12 | apply zz13 | apply zz14));exact HO_266001.out) hb);have n2_:=zz31 (Kd.R_below (by (with_reducible repeat (first | apply zz12 | apply zz13 | apply zz14));exact HO_272001.out) hb);have n3_:=zz31 (zz11 (g:=gb249) (o:=.cells #[.int .i64 a0_0,.slice A0_1 l0_1.length c0_1] 24 (0,0)) (by (with_reducible repeat (first | refine zz6 ?_ _ | refine zz7 ?_ | refine zz8 ?_ _));exact BK249.out) hb);have n4_:=zz31 (zz11 (g:=gb260) (o:=.cells #[.int .i64 t255,.slice Ao24 t256.length co24] 30 (0,0)) (by (with_reducible repeat (first | refine zz6 ?_ _ | refine zz7 ?_ | refine zz8 ?_ _));exact BK260.out) hb);have n5_:=zz31 (zz11 (g:=gb265) (o:=.cells #[.int .i64 t261,.slice Ao31 t279.length co31] 30 (0,0)) (by (with_reducible repeat (first | refine zz6 ?_ _ | refine zz7 ?_ | refine zz8 ?_ _));exact BK265.out) hb);have n6_:=zz31 (zz11 (g:=gb271) (o:=.cells #[.int .i64 t266,.slice Ao38 t267.length co38] 30 (0,0)) (by (with_reducible repeat (first | refine zz6 ?_ _ | refine zz7 ?_ | refine zz8 ?_ _));exact BK271.out) hb);have n7_:=zz31 (zz4 (by repeat first | exact HB.out | apply zz2 | apply zz0 | apply zz1 | refine zz3 ?_ GE249.out | refine zz3 ?_ GE260.out | refine zz3 ?_ GE265.out | refine zz3 ?_ GE271.out) hb);clear HO_261001;clear HO_266001;clear HO_272001;clear BK249;clear BK260;clear BK265;clear BK271;clear HB;have HO_261001:=n0_;have HO_266001:=n1_;have HO_272001:=n2_;have BK249:=n3_;have BK260:=n4_;have BK265:=n5_;have BK271:=n6_;have HB:=n7_;clear n0_ n1_ n2_ n3_ n4_ n5_ n6_ n7_;(try clear hb);(try clear hb2);(try clear hk);(try clear hi);have hnb113:=NB249_260.out;have hnc113:=NB260_249.out;have hnb114:=NB249_265.out;have hnc114:=NB265_249.out;have hcz115_0:w112.cell? ⟨gb249,0,none⟩=some (.int .i64 a0_0):=(zz9 BK249.out 0).trans rfl;have hcz115_1:w112.cell? ⟨gb249,1,none⟩=some (.slice A0_1 l0_1.length c0_1):=(zz9 BK249.out 1).trans rfl;have hfz115_0:=zz10 BK249.out 0;have hfz115_1:=zz10 BK249.out 1) | ((with_reducible refine gate_callee (f:=14) rfl ?_);refine goesL_ (some 83) rfl rfl Try.func14 (by kernel_rfl) rfl #[.agg #[.int .i64 a0_0,.slice A0_1 l0_1.length c0_1]] rfl (by (try simp only [zz26,zz27,zz28]);first | done | rfl | (simp only [zz24,zz25];rfl)) ?_;(with_reducible refine (laws_toParty.calls kj61 a0_0 _ _ l0_1 t284 t285 _ ?side1 ?side2 A103.out).mono ?_);(case side1=>repeat (first | exact (Kd.C_below HR0_1.out HB.out) | (with_reducible refine zz18 ?_ _) | (with_reducible refine zz19 ?_ _) | (with_reducible refine zz20 ?_)));(case side2=>exact HC0_1.out);rintro e w116 ⟨v286,rfl,ho0,hb⟩;refine ⟨_,rfl,?_⟩;have n0_:=zz31 (Kd.R_elder' (by (with_reducible repeat (first | apply zz12 | apply zz13 | apply zz14));exact HO_261001.out) (Kd.R_base ho0) hb);have n1_:=zz31 (Kd.R_elder' (by (with_reducible repeat (first | apply zz12 | apply zz13 | apply zz14));exact HO_266001.out) (Kd.R_base ho0) hb);have n2_:=zz31 (Kd.R_elder' (by (with_reducible repeat (first | apply zz12 | apply zz13 | apply zz14));exact HO_272001.out) (Kd.R_base ho0) hb);have n3_:=zz31 (Kd.R_lower (Kd.R_new' (Kd.R_new' (Kd.R_new' ho0 (Kd.R_lt (by (with_reducible repeat (first | apply zz12 | apply zz13 | apply zz14));exact HO_261001.out))) (Kd.R_lt (by (with_reducible repeat (first | apply zz12 | apply zz13 | apply zz14));exact HO_266001.out))) (Kd.R_lt (by (with_reducible repeat (first | apply zz12 | apply zz13 | apply zz14));exact HO_272001.out))) (zz5 (by repeat first | exact HB.out | apply zz2 | apply zz0 | apply zz1 | refine zz3 ?_ GE249.out | refine zz3 ?_ GE260.out | refine zz3 ?_ GE265.out | refine zz3 ?_ GE271.out)));have n4_:=zz31 (zz11 (g:=gb249) (o:=.cells #[.int .i64 a0_0,.slice A0_1 l0_1.length c0_1] 24 (0,0)) (by (with_reducible repeat (first | refine zz6 ?_ _ | refine zz7 ?_ | refine zz8 ?_ _));exact BK249.out) hb);have n5_:=zz31 (zz11 (g:=gb260) (o:=.cells #[.int .i64 t255,.slice Ao24 t256.length co24] 30 (0,0)) (by (with_reducible repeat (first | refine zz6 ?_ _ | refine zz7 ?_ | refine zz8 ?_ _));exact BK260.out) hb);have n6_:=zz31 (zz11 (g:=gb265) (o:=.cells #[.int .i64 t261,.slice Ao31 t279.length co31] 30 (0,0)) (by (with_reducible repeat (first | refine zz6 ?_ _ | refine zz7 ?_ | refine zz8 ?_ _));exact BK265.out) hb);have n7_:=zz31 (zz11 (g:=gb271) (o:=.cells #[.int .i64 t266,.slice Ao38 t267.length co38] 30 (0,0)) (by (with_reducible repeat (first | refine zz6 ?_ _ | refine zz7 ?_ | refine zz8 ?_ _));exact BK271.out) hb);have n8_:=zz31 (zz4 (by repeat first | exact HB.out | apply zz2 | apply zz0 | apply zz1 | refine zz3 ?_ GE249.out | refine zz3 ?_ GE260.out | refine zz3 ?_ GE265.out | refine zz3 ?_ GE271.out) hb);clear HO_261001;clear HO_266001;clear HO_272001;clear BK249;clear BK260;clear BK265;clear BK271;clear HB;have HO_261001:=n0_;have HO_266001:=n1_;have HO_272001:=n2_;have HO287:=n3_;have BK249:=n4_;have BK260:=n5_;have BK265:=n6_;have BK271:=n7_;have HB:=n8_;clear n0_ n1_ n2_ n3_ n4_ n5_ n6_ n7_ n8_;(try clear hb);(try clear hb2);(try clear hk);(try clear hi);(try clear ho0);obtain ⟨Ao117,co117,eo117⟩:=Kd.R_slice HO287.out;subst eo117) | ((with_reducible refine gate_callee (f:=35) rfl ?_);refine goesL_ (some 86) rfl rfl Try.func35 (by kernel_rfl) rfl #[.agg #[.int .i64 t284,.slice Ao117 t285.length co117],.int .i64 a1,.int .i64 a2] rfl (by (try simp only [zz26,zz27,zz28]);first | done | rfl | (simp only [zz24,zz25];rfl)) ?_;(with_reducible refine (impl_DropPair.calls kj61 t284 _ _ t285 a1 a2 t288 t289 t292 _ ?side1 ?side2 A104.out).mono ?_);(case side1=>repeat (first | exact (Kd.R_reads' HO287.out).2.2 | (with_reducible refine zz18 ?_ _) | (with_reducible refine zz19 ?_ _) | (with_reducible refine zz20 ?_)));(case side2=>exact (Kd.R_reads' HO287.out).2.1);rintro e w118 ⟨v290,rfl,ho0,hb⟩;refine ⟨_,rfl,?_⟩;have n0_:=zz31 (Kd.R_elder' (by (with_reducible repeat (first | apply zz12 | apply zz13 | apply zz14));exact HO_261001.out) (Kd.R_base ho0) hb);have n1_:=zz31 (Kd.R_elder' (by (with_reducible repeat (first | apply zz12 | apply zz13 | apply zz14));exact HO_266001.out) (Kd.R_base ho0) hb);have n2_:=zz31 (Kd.R_elder' (by (with_reducible repeat (first | apply zz12 | apply zz13 | apply zz14));exact HO_272001.out) (Kd.R_base ho0) hb);have n3_:=zz31 (Kd.R_elder' (by (with_reducible repeat (first | apply zz12 | apply zz13 | apply zz14));exact HO287.out) (Kd.R_base ho0) hb);have n4_:=zz31 (Kd.R_lower (Kd.R_new' (Kd.R_new' (Kd.R_new' (Kd.R_new' ho0 (Kd.R_lt (by (with_reducible repeat (first | apply zz12 | apply zz13 | apply zz14));exact HO_261001.out))) (Kd.R_lt (by (with_reducible repeat (first | apply zz12 | apply zz13 | apply zz14));exact HO_266001.out))) (Kd.R_lt (by (with_reducible repeat (first | apply zz12 | apply zz13 | apply zz14));exact HO_272001.out))) (Kd.R_lt (by (with_reducible repeat (first | apply zz12 | apply zz13 | apply zz14));exact HO287.out))) (zz5 (by repeat first | exact HB.out | apply zz2 | apply zz0 | apply zz1 | refine zz3 ?_ GE249.out | refine zz3 ?_ GE260.out | refine zz3 ?_ GE265.out | refine zz3 ?_ GE271.out)));have n5_:=zz31 (zz11 (g:=gb249) (o:=.cells #[.int .i64 a0_0,.slice A0_1 l0_1.length c0_1] 24 (0,0)) (by (with_reducible repeat (first | refine zz6 ?_ _ | refine zz7 ?_ | refine zz8 ?_ _));exact BK249.out) hb);have n6_:=zz31 (zz11 (g:=gb260) (o:=.cells #[.int .i64 t255,.slice Ao24 t256.length co24] 30 (0,0)) (by (with_reducible repeat (first | refine zz6 ?_ _ | refine zz7 ?_ | refine zz8 ?_ _));exact BK260.out) hb);have n7_:=zz31 (zz11 (g:=gb265) (o:=.cells #[.int .i64 t261,.slice Ao31 t279.length co31] 30 (0,0)) (by (with_reducible repeat (first | refine zz6 ?_ _ | refine zz7 ?_ | refine zz8 ?_ _));exact BK265.out) hb);have n8_:=zz31 (zz11 (g:=gb271) (o:=.cells #[.int .i64 t266,.slice Ao38 t267.length co38] 30 (0,0)) (by (with_reducible repeat (first | refine zz6 ?_ _ | refine zz7 ?_ | refine zz8 ?_ _));exact BK271.out) hb);have n9_:=zz31 (zz4 (by repeat first | exact HB.out | apply zz2 | apply zz0 | apply zz1 | refine zz3 ?_ GE249.out | refine zz3 ?_ GE260.out | refine zz3 ?_ GE265.out | refine zz3 ?_ GE271.out) hb);clear HO_261001;clear HO_266001;clear HO_272001;clear HO287;clear BK249;clear BK260;clear BK265;clear BK271;clear HB;have HO_261001:=n0_;have HO_266001:=n1_;have HO_272001:=n2_;have HO287:=n3_;have HO291:=n4_;have BK249:=n5_;have BK260:=n6_;have BK265:=n7_;have BK271:=n8_;have HB:=n9_;clear n0_ n1_ n2_ n3_ n4_ n5_ n6_ n7_ n8_ n9_;(try clear hb);(try clear hb2);(try clear hk);(try clear hi);(try clear ho0)) | ((with_reducible refine gate_dst (N:=16) rfl ?_);refine box_event ?hg (N:=16) ?hd (cs:=#[.int .i64 0,.slice none 0 0]) (t:=30) ?hr ?_;(case hd=>rfl);(case hg=>rfl);(case hr=>first | (go_simp;done) | (go_simp;rfl));intro gb293 hg w119 hbox hb;have n0_:=zz31 (Kd.R_below (by (with_reducible repeat (first | apply zz12 | apply zz13 | apply zz14));exact HO_261001.out) hb);have n1_:=zz31 (Kd.R_below (by (with_reducible repeat (first | apply zz12 | apply zz13 | apply zz14));exact HO_266001.out) hb);have n2_:=zz31 (Kd.R_below (by (with_reducible repeat (first | apply zz12 | apply zz13 | apply zz14));exact HO_272001.out) hb);have n3_:=zz31 (Kd.R_below (by (with_reducible repeat (first | apply zz12 | apply zz13 | apply zz14));exact HO287.out) hb);have n4_:=zz31 (Kd.R_below (by (with_reducible repeat (first | apply zz12 | apply zz13 | apply zz14));exact HO291.out) hb);have n5_:=zz31 (zz11 (g:=gb249) (o:=.cells #[.int .i64 a0_0,.slice A0_1 l0_1.length c0_1] 24 (0,0)) (by (with_reducible repeat (first | refine zz6 ?_ _ | refine zz7 ?_ | refine zz8 ?_ _));exact BK249.out) hb);have n6_:=zz31 (zz11 (g:=gb260) (o:=.cells #[.int .i64 t255,.slice Ao24 t256.length co24] 30 (0,0)) (by (with_reducible repeat (first | refine zz6 ?_ _ | refine zz7 ?_ | refine zz8 ?_ _));exact BK260.out) hb);have n7_:=zz31 (zz11 (g:=gb265) (o:=.cells #[.int .i64 t261,.slice Ao31 t279.length co31] 30 (0,0)) (by (with_reducible repeat (first | refine zz6 ?_ _ | refine zz7 ?_ | refine zz8 ?_ _));exact BK265.out) hb);have n8_:=zz31 (zz11 (g:=gb271) (o:=.cells #[.int .i64 t266,.slice Ao38 t267.length co38] 30 (0,0)) (by (with_reducible repeat (first | refine zz6 ?_ _ | refine zz7 ?_ | refine zz8 ?_ _));exact BK271.out) hb);have n9_:=zz31 (zz4 (by repeat first | exact HB.out | apply zz2 | apply zz0 | apply zz1 | refine zz3 ?_ GE249.out | refine zz3 ?_ GE260.out | refine zz3 ?_ GE265.out | refine zz3 ?_ GE271.out) hb);have n10_:=zz31 (hbox);have n11_:=zz31 ((by rw [hg];exact (zz5 (by repeat first | exact HB.out | apply zz2 | apply zz0 | apply zz1 | refine zz3 ?_ GE249.out | refine zz3 ?_ GE260.out | refine zz3 ?_ GE265.out | refine zz3 ?_ GE271.out)):w.heap.size≤gb293));have n12_:=zz31 ((by rw [hg];exact (zz5 (by repeat first | exact HB.out | apply zz2 | apply zz0 | apply zz1 | refine zz3 ?_ GE249.out | refine zz3 ?_ GE260.out | refine zz3 ?_ GE265.out | refine zz3 ?_ GE271.out)):w.heap.size≤gb293));have n13_:=zz31 ((by rw [hg];exact Nat.ne_of_lt (blk_lt (g:=gb249) (o:=.cells #[.int .i64 a0_0,.slice A0_1 l0_1.length c0_1] 24 (0,0)) (by (with_reducible repeat (first | refine zz6 ?_ _ | refine zz7 ?_ | refine zz8 ?_ _));exact BK249.out)):gb249 ≠ gb293));have n14_:=zz31 ((by rw [hg];exact Nat.ne_of_gt (blk_lt (g:=gb249) (o:=.cells #[.int .i64 a0_0,.slice A0_1 l0_1.length c0_1] 24 (0,0)) (by (with_reducible repeat (first | refine zz6 ?_ _ | refine zz7 ?_ | refine zz8 ?_ _));exact BK249.out)):gb293 ≠ gb249));have n15_:=zz31 ((by rw [hg];exact Nat.ne_of_lt (blk_lt (g:=gb260) (o:=.cells #[.int .i64 t255,.slice Ao24 t256.length co24] 30 (0,0)) (by (with_reducible repeat (first | refine zz6 ?_ _ | refine zz7 ?_ | refine zz8 ?_ _));exact BK260.out)):gb260 ≠ gb293));have n16_:=zz31 ((by rw [hg];exact Nat.ne_of_gt (blk_lt (g:=gb260) (o:=.cells #[.int .i64 t255,.slice Ao24 t256.length co24] 30 (0,0)) (by (with_reducible repeat (first | refine zz6 ?_ _ | refine zz7 ?_ | refine zz8 ?_ _));exact BK260.out)):gb293 ≠ gb260));have n17_:=zz31 ((by rw [hg];exact Nat.ne_of_lt (blk_lt (g:=gb265) (o:=.cells #[.int .i64 t261,.slice Ao31 t279.length co31] 30 (0,0)) (by (with_reducible repeat (first | refine zz6 ?_ _ | refine zz7 ?_ | refine zz8 ?_ _));exact BK265.out)):gb265 ≠ gb293));have n18_:=zz31 ((by rw [hg];exact Nat.ne_of_gt (blk_lt (g:=gb265) (o:=.cells #[.int .i64 t261,.slice Ao31 t279.length co31] 30 (0,0)) (by (with_reducible repeat (first | refine zz6 ?_ _ | refine zz7 ?_ | refine zz8 ?_ _));exact BK265.out)):gb293 ≠ gb265));have n19_:=zz31 ((by rw [hg];exact Nat.ne_of_lt (blk_lt (g:=gb271) (o:=.cells #[.int .i64 t266,.slice Ao38 t267.length co38] 30 (0,0)) (by (with_reducible repeat (first | refine zz6 ?_ _ | refine zz7 ?_ | refine zz8 ?_ _));exact BK271.out)):gb271 ≠ gb293));have n20_:=zz31 ((by rw [hg];exact Nat.ne_of_gt (blk_lt (g:=gb271) (o:=.cells #[.int .i64 t266,.slice Ao38 t267.length co38] 30 (0,0)) (by (with_reducible repeat (first | refine zz6 ?_ _ | refine zz7 ?_ | refine zz8 ?_ _));exact BK271.out)):gb293 ≠ gb271));clear HO_261001;clear HO_266001;clear HO_272001;clear HO287;clear HO291;clear BK249;clear BK260;clear BK265;clear BK271;clear HB;have HO_261001:=n0_;have HO_266001:=n1_;have HO_272001:=n2_;have HO287:=n3_;have HO291:=n4_;have BK249:=n5_;have BK260:=n6_;have BK265:=n7_;have BK271:=n8_;have HB:=n9_;have BK293:=n10_;have GW293:=n11_;have GE293:=n12_;have NB249_293:=n13_;have NB293_249:=n14_;have NB260_293:=n15_;have NB293_260:=n16_;have NB265_293:=n17_;have NB293_265:=n18_;have NB271_293:=n19_;have NB293_271:=n20_;clear n0_ n1_ n2_ n3_ n4_ n5_ n6_ n7_ n8_ n9_ n10_ n11_ n12_ n13_ n14_ n15_ n16_ n17_ n18_ n19_ n20_;clear hb hbox hg;have hnb120:=NB293_249.out;have hnc120:=NB249_293.out;have hnb121:=NB293_260.out;have hnc121:=NB260_293.out;have hnb122:=NB293_265.out;have hnc122:=NB265_293.out;have hnb123:=NB293_271.out;have hnc123:=NB271_293.out;have hcz124_0:w119.cell? ⟨gb293,0,none⟩=some (.int .i64 0):=(zz9 BK293.out 0).trans rfl;have hcz124_1:w119.cell? ⟨gb293,1,none⟩=some (.slice none 0 0):=(zz9 BK293.out 1).trans rfl;have hfz124_0:=zz10 BK293.out 0;have hfz124_1:=zz10 BK293.out 1;obtain ⟨Ao125,co125,eo125⟩:=Kd.R_slice HO291.out;subst eo125))
           (try simp only [Act.put,zz21,zz22,zz23])
           go_cut [97] (fun v97 wc=>∃ (kq:Nat) (x97_104:Bool),v97=.bool x97_104∧Aside0 (laws_FnExactDropPair.j2 kq t281 x97_104 t266 t282=some r)∧Aside0 (kq≤kj61)∧Aside0 (Kd.R k80 80 wc w.heap.size (fun k_=>some k_ ≠ ((.slice Ao31 t279.length co31):Value).ownBlock∧some k_ ≠ ((.slice Ao38 t267.length co38):Value).ownBlock∧some k_ ≠ ((.slice Ao125 t289.length co125):Value).ownBlock) (.slice Ao24 t256.length co24) t256)∧Aside0 (Kd.R k80 80 wc w.heap.size (fun k_=>some k_ ≠ ((.slice Ao24 t256.length co24):Value).ownBlock∧some k_ ≠ ((.slice Ao38 t267.length co38):Value).ownBlock∧some k_ ≠ ((.slice Ao125 t289.length co125):Value).ownBlock) (.slice Ao31 t279.length co31) t279)∧Aside0 (Kd.R k80 80 wc w.heap.size (fun k_=>some k_ ≠ ((.slice Ao24 t256.length co24):Value).ownBlock∧some k_ ≠ ((.slice Ao31 t279.length co31):Value).ownBlock∧some k_ ≠ ((.slice Ao125 t289.length co125):Value).ownBlock) (.slice Ao38 t267.length co38) t282)∧Aside0 (Kd.R k80 80 wc w.heap.size (fun k_=>some k_ ≠ ((.slice Ao24 t256.length co24):Value).ownBlock∧some k_ ≠ ((.slice Ao31 t279.length co31):Value).ownBlock∧some k_ ≠ ((.slice Ao38 t267.length co38):Value).ownBlock) (.slice Ao125 t289.length co125) t289)∧Aside0 (wc.heap[gb249]?=some (.cells #[.int .i64 a0_0,(.slice A0_1 l0_1.length c0_1)] 24 (0,0)))∧Aside0 (wc.heap[gb260]?=some (.cells #[.int .i64 t255,(.slice Ao24 t256.length co24)] 30 (0,0)))∧Aside0 (wc.heap[gb265]?=some (.cells #[.int .i64 t261,(.slice Ao31 t279.length co31)] 30 (0,0)))∧Aside0 (wc.heap[gb271]?=some (.cells #[.int .i64 t266,(.slice Ao38 t267.length co38)] 30 (0,0)))∧Aside0 (wc.heap[gb293]?=some (.cells #[.int .i64 t288,(.slice Ao125 t289.length co125)] 30 (0,0)))∧Aside0 (Below w.heap.size w wc))
           case first =>
            have H:=HC105.out
            clear HC105
            replace H:=zz30.mp H
            obtain ⟨t294,A1260,H⟩:=H
            replace H:(if t294=true then (laws_FnExactDropPair.j2 kj61 t281 (t292 != t259) t266 t282) else (laws_FnExactDropPair.j2 kj61 t281 true t266 t282))=some r:=H
            have A126:=zz31 A1260
            clear A1260
            by_cases c127:t294=true
            ·subst c127
             have H1:(laws_FnExactDropPair.j2 kj61 t281 (t292 != t259) t266 t282)=some r:=by rw [if_pos rfl] at H;exact H
             clear H
             have H:=H1
             clear H1
             have H':=zz31 H
             clear H
             have hnb128:=NB293_249.out
             have hnc128:=NB249_293.out
             have hnb129:=NB293_260.out
             have hnc129:=NB260_293.out
             have hnb130:=NB293_265.out
             have hnc130:=NB265_293.out
             have hnb131:=NB293_271.out
             have hnc131:=NB271_293.out
             have hcz132_0:w119.cell? ⟨gb293,0,none⟩=some (.int .i64 0):=(zz9 BK293.out 0).trans rfl
             have hcz132_1:w119.cell? ⟨gb293,1,none⟩=some (.slice none 0 0):=(zz9 BK293.out 1).trans rfl
             have hfz132_0:=zz10 BK293.out 0
             have hfz132_1:=zz10 BK293.out 1
             have hnb133:=NB260_249.out
             have hnc133:=NB249_260.out
             have hnb134:=NB260_265.out
             have hnc134:=NB265_260.out
             have hnb135:=NB260_271.out
             have hnc135:=NB271_260.out
             have hcz136_0:w119.cell? ⟨gb260,0,none⟩=some (.int .i64 t255):=(zz9 BK260.out 0).trans rfl
             have hcz136_1:w119.cell? ⟨gb260,1,none⟩=some (.slice Ao24 t256.length co24):=(zz9 BK260.out 1).trans rfl
             have hfz136_0:=zz10 BK260.out 0
             have hfz136_1:=zz10 BK260.out 1
             go_wp2_with (first | ((with_reducible refine gate_callee (f:=16) rfl ?_);refine goesL_ (some 91) rfl rfl Try.func16 (by kernel_rfl) rfl #[.agg #[.int .i64 t288,.slice Ao125 t289.length co125],.agg #[.int .i64 t255,.slice Ao24 t256.length co24]] rfl (by (try simp only [zz26,zz27,zz28]);first | done | rfl | (simp only [zz24,zz25];rfl)) ?_;(with_reducible refine (laws_eqParty.calls kj61 t288 _ _ t289 t255 _ _ t256 true _ ?side1 ?side2 ?side3 ?side4 A126.out).mono ?_);(case side1=>refine (Kd.R_reads' (e:=80) (base:=w.heap.size) (ok:=fun k_=>((((True∧some k_ ≠ (.slice Ao24 t256.length co24:Value).ownBlock)∧some k_ ≠ (.slice Ao31 t279.length co31:Value).ownBlock)∧some k_ ≠ (.slice Ao38 t267.length co38:Value).ownBlock)∧some k_ ≠ (.slice Ao117 t285.length co117:Value).ownBlock)) (n:=t289.length) (c:=co125) ?_).2.2;exact (by (with_reducible repeat (first | apply zz12 | apply zz13 | apply zz14));exact (Kd.R_mono (Kd.R_far (p:=⟨gb293,1,none⟩) (Kd.R_far (p:=⟨gb293,0,none⟩) (Kd.R_types HO291.out BK293.out (by decide)) (fun _ hk=>hk.2) (.int .i64 t288)) (fun _ hk=>hk.2) (.slice Ao125 t289.length co125)) (fun _ h_=>h_.1))));(case side2=>exact (Kd.R_reads' HO291.out).2.1);(case side3=>refine (Kd.R_reads' (e:=80) (base:=w.heap.size) (ok:=fun k_=>(((some k_ ≠ (.slice Ao31 t279.length co31:Value).ownBlock∧some k_ ≠ (.slice Ao38 t267.length co38:Value).ownBlock)∧some k_ ≠ (.slice Ao117 t285.length co117:Value).ownBlock)∧some k_ ≠ (.slice Ao125 t289.length co125:Value).ownBlock)) (n:=t256.length) (c:=co24) ?_).2.2;exact (by (with_reducible repeat (first | apply zz12 | apply zz13 | apply zz14));exact (Kd.R_mono (Kd.R_far (p:=⟨gb293,1,none⟩) (Kd.R_far (p:=⟨gb293,0,none⟩) (Kd.R_types HO_261001.out BK293.out (by decide)) (fun _ hk=>hk.2) (.int .i64 t288)) (fun _ hk=>hk.2) (.slice Ao125 t289.length co125)) (fun _ h_=>h_.1))));(case side4=>exact (Kd.R_reads' HO_261001.out).2.1);rintro e w137 ⟨rfl,hb⟩;refine ⟨_,rfl,?_⟩;have n0_:=zz31 (Kd.R_below (by (with_reducible repeat (first | apply zz12 | apply zz13 | apply zz14));exact (Kd.R_mono (Kd.R_far (p:=⟨gb293,1,none⟩) (Kd.R_far (p:=⟨gb293,0,none⟩) (Kd.R_types HO_261001.out BK293.out (by decide)) (fun _ hk=>hk.2) (.int .i64 t288)) (fun _ hk=>hk.2) (.slice Ao125 t289.length co125)) (fun _ h_=>h_.1))) hb);have n1_:=zz31 (Kd.R_below (by (with_reducible repeat (first | apply zz12 | apply zz13 | apply zz14));exact (Kd.R_mono (Kd.R_far (p:=⟨gb293,1,none⟩) (Kd.R_far (p:=⟨gb293,0,none⟩) (Kd.R_types HO_266001.out BK293.out (by decide)) (fun _ hk=>hk.2) (.int .i64 t288)) (fun _ hk=>hk.2) (.slice Ao125 t289.length co125)) (fun _ h_=>h_.1))) hb);have n2_:=zz31 (Kd.R_below (by (with_reducible repeat (first | apply zz12 | apply zz13 | apply zz14));exact (Kd.R_mono (Kd.R_far (p:=⟨gb293,1,none⟩) (Kd.R_far (p:=⟨gb293,0,none⟩) (Kd.R_types HO_272001.out BK293.out (by decide)) (fun _ hk=>hk.2) (.int .i64 t288)) (fun _ hk=>hk.2) (.slice Ao125 t289.length co125)) (fun _ h_=>h_.1))) hb);have n3_:=zz31 (Kd.R_below (by (with_reducible repeat (first | apply zz12 | apply zz13 | apply zz14));exact (Kd.R_mono (Kd.R_far (p:=⟨gb293,1,none⟩) (Kd.R_far (p:=⟨gb293,0,none⟩) (Kd.R_types HO287.out BK293.out (by decide)) (fun _ hk=>hk.2) (.int .i64 t288)) (fun _ hk=>hk.2) (.slice Ao125 t289.length co125)) (fun _ h_=>h_.1))) hb);have n4_:=zz31 (Kd.R_below (by (with_reducible repeat (first | apply zz12 | apply zz13 | apply zz14));exact (Kd.R_mono (Kd.R_far (p:=⟨gb293,1,none⟩) (Kd.R_far (p:=⟨gb293,0,none⟩) (Kd.R_types HO291.out BK293.out (by decide)) (fun _ hk=>hk.2) (.int .i64 t288)) (fun _ hk=>hk.2) (.slice Ao125 t289.length co125)) (fun _ h_=>h_.1))) hb);have n5_:=zz31 (zz11 (g:=gb249) (o:=.cells #[.int .i64 a0_0,.slice A0_1 l0_1.length c0_1] 24 (0,0)) (by (with_reducible repeat (first | refine zz6 ?_ _ | refine zz7 ?_ | refine zz8 ?_ _));refine blk_far ?_ NB249_293.out _;(with_reducible repeat (first | refine zz6 ?_ _ | refine zz7 ?_ | refine zz8 ?_ _));refine blk_far ?_ NB249_293.out _;(with_reducible repeat (first | refine zz6 ?_ _ | refine zz7 ?_ | refine zz8 ?_ _));exact BK249.out) hb);have n6_:=zz31 (zz11 (g:=gb260) (o:=.cells #[.int .i64 t255,.slice Ao24 t256.length co24] 30 (0,0)) (by (with_reducible repeat (first | refine zz6 ?_ _ | refine zz7 ?_ | refine zz8 ?_ _));refine blk_far ?_ NB260_293.out _;(with_reducible repeat (first | refine zz6 ?_ _ | refine zz7 ?_ | refine zz8 ?_ _));refine blk_far ?_ NB260_293.out _;(with_reducible repeat (first | refine zz6 ?_ _ | refine zz7 ?_ | refine zz8 ?_ _));exact BK260.out) hb);have n7_:=zz31 (zz11 (g:=gb265) (o:=.cells #[.int .i64 t261,.slice Ao31 t279.length co31] 30 (0,0)) (by (with_reducible repeat (first | refine zz6 ?_ _ | refine zz7 ?_ | refine zz8 ?_ _));refine blk_far ?_ NB265_293.out _;(with_reducible repeat (first | refine zz6 ?_ _ | refine zz7 ?_ | refine zz8 ?_ _));refine blk_far ?_ NB265_293.out _;(with_reducible repeat (first | refine zz6 ?_ _ | refine zz7 ?_ | refine zz8 ?_ _));exact BK265.out) hb);have n8_:=zz31 (zz11 (g:=gb271) (o:=.cells #[.int .i64 t266,.slice Ao38 t267.length co38] 30 (0,0)) (by (with_reducible repeat (first | refine zz6 ?_ _ | refine zz7 ?_ | refine zz8 ?_ _));refine blk_far ?_ NB271_293.out _;(with_reducible repeat (first | refine zz6 ?_ _ | refine zz7 ?_ | refine zz8 ?_ _));refine blk_far ?_ NB271_293.out _;(with_reducible repeat (first | refine zz6 ?_ _ | refine zz7 ?_ | refine zz8 ?_ _));exact BK271.out) hb);have n9_:=zz31 (zz11 (g:=gb293) (o:=.cells #[.int .i64 t288,.slice Ao125 t289.length co125] 30 (0,0)) (by (with_reducible repeat (first | refine zz6 ?_ _ | refine zz7 ?_ | refine zz8 ?_ _));refine blk_put (cs:=#[.int .i64 t288,.slice none 0 0]) ?_ 1 _ rfl;(with_reducible repeat (first | refine zz6 ?_ _ | refine zz7 ?_ | refine zz8 ?_ _));refine blk_put (cs:=#[.int .i64 0,.slice none 0 0]) ?_ 0 _ rfl;(with_reducible repeat (first | refine zz6 ?_ _ | refine zz7 ?_ | refine zz8 ?_ _));exact BK293.out) hb);have n10_:=zz31 (zz4 (by repeat first | exact HB.out | apply zz2 | apply zz0 | apply zz1 | refine zz3 ?_ GE249.out | refine zz3 ?_ GE260.out | refine zz3 ?_ GE265.out | refine zz3 ?_ GE271.out | refine zz3 ?_ GE293.out) hb);clear HO_261001;clear HO_266001;clear HO_272001;clear HO287;clear HO291;clear BK249;clear BK260;clear BK265;clear BK271;clear BK293;clear HB;have HO_261001:=n0_;have HO_266001:=n1_;have HO_272001:=n2_;have HO287:=n3_;have HO291:=n4_;have BK249:=n5_;have BK260:=n6_;have BK265:=n7_;have BK271:=n8_;have BK293:=n9_;have HB:=n10_;clear n0_ n1_ n2_ n3_ n4_ n5_ n6_ n7_ n8_ n9_ n10_;(try clear hb);(try clear hb2);(try clear hk);(try clear hi)))
             go_meet
             case rel=>exact ⟨_,((t292 != t259)),(by first | rfl | (simp;done) | (simp [*];done)),H',⟨by have:=HJ12.out;have:=HJ61.out;first | omega | exact Nat.le_refl _⟩,⟨by (try simp only [hl266001_61]);(with_reducible repeat (first | apply zz12 | apply zz13 | apply zz14));exact Kd.R_mono HO_261001.out (fun _ hk=>⟨hk.1.1.1,⟨hk.1.1.2,hk.2⟩⟩)⟩,⟨by (try simp only [hl266001_61]);(with_reducible repeat (first | apply zz12 | apply zz13 | apply zz14));exact Kd.R_mono HO_266001.out (fun _ hk=>⟨hk.1.1.1,⟨hk.1.1.2,hk.2⟩⟩)⟩,⟨by (try simp only [hl266001_61]);(with_reducible repeat (first | apply zz12 | apply zz13 | apply zz14));exact Kd.R_mono HO_272001.out (fun _ hk=>⟨hk.1.1.1,⟨hk.1.1.2,hk.2⟩⟩)⟩,⟨by (try simp only [hl266001_61]);(with_reducible repeat (first | apply zz12 | apply zz13 | apply zz14));exact Kd.R_mono HO291.out (fun _ hk=>⟨hk.1.1.1.2,⟨hk.1.1.2,hk.1.2⟩⟩)⟩,⟨by (try simp only [hl266001_61]);(with_reducible repeat (first | refine zz6 ?_ _ | refine zz7 ?_ | refine zz8 ?_ _));exact BK249.out⟩,⟨by (try simp only [hl266001_61]);(with_reducible repeat (first | refine zz6 ?_ _ | refine zz7 ?_ | refine zz8 ?_ _));exact BK260.out⟩,⟨by (try simp only [hl266001_61]);(with_reducible repeat (first | refine zz6 ?_ _ | refine zz7 ?_ | refine zz8 ?_ _));exact BK265.out⟩,⟨by (try simp only [hl266001_61]);(with_reducible repeat (first | refine zz6 ?_ _ | refine zz7 ?_ | refine zz8 ?_ _));exact BK271.out⟩,⟨by (try simp only [hl266001_61]);(with_reducible repeat (first | refine zz6 ?_ _ | refine zz7 ?_ | refine zz8 ?_ _));exact BK293.out⟩,⟨by repeat first | exact HB.out | apply zz2 | apply zz0 | apply zz1 | refine zz3 ?_ GE249.out | refine zz3 ?_ GE260.out | refine zz3 ?_ GE265.out | refine zz3 ?_ GE271.out | refine zz3 ?_ GE293.out⟩⟩
            ·replace c127:=Bool.eq_false_iff.mpr c127
             subst c127
             have H1:(laws_FnExactDropPair.j2 kj61 t281 true t266 t282)=some r:=by rw [if_neg (show ¬ (false=true) by decide)] at H;exact H
             clear H
             have H:=H1
             clear H1
             have H':=zz31 H
             clear H
             have hnb138:=NB293_249.out
             have hnc138:=NB249_293.out
             have hnb139:=NB293_260.out
             have hnc139:=NB260_293.out
             have hnb140:=NB293_265.out
             have hnc140:=NB265_293.out
             have hnb141:=NB293_271.out
             have hnc141:=NB271_293.out
             have hcz142_0:w119.cell? ⟨gb293,0,none⟩=some (.int .i64 0):=(zz9 BK293.out 0).trans rfl
             have hcz142_1:w119.cell? ⟨gb293,1,none⟩=some (.slice none 0 0):=(zz9 BK293.out 1).trans rfl
             have hfz142_0:=zz10 BK293.out 0
             have hfz142_1:=zz10 BK293.out 1
             have hnb143:=NB260_249.out
             have hnc143:=NB249_260.out
             have hnb144:=NB260_265.out
             have hnc144:=NB265_260.out
             have hnb145:=NB260_271.out
             have hnc145:=NB271_260.out
             have hcz146_0:w119.cell? ⟨gb260,0,none⟩=some (.int .i64 t255):=(zz9 BK260.out 0).trans rfl
             have hcz146_1:w119.cell? ⟨gb260,1,none⟩=some (.slice Ao24 t256.length co24):=(zz9 BK260.out 1).trans rfl
             have hfz146_0:=zz10 BK260.out 0
             have hfz146_1:=zz10 BK260.out 1
             go_wp2_with (first | ((with_reducible refine gate_callee (f:=16) rfl ?_);refine goesL_ (some 91) rfl rfl Try.func16 (by kernel_rfl) rfl #[.agg #[.int .i64 t288,.slice Ao125 t289.length co125],.agg #[.int .i64 t255,.slice Ao24 t256.length co24]] rfl (by (try simp only [zz26,zz27,zz28]);first | done | rfl | (simp only [zz24,zz25];rfl)) ?_;(with_reducible refine (laws_eqParty.calls kj61 t288 _ _ t289 t255 _ _ t256 false _ ?side1 ?side2 ?side3 ?side4 A126.out).mono ?_);(case side1=>refine (Kd.R_reads' (e:=80) (base:=w.heap.size) (ok:=fun k_=>((((True∧some k_ ≠ (.slice Ao24 t256.length co24:Value).ownBlock)∧some k_ ≠ (.slice Ao31 t279.length co31:Value).ownBlock)∧some k_ ≠ (.slice Ao38 t267.length co38:Value).ownBlock)∧some k_ ≠ (.slice Ao117 t285.length co117:Value).ownBlock)) (n:=t289.length) (c:=co125) ?_).2.2;exact (by (with_reducible repeat (first | apply zz12 | apply zz13 | apply zz14));exact (Kd.R_mono (Kd.R_far (p:=⟨gb293,1,none⟩) (Kd.R_far (p:=⟨gb293,0,none⟩) (Kd.R_types HO291.out BK293.out (by decide)) (fun _ hk=>hk.2) (.int .i64 t288)) (fun _ hk=>hk.2) (.slice Ao125 t289.length co125)) (fun _ h_=>h_.1))));(case side2=>exact (Kd.R_reads' HO291.out).2.1);(case side3=>refine (Kd.R_reads' (e:=80) (base:=w.heap.size) (ok:=fun k_=>(((some k_ ≠ (.slice Ao31 t279.length co31:Value).ownBlock∧some k_ ≠ (.slice Ao38 t267.length co38:Value).ownBlock)∧some k_ ≠ (.slice Ao117 t285.length co117:Value).ownBlock)∧some k_ ≠ (.slice Ao125 t289.length co125:Value).ownBlock)) (n:=t256.length) (c:=co24) ?_).2.2;exact (by (with_reducible repeat (first | apply zz12 | apply zz13 | apply zz14));exact (Kd.R_mono (Kd.R_far (p:=⟨gb293,1,none⟩) (Kd.R_far (p:=⟨gb293,0,none⟩) (Kd.R_types HO_261001.out BK293.out (by decide)) (fun _ hk=>hk.2) (.int .i64 t288)) (fun _ hk=>hk.2) (.slice Ao125 t289.length co125)) (fun _ h_=>h_.1))));(case side4=>exact (Kd.R_reads' HO_261001.out).2.1);rintro e w147 ⟨rfl,hb⟩;refine ⟨_,rfl,?_⟩;have n0_:=zz31 (Kd.R_below (by (with_reducible repeat (first | apply zz12 | apply zz13 | apply zz14));exact (Kd.R_mono (Kd.R_far (p:=⟨gb293,1,none⟩) (Kd.R_far (p:=⟨gb293,0,none⟩) (Kd.R_types HO_261001.out BK293.out (by decide)) (fun _ hk=>hk.2) (.int .i64 t288)) (fun _ hk=>hk.2) (.slice Ao125 t289.length co125)) (fun _ h_=>h_.1))) hb);have n1_:=zz31 (Kd.R_below (by (with_reducible repeat (first | apply zz12 | apply zz13 | apply zz14));exact (Kd.R_mono (Kd.R_far (p:=⟨gb293,1,none⟩) (Kd.R_far (p:=⟨gb293,0,none⟩) (Kd.R_types HO_266001.out BK293.out (by decide)) (fun _ hk=>hk.2) (.int .i64 t288)) (fun _ hk=>hk.2) (.slice Ao125 t289.length co125)) (fun _ h_=>h_.1))) hb);have n2_:=zz31 (Kd.R_below (by (with_reducible repeat (first | apply zz12 | apply zz13 | apply zz14));exact (Kd.R_mono (Kd.R_far (p:=⟨gb293,1,none⟩) (Kd.R_far (p:=⟨gb293,0,none⟩) (Kd.R_types HO_272001.out BK293.out (by decide)) (fun _ hk=>hk.2) (.int .i64 t288)) (fun _ hk=>hk.2) (.slice Ao125 t289.length co125)) (fun _ h_=>h_.1))) hb);have n3_:=zz31 (Kd.R_below (by (with_reducible repeat (first | apply zz12 | apply zz13 | apply zz14));exact (Kd.R_mono (Kd.R_far (p:=⟨gb293,1,none⟩) (Kd.R_far (p:=⟨gb293,0,none⟩) (Kd.R_types HO287.out BK293.out (by decide)) (fun _ hk=>hk.2) (.int .i64 t288)) (fun _ hk=>hk.2) (.slice Ao125 t289.length co125)) (fun _ h_=>h_.1))) hb);have n4_:=zz31 (Kd.R_below (by (with_reducible repeat (first | apply zz12 | apply zz13 | apply zz14));exact (Kd.R_mono (Kd.R_far (p:=⟨gb293,1,none⟩) (Kd.R_far (p:=⟨gb293,0,none⟩) (Kd.R_types HO291.out BK293.out (by decide)) (fun _ hk=>hk.2) (.int .i64 t288)) (fun _ hk=>hk.2) (.slice Ao125 t289.length co125)) (fun _ h_=>h_.1))) hb);have n5_:=zz31 (zz11 (g:=gb249) (o:=.cells #[.int .i64 a0_0,.slice A0_1 l0_1.length c0_1] 24 (0,0)) (by (with_reducible repeat (first | refine zz6 ?_ _ | refine zz7 ?_ | refine zz8 ?_ _));refine blk_far ?_ NB249_293.out _;(with_reducible repeat (first | refine zz6 ?_ _ | refine zz7 ?_ | refine zz8 ?_ _));refine blk_far ?_ NB249_293.out _;(with_reducible repeat (first | refine zz6 ?_ _ | refine zz7 ?_ | refine zz8 ?_ _));exact BK249.out) hb);have n6_:=zz31 (zz11 (g:=gb260) (o:=.cells #[.int .i64 t255,.slice Ao24 t256.length co24] 30 (0,0)) (by (with_reducible repeat (first | refine zz6 ?_ _ | refine zz7 ?_ | refine zz8 ?_ _));refine blk_far ?_ NB260_293.out _;(with_reducible repeat (first | refine zz6 ?_ _ | refine zz7 ?_ | refine zz8 ?_ _));refine blk_far ?_ NB260_293.out _;(with_reducible repeat (first | refine zz6 ?_ _ | refine zz7 ?_ | refine zz8 ?_ _));exact BK260.out) hb);have n7_:=zz31 (zz11 (g:=gb265) (o:=.cells #[.int .i64 t261,.slice Ao31 t279.length co31] 30 (0,0)) (by (with_reducible repeat (first | refine zz6 ?_ _ | refine zz7 ?_ | refine zz8 ?_ _));refine blk_far ?_ NB265_293.out _;(with_reducible repeat (first | refine zz6 ?_ _ | refine zz7 ?_ | refine zz8 ?_ _));refine blk_far ?_ NB265_293.out _;(with_reducible repeat (first | refine zz6 ?_ _ | refine zz7 ?_ | refine zz8 ?_ _));exact BK265.out) hb);have n8_:=zz31 (zz11 (g:=gb271) (o:=.cells #[.int .i64 t266,.slice Ao38 t267.length co38] 30 (0,0)) (by (with_reducible repeat (first | refine zz6 ?_ _ | refine zz7 ?_ | refine zz8 ?_ _));refine blk_far ?_ NB271_293.out _;(with_reducible repeat (first | refine zz6 ?_ _ | refine zz7 ?_ | refine zz8 ?_ _));refine blk_far ?_ NB271_293.out _;(with_reducible repeat (first | refine zz6 ?_ _ | refine zz7 ?_ | refine zz8 ?_ _));exact BK271.out) hb);have n9_:=zz31 (zz11 (g:=gb293) (o:=.cells #[.int .i64 t288,.slice Ao125 t289.length co125] 30 (0,0)) (by (with_reducible repeat (first | refine zz6 ?_ _ | refine zz7 ?_ | refine zz8 ?_ _));refine blk_put (cs:=#[.int .i64 t288,.slice none 0 0]) ?_ 1 _ rfl;(with_reducible repeat (first | refine zz6 ?_ _ | refine zz7 ?_ | refine zz8 ?_ _));refine blk_put (cs:=#[.int .i64 0,.slice none 0 0]) ?_ 0 _ rfl;(with_reducible repeat (first | refine zz6 ?_ _ | refine zz7 ?_ | refine zz8 ?_ _));exact BK293.out) hb);have n10_:=zz31 (zz4 (by repeat first | exact HB.out | apply zz2 | apply zz0 | apply zz1 | refine zz3 ?_ GE249.out | refine zz3 ?_ GE260.out | refine zz3 ?_ GE265.out | refine zz3 ?_ GE271.out | refine zz3 ?_ GE293.out) hb);clear HO_261001;clear HO_266001;clear HO_272001;clear HO287;clear HO291;clear BK249;clear BK260;clear BK265;clear BK271;clear BK293;clear HB;have HO_261001:=n0_;have HO_266001:=n1_;have HO_272001:=n2_;have HO287:=n3_;have HO291:=n4_;have BK249:=n5_;have BK260:=n6_;have BK265:=n7_;have BK271:=n8_;have BK293:=n9_;have HB:=n10_;clear n0_ n1_ n2_ n3_ n4_ n5_ n6_ n7_ n8_ n9_ n10_;(try clear hb);(try clear hb2);(try clear hk);(try clear hi)))
             go_meet
             case rel=>exact ⟨_,(true),(by first | rfl | (simp;done) | (simp [*];done)),H',⟨by have:=HJ12.out;have:=HJ61.out;first | omega | exact Nat.le_refl _⟩,⟨by (try simp only [hl266001_61]);(with_reducible repeat (first | apply zz12 | apply zz13 | apply zz14));exact Kd.R_mono HO_261001.out (fun _ hk=>⟨hk.1.1.1,⟨hk.1.1.2,hk.2⟩⟩)⟩,⟨by (try simp only [hl266001_61]);(with_reducible repeat (first | apply zz12 | apply zz13 | apply zz14));exact Kd.R_mono HO_266001.out (fun _ hk=>⟨hk.1.1.1,⟨hk.1.1.2,hk.2⟩⟩)⟩,⟨by (try simp only [hl266001_61]);(with_reducible repeat (first | apply zz12 | apply zz13 | apply zz14));exact Kd.R_mono HO_272001.out (fun _ hk=>⟨hk.1.1.1,⟨hk.1.1.2,hk.2⟩⟩)⟩,⟨by (try simp only [hl266001_61]);(with_reducible repeat (first | apply zz12 | apply zz13 | apply zz14));exact Kd.R_mono HO291.out (fun _ hk=>⟨hk.1.1.1.2,⟨hk.1.1.2,hk.1.2⟩⟩)⟩,⟨by (try simp only [hl266001_61]);(with_reducible repeat (first | refine zz6 ?_ _ | refine zz7 ?_ | refine zz8 ?_ _));exact BK249.out⟩,⟨by (try simp only [hl266001_61]);(with_reducible repeat (first | refine zz6 ?_ _ | refine zz7 ?_ | refine zz8 ?_ _));exact BK260.out⟩,⟨by (try simp only [hl266001_61]);(with_reducible repeat (first | refine zz6 ?_ _ | refine zz7 ?_ | refine zz8 ?_ _));exact BK265.out⟩,⟨by (try simp only [hl266001_61]);(with_reducible repeat (first | refine zz6 ?_ _ | refine zz7 ?_ | refine zz8 ?_ _));exact BK271.out⟩,⟨by (try simp only [hl266001_61]);(with_reducible repeat (first | refine zz6 ?_ _ | refine zz7 ?_ | refine zz8 ?_ _));exact BK293.out⟩,⟨by repeat first | exact HB.out | apply zz2 | apply zz0 | apply zz1 | refine zz3 ?_ GE249.out | refine zz3 ?_ GE260.out | refine zz3 ?_ GE265.out | refine zz3 ?_ GE271.out | refine zz3 ?_ GE293.out⟩⟩
           case rest =>
            clear HC105
            try clear c1
            try clear c2
            try clear p2
            try clear c3
            try clear c4
            try clear c5
            try clear c5b0
            try clear c6
            try clear c7
            try clear c8
            try clear c9
            try clear c10
            try clear c11
            try clear c12
            try clear c13
            try clear c14
            try clear c16
            try clear c20
            try clear c22
            try clear c28
            try clear c29
            try clear c34
            try clear c35
            try clear c36
            try clear c40
            try clear c41
            try clear c42
            try clear c43
            try clear c45
            try clear c46
            try clear c49
            try clear c50
            try clear c51
            try clear c53
            try clear c54
            try clear c57
            try clear c60
            try clear c67
            try clear c68
            try clear c69
            try clear c72
            try clear c72b0
            try clear c74
            try clear c75
            try clear c76
            try clear c77
            try clear c79
            try clear c80
            try clear c83
            try clear c84
            try clear c85
            try clear c87
            try clear c88
            try clear c91
            try clear c94
            try clear c94b0
            try clear c95
            try clear c96
            try clear c97
            try clear c102
            try clear c102b0
            try clear c102b1
            try clear c106
            try clear c107
            try clear c108
            try clear c113
            try clear c114
            try clear c120
            try clear c121
            try clear c122
            try clear c123
            try clear c127
            try clear c128
            try clear c129
            try clear c130
            try clear c131
            try clear c133
            try clear c134
            try clear c135
            try clear c138
            try clear c139
            try clear c140
            try clear c141
            try clear c143
            try clear c144
            try clear c145
            try clear hcz100_0
            try clear hcz100_1
            try clear hcz109_0
            try clear hcz109_1
            try clear hcz111_0
            try clear hcz111_1
            try clear hcz115_0
            try clear hcz115_1
            try clear hcz124_0
            try clear hcz124_1
            try clear hcz132_0
            try clear hcz132_1
            try clear hcz136_0
            try clear hcz136_1
            try clear hcz142_0
            try clear hcz142_1
            try clear hcz146_0
            try clear hcz146_1
            try clear hcz15_0
            try clear hcz15_1
            try clear hcz17_0
            try clear hcz17_1
            try clear hcz23_0
            try clear hcz23_1
            try clear hcz25_0
            try clear hcz25_1
            try clear hcz30_0
            try clear hcz30_1
            try clear hcz37_0
            try clear hcz37_1
            try clear hcz44_0
            try clear hcz44_1
            try clear hcz47_0
            try clear hcz47_1
            try clear hcz52_0
            try clear hcz52_1
            try clear hcz55_0
            try clear hcz55_1
            try clear hcz70_0
            try clear hcz70_1
            try clear hcz78_0
            try clear hcz78_1
            try clear hcz7_0
            try clear hcz7_1
            try clear hcz81_0
            try clear hcz81_1
            try clear hcz86_0
            try clear hcz86_1
            try clear hcz89_0
            try clear hcz89_1
            try clear hcz98_0
            try clear hcz98_1
            try clear hfz100_0
            try clear hfz100_1
            try clear hfz109_0
            try clear hfz109_1
            try clear hfz111_0
            try clear hfz111_1
            try clear hfz115_0
            try clear hfz115_1
            try clear hfz124_0
            try clear hfz124_1
            try clear hfz132_0
            try clear hfz132_1
            try clear hfz136_0
            try clear hfz136_1
            try clear hfz142_0
            try clear hfz142_1
            try clear hfz146_0
            try clear hfz146_1
            try clear hfz15_0
            try clear hfz15_1
            try clear hfz17_0
            try clear hfz17_1
            try clear hfz23_0
            try clear hfz23_1
            try clear hfz25_0
            try clear hfz25_1
            try clear hfz30_0
            try clear hfz30_1
            try clear hfz37_0
            try clear hfz37_1
            try clear hfz44_0
            try clear hfz44_1
            try clear hfz47_0
            try clear hfz47_1
            try clear hfz52_0
            try clear hfz52_1
            try clear hfz55_0
            try clear hfz55_1
            try clear hfz70_0
            try clear hfz70_1
            try clear hfz78_0
            try clear hfz78_1
            try clear hfz7_0
            try clear hfz7_1
            try clear hfz81_0
            try clear hfz81_1
            try clear hfz86_0
            try clear hfz86_1
            try clear hfz89_0
            try clear hfz89_1
            try clear hfz98_0
            try clear hfz98_1
            try clear p2
            obtain ⟨kq,x97_104,rfl,HA,HJ104,HO_261001,HO_266001,HO_272001,HO_294001,BK249,BK260,BK265,BK271,BK293,HB⟩:=hcut
            have hl272001_104:=(Kd.R_reads' HO_272001.out).1
            rw [hl272001_104] at HO_272001
            (try simp only [hl272001_104])
            (try simp only [hl272001_104] at BK249)
            (try simp only [hl272001_104] at BK260)
            (try simp only [hl272001_104] at BK265)
            (try simp only [hl272001_104] at BK271)
            (try simp only [hl272001_104] at BK293)
            (try simp only [hl272001_104] at HO_261001)
            (try simp only [hl272001_104] at HO_266001)
            (try simp only [hl272001_104] at HO_294001)
            cases kq with
            | zero=>exact absurd HA.out (by simp [laws_FnExactDropPair.j2])
            | succ kj104 =>
             have H:=HA.out
             clear HA
             simp only [laws_FnExactDropPair.j2] at H
             by_cases c148:x97_104=true
             ·subst c148
              have H1:(some false)=some r:=by rw [if_pos rfl] at H;exact H
              clear H
              have H:=H1
              clear H1
              obtain rfl:=Option.some.inj H
              go_wp2
              go_ret
              exact ⟨by first | rfl | (simp [errW_none,errW_some] <;> rfl) | (simp [*,errW_none,errW_some] <;> rfl),by repeat first | exact HB.out | apply zz2 | apply zz0 | apply zz1 | refine zz3 ?_ GE249.out | refine zz3 ?_ GE260.out | refine zz3 ?_ GE265.out | refine zz3 ?_ GE271.out | refine zz3 ?_ GE293.out⟩
             ·replace c148:=Bool.eq_false_iff.mpr c148
              subst c148
              have H1:((laws_heldParty.f kj104 t266 t282 1).bind fun t295=>(if t295 < 0 then (some false) else (if t295=t281 then (some true) else (some false))))=some r:=by rw [if_neg (show ¬ (false=true) by decide)] at H;exact H
              clear H
              have H:=H1
              clear H1
              replace H:=zz30.mp H
              obtain ⟨t295,A1490,H⟩:=H
              replace H:(if t295 < 0 then (some false) else (if t295=t281 then (some true) else (some false)))=some r:=H
              have A149:=zz31 A1490
              clear A1490
              by_cases c150:t295 < 0
              ·rw [if_pos c150] at H
               have c150b0:decide (t295 < 0)=true:=decide_eq_true c150
               clear c150
               obtain rfl:=Option.some.inj H
               have hnb151:=NB271_249.out
               have hnc151:=NB249_271.out
               have hnb152:=NB271_260.out
               have hnc152:=NB260_271.out
               have hnb153:=NB271_265.out
               have hnc153:=NB265_271.out
               have hnb154:=NB271_293.out
               have hnc154:=NB293_271.out
               have hcz155_0:wc.cell? ⟨gb271,0,none⟩=some (.int .i64 t266):=(zz9 BK271.out 0).trans rfl
               have hcz155_1:wc.cell? ⟨gb271,1,none⟩=some (.slice Ao38 t282.length co38):=(zz9 BK271.out 1).trans rfl
               have hfz155_0:=zz10 BK271.out 0
               have hfz155_1:=zz10 BK271.out 1
               go_wp2_with (first | ((with_reducible refine gate_callee (f:=29) rfl ?_);refine goesL_ (some 100) rfl rfl Try.func29 (by kernel_rfl) rfl #[.agg #[.int .i64 t266,.slice Ao38 t282.length co38],.int .i64 1] rfl (by (try simp only [zz26,zz27,zz28]);first | done | rfl | (simp only [zz24,zz25];rfl)) ?_;(with_reducible refine (laws_heldParty.calls kj104 t266 _ _ t282 1 t295 _ ?side1 ?side2 A149.out).mono ?_);(case side1=>repeat (first | exact (Kd.R_reads' HO_272001.out).2.2 | (with_reducible refine zz18 ?_ _) | (with_reducible refine zz19 ?_ _) | (with_reducible refine zz20 ?_)));(case side2=>exact (Kd.R_reads' HO_272001.out).2.1);rintro e w156 ⟨rfl,hb⟩;refine ⟨_,rfl,?_⟩;have n0_:=zz31 (Kd.R_below (by (with_reducible repeat (first | apply zz12 | apply zz13 | apply zz14));exact HO_261001.out) hb);have n1_:=zz31 (Kd.R_below (by (with_reducible repeat (first | apply zz12 | apply zz13 | apply zz14));exact HO_266001.out) hb);have n2_:=zz31 (Kd.R_below (by (with_reducible repeat (first | apply zz12 | apply zz13 | apply zz14));exact HO_272001.out) hb);have n3_:=zz31 (Kd.R_below (by (with_reducible repeat (first | apply zz12 | apply zz13 | apply zz14));exact HO_294001.out) hb);have n4_:=zz31 (zz11 (g:=gb249) (o:=.cells #[.int .i64 a0_0,.slice A0_1 l0_1.length c0_1] 24 (0,0)) (by (with_reducible repeat (first | refine zz6 ?_ _ | refine zz7 ?_ | refine zz8 ?_ _));exact BK249.out) hb);have n5_:=zz31 (zz11 (g:=gb260) (o:=.cells #[.int .i64 t255,.slice Ao24 t256.length co24] 30 (0,0)) (by (with_reducible repeat (first | refine zz6 ?_ _ | refine zz7 ?_ | refine zz8 ?_ _));exact BK260.out) hb);have n6_:=zz31 (zz11 (g:=gb265) (o:=.cells #[.int .i64 t261,.slice Ao31 t279.length co31] 30 (0,0)) (by (with_reducible repeat (first | refine zz6 ?_ _ | refine zz7 ?_ | refine zz8 ?_ _));exact BK265.out) hb);have n7_:=zz31 (zz11 (g:=gb271) (o:=.cells #[.int .i64 t266,.slice Ao38 t282.length co38] 30 (0,0)) (by (with_reducible repeat (first | refine zz6 ?_ _ | refine zz7 ?_ | refine zz8 ?_ _));exact BK271.out) hb);have n8_:=zz31 (zz11 (g:=gb293) (o:=.cells #[.int .i64 t288,.slice Ao125 t289.length co125] 30 (0,0)) (by (with_reducible repeat (first | refine zz6 ?_ _ | refine zz7 ?_ | refine zz8 ?_ _));exact BK293.out) hb);have n9_:=zz31 (zz4 (by repeat first | exact HB.out | apply zz2 | apply zz0 | apply zz1 | refine zz3 ?_ GE249.out | refine zz3 ?_ GE260.out | refine zz3 ?_ GE265.out | refine zz3 ?_ GE271.out | refine zz3 ?_ GE293.out) hb);clear HO_261001;clear HO_266001;clear HO_272001;clear HO_294001;clear BK249;clear BK260;clear BK265;clear BK271;clear BK293;clear HB;have HO_261001:=n0_;have HO_266001:=n1_;have HO_272001:=n2_;have HO_294001:=n3_;have BK249:=n4_;have BK260:=n5_;have BK265:=n6_;have BK271:=n7_;have BK293:=n8_;have HB:=n9_;clear n0_ n1_ n2_ n3_ n4_ n5_ n6_ n7_ n8_ n9_;(try clear hb);(try clear hb2);(try clear hk);(try clear hi)))
               go_ret
               exact ⟨by first | rfl | (simp [errW_none,errW_some] <;> rfl) | (simp [*,errW_none,errW_some] <;> rfl),by repeat first | exact HB.out | apply zz2 | apply zz0 | apply zz1 | refine zz3 ?_ GE249.out | refine zz3 ?_ GE260.out | refine zz3 ?_ GE265.out | refine zz3 ?_ GE271.out | refine zz3 ?_ GE293.out⟩
              ·rw [if_neg c150] at H
               have c150b0:decide (t295 < 0)=false:=decide_eq_false c150
               clear c150
               by_cases c157:t295=t281
               ·rw [if_pos c157] at H
                have c157b0:(t295 == t281)=true:=beq_iff_eq.mpr c157
                have c157b1:(t295 != t281)=false:=bne_eq_false_iff_eq.mpr c157
                clear c157
                obtain rfl:=Option.some.inj H
                have hnb158:=NB271_249.out
                have hnc158:=NB249_271.out
                have hnb159:=NB271_260.out
                have hnc159:=NB260_271.out
                have hnb160:=NB271_265.out
                have hnc160:=NB265_271.out
                have hnb161:=NB271_293.out
                have hnc161:=NB293_271.out
                have hcz162_0:wc.cell? ⟨gb271,0,none⟩=some (.int .i64 t266):=(zz9 BK271.out 0).trans rfl
                have hcz162_1:wc.cell? ⟨gb271,1,none⟩=some (.slice Ao38 t282.length co38):=(zz9 BK271.out 1).trans rfl
                have hfz162_0:=zz10 BK271.out 0
                have hfz162_1:=zz10 BK271.out 1
                go_wp2_with (first | ((with_reducible refine gate_callee (f:=29) rfl ?_);refine goesL_ (some 100) rfl rfl Try.func29 (by kernel_rfl) rfl #[.agg #[.int .i64 t266,.slice Ao38 t282.length co38],.int .i64 1] rfl (by (try simp only [zz26,zz27,zz28]);first | done | rfl | (simp only [zz24,zz25];rfl)) ?_;(with_reducible refine (laws_heldParty.calls kj104 t266 _ _ t282 1 t295 _ ?side1 ?side2 A149.out).mono ?_);(case side1=>repeat (first | exact (Kd.R_reads' HO_272001.out).2.2 | (with_reducible refine zz18 ?_ _) | (with_reducible refine zz19 ?_ _) | (with_reducible refine zz20 ?_)));(case side2=>exact (Kd.R_reads' HO_272001.out).2.1);rintro e w163 ⟨rfl,hb⟩;refine ⟨_,rfl,?_⟩;have n0_:=zz31 (Kd.R_below (by (with_reducible repeat (first | apply zz12 | apply zz13 | apply zz14));exact HO_261001.out) hb);have n1_:=zz31 (Kd.R_below (by (with_reducible repeat (first | apply zz12 | apply zz13 | apply zz14));exact HO_266001.out) hb);have n2_:=zz31 (Kd.R_below (by (with_reducible repeat (first | apply zz12 | apply zz13 | apply zz14));exact HO_272001.out) hb);have n3_:=zz31 (Kd.R_below (by (with_reducible repeat (first | apply zz12 | apply zz13 | apply zz14));exact HO_294001.out) hb);have n4_:=zz31 (zz11 (g:=gb249) (o:=.cells #[.int .i64 a0_0,.slice A0_1 l0_1.length c0_1] 24 (0,0)) (by (with_reducible repeat (first | refine zz6 ?_ _ | refine zz7 ?_ | refine zz8 ?_ _));exact BK249.out) hb);have n5_:=zz31 (zz11 (g:=gb260) (o:=.cells #[.int .i64 t255,.slice Ao24 t256.length co24] 30 (0,0)) (by (with_reducible repeat (first | refine zz6 ?_ _ | refine zz7 ?_ | refine zz8 ?_ _));exact BK260.out) hb);have n6_:=zz31 (zz11 (g:=gb265) (o:=.cells #[.int .i64 t261,.slice Ao31 t279.length co31] 30 (0,0)) (by (with_reducible repeat (first | refine zz6 ?_ _ | refine zz7 ?_ | refine zz8 ?_ _));exact BK265.out) hb);have n7_:=zz31 (zz11 (g:=gb271) (o:=.cells #[.int .i64 t266,.slice Ao38 t282.length co38] 30 (0,0)) (by (with_reducible repeat (first | refine zz6 ?_ _ | refine zz7 ?_ | refine zz8 ?_ _));exact BK271.out) hb);have n8_:=zz31 (zz11 (g:=gb293) (o:=.cells #[.int .i64 t288,.slice Ao125 t289.length co125] 30 (0,0)) (by (with_reducible repeat (first | refine zz6 ?_ _ | refine zz7 ?_ | refine zz8 ?_ _));exact BK293.out) hb);have n9_:=zz31 (zz4 (by repeat first | exact HB.out | apply zz2 | apply zz0 | apply zz1 | refine zz3 ?_ GE249.out | refine zz3 ?_ GE260.out | refine zz3 ?_ GE265.out | refine zz3 ?_ GE271.out | refine zz3 ?_ GE293.out) hb);clear HO_261001;clear HO_266001;clear HO_272001;clear HO_294001;clear BK249;clear BK260;clear BK265;clear BK271;clear BK293;clear HB;have HO_261001:=n0_;have HO_266001:=n1_;have HO_272001:=n2_;have HO_294001:=n3_;have BK249:=n4_;have BK260:=n5_;have BK265:=n6_;have BK271:=n7_;have BK293:=n8_;have HB:=n9_;clear n0_ n1_ n2_ n3_ n4_ n5_ n6_ n7_ n8_ n9_;(try clear hb);(try clear hb2);(try clear hk);(try clear hi)))
                go_ret
                exact ⟨by first | rfl | (simp [errW_none,errW_some] <;> rfl) | (simp [*,errW_none,errW_some] <;> rfl),by repeat first | exact HB.out | apply zz2 | apply zz0 | apply zz1 | refine zz3 ?_ GE249.out | refine zz3 ?_ GE260.out | refine zz3 ?_ GE265.out | refine zz3 ?_ GE271.out | refine zz3 ?_ GE293.out⟩
               ·rw [if_neg c157] at H
                have c157b0:(t295 == t281)=false:=beq_eq_false_iff_ne.mpr c157
                have c157b1:(t295 != t281)=true:=bne_iff_ne.mpr c157
                obtain rfl:=Option.some.inj H
                have hnb164:=NB271_249.out
                have hnc164:=NB249_271.out
                have hnb165:=NB271_260.out
                have hnc165:=NB260_271.out
                have hnb166:=NB271_265.out
                have hnc166:=NB265_271.out
                have hnb167:=NB271_293.out
                have hnc167:=NB293_271.out
                have hcz168_0:wc.cell? ⟨gb271,0,none⟩=some (.int .i64 t266):=(zz9 BK271.out 0).trans rfl
                have hcz168_1:wc.cell? ⟨gb271,1,none⟩=some (.slice Ao38 t282.length co38):=(zz9 BK271.out 1).trans rfl
                have hfz168_0:=zz10 BK271.out 0
                have hfz168_1:=zz10 BK271.out 1
                go_wp2_with (first | ((with_reducible refine gate_callee (f:=29) rfl ?_);refine goesL_ (some 100) rfl rfl Try.func29 (by kernel_rfl) rfl #[.agg #[.int .i64 t266,.slice Ao38 t282.length co38],.int .i64 1] rfl (by (try simp only [zz26,zz27,zz28]);first | done | rfl | (simp only [zz24,zz25];rfl)) ?_;(with_reducible refine (laws_heldParty.calls kj104 t266 _ _ t282 1 t295 _ ?side1 ?side2 A149.out).mono ?_);(case side1=>repeat (first | exact (Kd.R_reads' HO_272001.out).2.2 | (with_reducible refine zz18 ?_ _) | (with_reducible refine zz19 ?_ _) | (with_reducible refine zz20 ?_)));(case side2=>exact (Kd.R_reads' HO_272001.out).2.1);rintro e w169 ⟨rfl,hb⟩;refine ⟨_,rfl,?_⟩;have n0_:=zz31 (Kd.R_below (by (with_reducible repeat (first | apply zz12 | apply zz13 | apply zz14));exact HO_261001.out) hb);have n1_:=zz31 (Kd.R_below (by (with_reducible repeat (first | apply zz12 | apply zz13 | apply zz14));exact HO_266001.out) hb);have n2_:=zz31 (Kd.R_below (by (with_reducible repeat (first | apply zz12 | apply zz13 | apply zz14));exact HO_272001.out) hb);have n3_:=zz31 (Kd.R_below (by (with_reducible repeat (first | apply zz12 | apply zz13 | apply zz14));exact HO_294001.out) hb);have n4_:=zz31 (zz11 (g:=gb249) (o:=.cells #[.int .i64 a0_0,.slice A0_1 l0_1.length c0_1] 24 (0,0)) (by (with_reducible repeat (first | refine zz6 ?_ _ | refine zz7 ?_ | refine zz8 ?_ _));exact BK249.out) hb);have n5_:=zz31 (zz11 (g:=gb260) (o:=.cells #[.int .i64 t255,.slice Ao24 t256.length co24] 30 (0,0)) (by (with_reducible repeat (first | refine zz6 ?_ _ | refine zz7 ?_ | refine zz8 ?_ _));exact BK260.out) hb);have n6_:=zz31 (zz11 (g:=gb265) (o:=.cells #[.int .i64 t261,.slice Ao31 t279.length co31] 30 (0,0)) (by (with_reducible repeat (first | refine zz6 ?_ _ | refine zz7 ?_ | refine zz8 ?_ _));exact BK265.out) hb);have n7_:=zz31 (zz11 (g:=gb271) (o:=.cells #[.int .i64 t266,.slice Ao38 t282.length co38] 30 (0,0)) (by (with_reducible repeat (first | refine zz6 ?_ _ | refine zz7 ?_ | refine zz8 ?_ _));exact BK271.out) hb);have n8_:=zz31 (zz11 (g:=gb293) (o:=.cells #[.int .i64 t288,.slice Ao125 t289.length co125] 30 (0,0)) (by (with_reducible repeat (first | refine zz6 ?_ _ | refine zz7 ?_ | refine zz8 ?_ _));exact BK293.out) hb);have n9_:=zz31 (zz4 (by repeat first | exact HB.out | apply zz2 | apply zz0 | apply zz1 | refine zz3 ?_ GE249.out | refine zz3 ?_ GE260.out | refine zz3 ?_ GE265.out | refine zz3 ?_ GE271.out | refine zz3 ?_ GE293.out) hb);clear HO_261001;clear HO_266001;clear HO_272001;clear HO_294001;clear BK249;clear BK260;clear BK265;clear BK271;clear BK293;clear HB;have HO_261001:=n0_;have HO_266001:=n1_;have HO_272001:=n2_;have HO_294001:=n3_;have BK249:=n4_;have BK260:=n5_;have BK265:=n6_;have BK271:=n7_;have BK293:=n8_;have HB:=n9_;clear n0_ n1_ n2_ n3_ n4_ n5_ n6_ n7_ n8_ n9_;(try clear hb);(try clear hb2);(try clear hk);(try clear hi)))
                go_ret
                exact ⟨by first | rfl | (simp [errW_none,errW_some] <;> rfl) | (simp [*,errW_none,errW_some] <;> rfl),by repeat first | exact HB.out | apply zz2 | apply zz0 | apply zz1 | refine zz3 ?_ GE249.out | refine zz3 ?_ GE260.out | refine zz3 ?_ GE265.out | refine zz3 ?_ GE271.out | refine zz3 ?_ GE293.out⟩
          ·rw [if_neg c102] at H
           have c102b0:(t283 == t281)=false:=beq_eq_false_iff_ne.mpr c102
           have c102b1:(t283 != t281)=true:=bne_iff_ne.mpr c102
           obtain rfl:=Option.some.inj H
           have hnb170:=NB271_249.out
           have hnc170:=NB249_271.out
           have hnb171:=NB271_260.out
           have hnc171:=NB260_271.out
           have hnb172:=NB271_265.out
           have hnc172:=NB265_271.out
           have hcz173_0:wc.cell? ⟨gb271,0,none⟩=some (.int .i64 t266):=(zz9 BK271.out 0).trans rfl
           have hcz173_1:wc.cell? ⟨gb271,1,none⟩=some (.slice Ao38 t267.length co38):=(zz9 BK271.out 1).trans rfl
           have hfz173_0:=zz10 BK271.out 0
           have hfz173_1:=zz10 BK271.out 1
           go_wp2_with (first | ((with_reducible refine gate_callee (f:=20) rfl ?_);refine goesL_ (some 72) rfl rfl Try.func20 (by kernel_rfl) rfl #[.agg #[.int .i64 t266,.slice Ao38 t267.length co38],.int .i64 1] rfl (by (try simp only [zz26,zz27,zz28]);first | done | rfl | (simp only [zz24,zz25];rfl)) ?_;(with_reducible refine (laws_markParty.calls kj61 t266 (fun k_=>some k_=(.slice Ao38 t267.length co38:Value).ownBlock) (.slice Ao38 t267.length co38) t267 1 t281 t282 w _ ?side1 ?side2 A92.out).mono ?_);(case side1=>repeat first | exact HB.out | apply zz2 | apply zz0 | apply zz1 | refine zz3 ?_ GE249.out | refine zz3 ?_ GE260.out | refine zz3 ?_ GE265.out | refine zz3 ?_ GE271.out);(case side2=>exact Kd.R_tight rfl HO_272001.out);rintro e w174 ⟨rfl,hy0,hb,hkp⟩;refine ⟨_,rfl,?_⟩;have n0_:=zz31 (Kd.R_mono (ok':=fun k_=>some k_ ≠ (.slice Ao31 t279.length co31:Value).ownBlock∧some k_ ≠ (.slice Ao38 t267.length co38:Value).ownBlock) (Kd.R_keptB (HO_261001.out) hkp (fun k_ hk_ hs_=>(hk_.2) hs_)) (fun k_ hk_=>⟨hk_.1.1,hk_.1.2⟩));have n1_:=zz31 (Kd.R_mono (ok':=fun k_=>some k_ ≠ (.slice Ao24 t256.length co24:Value).ownBlock∧some k_ ≠ (.slice Ao38 t267.length co38:Value).ownBlock) (Kd.R_keptB (HO_266001.out) hkp (fun k_ hk_ hs_=>(hk_.2) hs_)) (fun k_ hk_=>⟨hk_.1.1,hk_.1.2⟩));have n2_:=zz31 (Kd.R_reok rfl hy0 (fun k_ e_=>HO_272001.out.1 k_ e_));(first | have n3_:=zz31 (blk_kept BK249.out hkp (fun hs_=>(fun e_=>(Kd.R_ne HO_272001.out BK249.out (by decide)) e_) hs_)) | have n3_:=zz31 (blk_kept (by (with_reducible repeat (first | refine zz6 ?_ _ | refine zz7 ?_ | refine zz8 ?_ _));exact BK249.out) hkp (fun hs_=>(fun e_=>(Kd.R_ne HO_272001.out BK249.out (by decide)) e_) hs_)));(first | have n4_:=zz31 (blk_kept BK260.out hkp (fun hs_=>(fun e_=>(Kd.R_ne HO_272001.out BK260.out (by decide)) e_) hs_)) | have n4_:=zz31 (blk_kept (by (with_reducible repeat (first | refine zz6 ?_ _ | refine zz7 ?_ | refine zz8 ?_ _));exact BK260.out) hkp (fun hs_=>(fun e_=>(Kd.R_ne HO_272001.out BK260.out (by decide)) e_) hs_)));(first | have n5_:=zz31 (blk_kept BK265.out hkp (fun hs_=>(fun e_=>(Kd.R_ne HO_272001.out BK265.out (by decide)) e_) hs_)) | have n5_:=zz31 (blk_kept (by (with_reducible repeat (first | refine zz6 ?_ _ | refine zz7 ?_ | refine zz8 ?_ _));exact BK265.out) hkp (fun hs_=>(fun e_=>(Kd.R_ne HO_272001.out BK265.out (by decide)) e_) hs_)));(first | have n6_:=zz31 (blk_kept BK271.out hkp (fun hs_=>(fun e_=>(Kd.R_ne HO_272001.out BK271.out (by decide)) e_) hs_)) | have n6_:=zz31 (blk_kept (by (with_reducible repeat (first | refine zz6 ?_ _ | refine zz7 ?_ | refine zz8 ?_ _));exact BK271.out) hkp (fun hs_=>(fun e_=>(Kd.R_ne HO_272001.out BK271.out (by decide)) e_) hs_)));have n7_:=zz31 (hb);clear HO_261001;clear HO_266001;clear HO_272001;clear BK249;clear BK260;clear BK265;clear BK271;clear HB;have HO_261001:=n0_;have HO_266001:=n1_;have HO_272001:=n2_;have BK249:=n3_;have BK260:=n4_;have BK265:=n5_;have BK271:=n6_;have HB:=n7_;clear n0_ n1_ n2_ n3_ n4_ n5_ n6_ n7_;(try clear hb);(try clear hkp);(try clear hy0);have hcz175_0:w174.cell? ⟨gb271,0,none⟩=some (.int .i64 t266):=(zz9 BK271.out 0).trans rfl;have hcz175_1:w174.cell? ⟨gb271,1,none⟩=some (.slice Ao38 t267.length co38):=(zz9 BK271.out 1).trans rfl;have hfz175_0:=zz10 BK271.out 0;have hfz175_1:=zz10 BK271.out 1) | ((with_reducible refine gate_callee (f:=29) rfl ?_);refine goesL_ (some 75) rfl rfl Try.func29 (by kernel_rfl) rfl #[.agg #[.int .i64 t266,.slice Ao38 t282.length co38],.int .i64 1] rfl (by (try simp only [zz26,zz27,zz28]);first | done | (rw [show t282.length=t267.length from (Kd.R_reads' HO_272001.out).1.symm] <;> rfl) | rfl | (simp only [zz24,zz25];rfl)) ?_;(with_reducible refine (laws_heldParty.calls kj61 t266 _ _ t282 1 t283 _ ?side1 ?side2 A93.out).mono ?_);(case side1=>repeat (first | exact (Kd.R_reads' HO_272001.out).2.2 | (with_reducible refine zz18 ?_ _) | (with_reducible refine zz19 ?_ _) | (with_reducible refine zz20 ?_)));(case side2=>rw [show t282.length=t267.length from (Kd.R_reads' HO_272001.out).1.symm];exact (Kd.R_reads' HO_272001.out).2.1);rintro e w176 ⟨rfl,hb⟩;refine ⟨_,rfl,?_⟩;have n0_:=zz31 (Kd.R_below (by (with_reducible repeat (first | apply zz12 | apply zz13 | apply zz14));exact HO_261001.out) hb);have n1_:=zz31 (Kd.R_below (by (with_reducible repeat (first | apply zz12 | apply zz13 | apply zz14));exact HO_266001.out) hb);have n2_:=zz31 (Kd.R_below (by (with_reducible repeat (first | apply zz12 | apply zz13 | apply zz14));exact HO_272001.out) hb);have n3_:=zz31 (zz11 (g:=gb249) (o:=.cells #[.int .i64 a0_0,.slice A0_1 l0_1.length c0_1] 24 (0,0)) (by (with_reducible repeat (first | refine zz6 ?_ _ | refine zz7 ?_ | refine zz8 ?_ _));exact BK249.out) hb);have n4_:=zz31 (zz11 (g:=gb260) (o:=.cells #[.int .i64 t255,.slice Ao24 t256.length co24] 30 (0,0)) (by (with_reducible repeat (first | refine zz6 ?_ _ | refine zz7 ?_ | refine zz8 ?_ _));exact BK260.out) hb);have n5_:=zz31 (zz11 (g:=gb265) (o:=.cells #[.int .i64 t261,.slice Ao31 t279.length co31] 30 (0,0)) (by (with_reducible repeat (first | refine zz6 ?_ _ | refine zz7 ?_ | refine zz8 ?_ _));exact BK265.out) hb);have n6_:=zz31 (zz11 (g:=gb271) (o:=.cells #[.int .i64 t266,.slice Ao38 t267.length co38] 30 (0,0)) (by (with_reducible repeat (first | refine zz6 ?_ _ | refine zz7 ?_ | refine zz8 ?_ _));exact BK271.out) hb);have n7_:=zz31 (zz4 (by repeat first | exact HB.out | apply zz2 | apply zz0 | apply zz1 | refine zz3 ?_ GE249.out | refine zz3 ?_ GE260.out | refine zz3 ?_ GE265.out | refine zz3 ?_ GE271.out) hb);clear HO_261001;clear HO_266001;clear HO_272001;clear BK249;clear BK260;clear BK265;clear BK271;clear HB;have HO_261001:=n0_;have HO_266001:=n1_;have HO_272001:=n2_;have BK249:=n3_;have BK260:=n4_;have BK265:=n5_;have BK271:=n6_;have HB:=n7_;clear n0_ n1_ n2_ n3_ n4_ n5_ n6_ n7_;(try clear hb);(try clear hb2);(try clear hk);(try clear hi)))
           go_ret
           exact ⟨by first | rfl | (simp [errW_none,errW_some] <;> rfl) | (simp [*,errW_none,errW_some] <;> rfl),by repeat first | exact HB.out | apply zz2 | apply zz0 | apply zz1 | refine zz3 ?_ GE249.out | refine zz3 ?_ GE260.out | refine zz3 ?_ GE265.out | refine zz3 ?_ GE271.out⟩
     ·replace c60:=Bool.eq_false_iff.mpr c60
      subst c60
      have H1:(some false)=some r:=by rw [if_neg (show ¬ (false=true) by decide)] at H;exact H
      clear H
      have H:=H1
      clear H1
      obtain rfl:=Option.some.inj H
      try go_wp2
      have n0_:=zz31 (zz14 HO_261001.out)
      have n1_:=zz31 (zz14 HO_266001.out)
      have n2_:=zz31 (zz14 HO_272001.out)
      have n3_:=zz31 (zz7 BK249.out)
      have n4_:=zz31 (zz7 BK260.out)
      have n5_:=zz31 (zz7 BK265.out)
      have n6_:=zz31 (zz7 BK271.out)
      have n7_:=zz31 (zz1 HB.out)
      clear HO_261001
      clear HO_266001
      clear HO_272001
      clear BK249
      clear BK260
      clear BK265
      clear BK271
      clear HB
      have HO_261001:=n0_
      have HO_266001:=n1_
      have HO_272001:=n2_
      have BK249:=n3_
      have BK260:=n4_
      have BK265:=n5_
      have BK271:=n6_
      have HB:=n7_
      clear n0_ n1_ n2_ n3_ n4_ n5_ n6_ n7_
      refine start_ (n:=5) (S:=fun w'=>w'.cell? ⟨gb265,0,none⟩=some (.int .i64 t261)∧w'.cell? ⟨gb265,1,none⟩=some (.slice Ao31 t262.length co31)∧w'.cell? ⟨gb249,0,none⟩=some (.int .i64 a0_0)∧w'.cell? ⟨gb249,1,none⟩=some (.slice A0_1 l0_1.length c0_1)) (ds:=[]) #[F,F,F,F,F] (by kernel_rfl) rfl rfl ⟨(zz9 BK265.out 0).trans rfl,(zz9 BK265.out 1).trans rfl,(zz9 BK249.out 0).trans rfl,(zz9 BK249.out 1).trans rfl⟩ (fun hHeld=>?_)
      generalize wc.drew=w177 at HO_261001 HO_266001 HO_272001 BK249 BK260 BK265 BK271 HB hHeld ⊢
      refine take_ (i:=0) (N:=some 49) (v:=?_) (a':=?_) #[T,F,F,F,F] rfl rfl (by kernel_rfl) (fun _ _ _ h=>h) (Or.inl ⟨by rfl,?_⟩) hHeld ?_ ?_
      rotate_left
      ·rintro w' ⟨s0,s1,s2,s3⟩
       go_simp
       with_reducible rfl
      rotate_left
      ·simp only [Act.put,zz21,zz22,zz23,i64_w,i32_w]
       rfl
      refine take_ (i:=1) (N:=some 50) (v:=?_) (a':=?_) #[T,T,F,F,F] rfl rfl (by kernel_rfl) (fun _ _ _ h=>h) (Or.inl ⟨by rfl,?_⟩) hHeld ?_ ?_
      rotate_left
      ·rintro w' ⟨s0,s1,s2,s3⟩
       go_simp
       with_reducible rfl
      rotate_left
      ·simp only [Act.put,zz21,zz22,zz23,i64_w,i32_w]
       rfl
      refine one_ (i:=2) (N:=some 51) #[T,T,T,F,F] rfl rfl (by kernel_rfl) (by decide) (fun K hK=>?_)
      refine goes_ Try.func14 (by kernel_rfl) rfl #[.agg #[.int .i64 a0_0,.slice A0_1 l0_1.length c0_1]] (by rfl) rfl rfl (by (try simp only [zz26,zz27,zz28]);first | done | rfl | (simp only [zz24,zz25];rfl)) ?_
      with_reducible refine (laws_toParty.calls kj12 a0_0 _ _ l0_1 t273 t274 _ ?side1 ?side2 A58.out).mono ?_
      (case side1=>repeat (first | exact (Kd.C_below HR0_1.out HB.out) | (with_reducible refine zz18 ?_ _) | (with_reducible refine zz19 ?_ _) | (with_reducible refine zz20 ?_)))
      (case side2=>exact HC0_1.out)
      rintro e w178 ⟨v275,rfl,ho0,hb⟩
      refine ⟨_,rfl,?_⟩
      have n0_:=zz31 (Kd.R_elder' (by (with_reducible repeat (first | apply zz12 | apply zz13 | apply zz14));exact HO_261001.out) (Kd.R_base ho0) hb)
      have n1_:=zz31 (Kd.R_elder' (by (with_reducible repeat (first | apply zz12 | apply zz13 | apply zz14));exact HO_266001.out) (Kd.R_base ho0) hb)
      have n2_:=zz31 (Kd.R_elder' (by (with_reducible repeat (first | apply zz12 | apply zz13 | apply zz14));exact HO_272001.out) (Kd.R_base ho0) hb)
      have n3_:=zz31 (Kd.R_lower (Kd.R_new' (Kd.R_new' (Kd.R_new' ho0 (Kd.R_lt (by (with_reducible repeat (first | apply zz12 | apply zz13 | apply zz14));exact HO_261001.out))) (Kd.R_lt (by (with_reducible repeat (first | apply zz12 | apply zz13 | apply zz14));exact HO_266001.out))) (Kd.R_lt (by (with_reducible repeat (first | apply zz12 | apply zz13 | apply zz14));exact HO_272001.out))) (zz5 (by repeat first | exact HB.out | apply zz2 | apply zz0 | apply zz1 | refine zz3 ?_ GE249.out | refine zz3 ?_ GE260.out | refine zz3 ?_ GE265.out | refine zz3 ?_ GE271.out)))
      have n4_:=zz31 (zz11 (g:=gb249) (o:=.cells #[.int .i64 a0_0,.slice A0_1 l0_1.length c0_1] 24 (0,0)) (by (with_reducible repeat (first | refine zz6 ?_ _ | refine zz7 ?_ | refine zz8 ?_ _));exact BK249.out) hb)
      have n5_:=zz31 (zz11 (g:=gb260) (o:=.cells #[.int .i64 t255,.slice Ao24 t256.length co24] 30 (0,0)) (by (with_reducible repeat (first | refine zz6 ?_ _ | refine zz7 ?_ | refine zz8 ?_ _));exact BK260.out) hb)
      have n6_:=zz31 (zz11 (g:=gb265) (o:=.cells #[.int .i64 t261,.slice Ao31 t262.length co31] 30 (0,0)) (by (with_reducible repeat (first | refine zz6 ?_ _ | refine zz7 ?_ | refine zz8 ?_ _));exact BK265.out) hb)
      have n7_:=zz31 (zz11 (g:=gb271) (o:=.cells #[.int .i64 t266,.slice Ao38 t267.length co38] 30 (0,0)) (by (with_reducible repeat (first | refine zz6 ?_ _ | refine zz7 ?_ | refine zz8 ?_ _));exact BK271.out) hb)
      have n8_:=zz31 (zz4 (by repeat first | exact HB.out | apply zz2 | apply zz0 | apply zz1 | refine zz3 ?_ GE249.out | refine zz3 ?_ GE260.out | refine zz3 ?_ GE265.out | refine zz3 ?_ GE271.out) hb)
      clear HO_261001
      clear HO_266001
      clear HO_272001
      clear BK249
      clear BK260
      clear BK265
      clear BK271
      clear HB
      have HO_261001:=n0_
      have HO_266001:=n1_
      have HO_272001:=n2_
      have HO276:=n3_
      have BK249:=n4_
      have BK260:=n5_
      have BK265:=n6_
      have BK271:=n7_
      have HB:=n8_
      clear n0_ n1_ n2_ n3_ n4_ n5_ n6_ n7_ n8_
      (try clear hb)
      (try clear hb2)
      (try clear hk)
      (try clear hi)
      (try clear ho0)
      obtain ⟨Ao179,co179,eo179⟩:=Kd.R_slice HO276.out
      (first | subst eo179 | (injection eo179 with f1_ f2_ f3_;have f4_:=f1_.symm;have f5_:=f3_.symm;clear f1_ f2_ f3_;subst f4_;subst f5_))
      refine hK.out _ _ ⟨(zz9 BK265.out 0).trans rfl,(zz9 BK265.out 1).trans rfl,(zz9 BK249.out 0).trans rfl,(zz9 BK249.out 1).trans rfl⟩ (fun hHeld=>?_)
      clear hK K
      refine norm_ (a':=?_) ?_ ?_
      rotate_left
      ·show Act.put _ (some 51) _=_
       simp only [Act.put,zz21,zz22,zz23,i64_w,i32_w]
       rfl
      refine one_ (i:=3) (N:=some 52) #[T,T,T,T,F] rfl rfl (by kernel_rfl) (by decide) (fun K hK=>?_)
      refine goes_ Try.func16 (by kernel_rfl) rfl #[.agg #[.int .i64 t261,.slice Ao31 t262.length co31],.agg #[.int .i64 t273,.slice Ao179 t274.length co179]] (by rfl) rfl rfl (by (try simp only [zz26,zz27,zz28]);first | done | rfl | (simp only [zz24,zz25];rfl)) ?_
      with_reducible refine (laws_eqParty.calls kj12 t261 _ _ t262 t273 _ _ t274 false _ ?side1 ?side2 ?side3 ?side4 A59.out).mono ?_
      (case side1=>repeat (first | exact (Kd.R_reads' HO_266001.out).2.2 | (with_reducible refine zz18 ?_ _) | (with_reducible refine zz19 ?_ _) | (with_reducible refine zz20 ?_)))
      (case side2=>exact (Kd.R_reads' HO_266001.out).2.1)
      (case side3=>repeat (first | exact (Kd.R_reads' HO276.out).2.2 | (with_reducible refine zz18 ?_ _) | (with_reducible refine zz19 ?_ _) | (with_reducible refine zz20 ?_)))
      (case side4=>exact (Kd.R_reads' HO276.out).2.1)
      rintro e w180 ⟨rfl,hb⟩
      refine ⟨_,rfl,?_⟩
      have n0_:=zz31 (Kd.R_below (by (with_reducible repeat (first | apply zz12 | apply zz13 | apply zz14));exact HO_261001.out) hb)
      have n1_:=zz31 (Kd.R_below (by (with_reducible repeat (first | apply zz12 | apply zz13 | apply zz14));exact HO_266001.out) hb)
      have n2_:=zz31 (Kd.R_below (by (with_reducible repeat (first | apply zz12 | apply zz13 | apply zz14));exact HO_272001.out) hb)
      have n3_:=zz31 (Kd.R_below (by (with_reducible repeat (first | apply zz12 | apply zz13 | apply zz14));exact HO276.out) hb)
      have n4_:=zz31 (zz11 (g:=gb249) (o:=.cells #[.int .i64 a0_0,.slice A0_1 l0_1.length c0_1] 24 (0,0)) (by (with_reducible repeat (first | refine zz6 ?_ _ | refine zz7 ?_ | refine zz8 ?_ _));exact BK249.out) hb)
      have n5_:=zz31 (zz11 (g:=gb260) (o:=.cells #[.int .i64 t255,.slice Ao24 t256.length co24] 30 (0,0)) (by (with_reducible repeat (first | refine zz6 ?_ _ | refine zz7 ?_ | refine zz8 ?_ _));exact BK260.out) hb)
      have n6_:=zz31 (zz11 (g:=gb265) (o:=.cells #[.int .i64 t261,.slice Ao31 t262.length co31] 30 (0,0)) (by (with_reducible repeat (first | refine zz6 ?_ _ | refine zz7 ?_ | refine zz8 ?_ _));exact BK265.out) hb)
      have n7_:=zz31 (zz11 (g:=gb271) (o:=.cells #[.int .i64 t266,.slice Ao38 t267.length co38] 30 (0,0)) (by (with_reducible repeat (first | refine zz6 ?_ _ | refine zz7 ?_ | refine zz8 ?_ _));exact BK271.out) hb)
      have n8_:=zz31 (zz4 (by repeat first | exact HB.out | apply zz2 | apply zz0 | apply zz1 | refine zz3 ?_ GE249.out | refine zz3 ?_ GE260.out | refine zz3 ?_ GE265.out | refine zz3 ?_ GE271.out) hb)
      clear HO_261001
      clear HO_266001
      clear HO_272001
      clear HO276
      clear BK249
      clear BK260
      clear BK265
      clear BK271
      clear HB
      have HO_261001:=n0_
      have HO_266001:=n1_
      have HO_272001:=n2_
      have HO276:=n3_
      have BK249:=n4_
      have BK260:=n5_
      have BK265:=n6_
      have BK271:=n7_
      have HB:=n8_
      clear n0_ n1_ n2_ n3_ n4_ n5_ n6_ n7_ n8_
      (try clear hb)
      (try clear hb2)
      (try clear hk)
      (try clear hi)
      refine hK.out _ _ ⟨(zz9 BK265.out 0).trans rfl,(zz9 BK265.out 1).trans rfl,(zz9 BK249.out 0).trans rfl,(zz9 BK249.out 1).trans rfl⟩ (fun hHeld=>?_)
      clear hK K
      refine norm_ (a':=?_) ?_ ?_
      rotate_left
      ·show Act.put _ (some 52) _=_
       simp only [Act.put,zz21,zz22,zz23,i64_w,i32_w]
       rfl
      refine pure_ (i:=4) (N:=some 53) (v:=?_) (a':=?_) #[T,T,T,T,T] rfl rfl (by kernel_rfl) (fun _ _ _ h=>h) (Or.inl ⟨by rfl,?_⟩) ?_ ?_
      rotate_left
      ·intro w'
       go_simp
       with_reducible rfl
      rotate_left
      ·simp only [Act.put,zz21,zz22,zz23,i64_w,i32_w]
       rfl
      refine done_ (by kernel_rfl) ?_
      try go_wp2
      go_ret
      exact ⟨by first | rfl | (simp [errW_none,errW_some] <;> rfl) | (simp [*,errW_none,errW_some] <;> rfl),by repeat first | exact HB.out | apply zz2 | apply zz0 | apply zz1 | refine zz3 ?_ GE249.out | refine zz3 ?_ GE260.out | refine zz3 ?_ GE265.out | refine zz3 ?_ GE271.out⟩

end Go.Proofs.Ytialimbdkokdcaa.P
