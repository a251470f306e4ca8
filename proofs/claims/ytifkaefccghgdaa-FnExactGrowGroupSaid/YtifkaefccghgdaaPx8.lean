-- PRINTED by print.py (a twelfth state) out of the translation. Not trusted: Lean checks it.
import Derived.Test.YtifkaefccghgdaaPx0
import Derived.Test.YtifkaefccghgdaaPx1
import Derived.Test.YtifkaefccghgdaaPx2
import Derived.Test.YtifkaefccghgdaaPx6
import Derived.Test.YtifkaefccghgdaaPx7
namespace Go.Proofs.Ytifkaefccghgdaa.P
open Go.RowKit Go.Proofs.YtifkaefccghgdaaW.PrintWords Go.Proofs.YtifkaefccghgdaaW.PrintLast Go.Proofs.YtifkaefccghgdaaW.PrintMore
open Bool renaming true → T, false → F
attribute [local go_sem] max2_int min2_int max_two min_two max_three min_three max_four min_four   -- for this text's walks alone
set_option linter.unusedVariables false
set_option linter.unusedSimpArgs false

/-! ### laws_FnExactGrowGroup: function 3 -/
mutual
def laws_FnExactGrowGroup.j0:Nat→List Int→List Int→Bool→List Int→List Int→Bool→Bool→Int→List (S81)→Int→List (S79)→Option (Bool)
 | 0,_,_,_,_,_,_,_,_,_,_,_=>none
 | k+1,x1,x6,x7,x9,x10,x11,x51,x318000,x318001,x335000,x335001=>if x51=true then (some false) else ((laws_toParty.f k x318000 x318001).bind fun bt343=>((laws_eqParty.f k x335000 x335001 bt343.1 bt343.2).bind fun t347=>(if t347=true then ((laws_toIntS.f k x1).bind fun t348=>((laws_eqIntS.f k x9 t348).bind fun t351=>(if t351=true then ((laws_markParty.f k x335000 x335001 1).bind fun bt352=>((laws_markIntS.f k x9 bt352.1).bind fun bt354=>(if bt354.1 < 0 then (laws_FnExactGrowGroup.j1 k x1 x6 x7 x10 true x318000 x318001) else ((laws_eqIntS.f k x10 x6).bind fun t356=>(if t356=true then (laws_FnExactGrowGroup.j1 k x1 x6 x7 x10 (x11 != x7) x318000 x318001) else (laws_FnExactGrowGroup.j1 k x1 x6 x7 x10 true x318000 x318001)))))) else (some false)))) else (some false))))
def laws_FnExactGrowGroup.j1:Nat→List Int→List Int→Bool→List Int→Bool→Int→List (S81)→Option (Bool)
 | 0,_,_,_,_,_,_,_=>none
 | k+1,x1,x6,x7,x10,x80,x318000,x318001=>if x80=true then (some false) else ((laws_markIntS.f k x10 1).bind fun bt357=>((laws_heldIntS.f k bt357.2 1).bind fun t359=>(if t359 < 0 then (some false) else (if t359=bt357.1 then ((laws_toParty.f k x318000 x318001).bind fun bt360=>((laws_toIntS.f k x1).bind fun t364=>((impl_GrowGroup.f k bt360.1 bt360.2 t364).bind fun bt367=>((laws_eqIntS.f k bt367.1 x6).bind fun t371=>(if t371=true then (laws_FnExactGrowGroup.j2 k bt357.2 bt357.1 (bt367.2 != x7)) else (laws_FnExactGrowGroup.j2 k bt357.2 bt357.1 true)))))) else (some false)))))
def laws_FnExactGrowGroup.j2:Nat→List Int→Int→Bool→Option (Bool)
 | 0,_,_,_=>none
 | k+1,x10,x13,x108=>if x108=true then (some false) else ((laws_heldIntS.f k x10 1).bind fun t372=>(if t372 < 0 then (some false) else (if t372=x13 then (some true) else (some false))))
end
def laws_FnExactGrowGroup.f (k:Nat) (a0_0:Int) (l0_1:List (S81)) (l1:List Int):Option (Bool):=if (l1.length:Int) > 1048576 then (some true) else ((laws_szParty.f a0_0 l0_1 1048576).bind fun t318=>(if t318 < 0 then (some true) else ((laws_toParty.f k a0_0 l0_1).bind fun bt319=>((laws_toIntS.f k l1).bind fun t323=>((spec_GrowGroup.f k bt319.1 bt319.2 t323).bind fun bt326=>((laws_toParty.f k a0_0 l0_1).bind fun bt330=>((laws_toIntS.f k l1).bind fun t335=>((impl_GrowGroup.f k bt330.1 bt330.2 t335).bind fun bt338=>((laws_eqIntS.f k bt338.1 bt326.1).bind fun t342=>(if t342=true then (laws_FnExactGrowGroup.j0 k l1 bt326.1 bt326.2 t335 bt338.1 bt338.2 (bt338.2 != bt326.2) a0_0 l0_1 bt330.1 bt330.2) else (laws_FnExactGrowGroup.j0 k l1 bt326.1 bt326.2 t335 bt338.1 bt338.2 true a0_0 l0_1 bt330.1 bt330.2)))))))))))
theorem laws_FnExactGrowGroup.mono_l:∀ k,(∀ y0 y1 y2 y3 y4 y5 y6 y7 y8 y9 y10,LeO (laws_FnExactGrowGroup.j0 k y0 y1 y2 y3 y4 y5 y6 y7 y8 y9 y10) (laws_FnExactGrowGroup.j0 (k+1) y0 y1 y2 y3 y4 y5 y6 y7 y8 y9 y10))∧(∀ y0 y1 y2 y3 y4 y5 y6,LeO (laws_FnExactGrowGroup.j1 k y0 y1 y2 y3 y4 y5 y6) (laws_FnExactGrowGroup.j1 (k+1) y0 y1 y2 y3 y4 y5 y6))∧(∀ y0 y1 y2,LeO (laws_FnExactGrowGroup.j2 k y0 y1 y2) (laws_FnExactGrowGroup.j2 (k+1) y0 y1 y2))
 | 0=>⟨fun _ _ _ _ _ _ _ _ _ _ _ r h=>by simp [laws_FnExactGrowGroup.j0] at h,fun _ _ _ _ _ _ _ r h=>by simp [laws_FnExactGrowGroup.j1] at h,fun _ _ _ r h=>by simp [laws_FnExactGrowGroup.j2] at h⟩
 | k+1=>by
  obtain ⟨ih0,ih1,ih2⟩:=laws_FnExactGrowGroup.mono_l k
  refine ⟨?_,?_,?_⟩
  ·intro y0 y1 y2 y3 y4 y5 y6 y7 y8 y9 y10
   unfold laws_FnExactGrowGroup.j0
   repeat' first
   | (with_reducible exact ih0 _ _ _ _ _ _ _ _ _ _ _)
   | (with_reducible exact ih1 _ _ _ _ _ _ _)
   | (with_reducible exact ih2 _ _ _)
   | (with_reducible exact impl_GrowGroup.mono _ _ _ _)
   | (with_reducible exact laws_eqIntS.mono _ _ _)
   | (with_reducible exact laws_eqParty.mono _ _ _ _ _)
   | (with_reducible exact laws_heldIntS.mono _ _ _)
   | (with_reducible exact laws_markIntS.mono _ _ _)
   | (with_reducible exact laws_markParty.mono _ _ _ _)
   | (with_reducible exact laws_toIntS.mono _ _)
   | (with_reducible exact laws_toParty.mono _ _ _)
   | (with_reducible exact spec_GrowGroup.mono _ _ _ _)
   | (with_reducible exact LeO.refl _)
   | (with_reducible exact LeO.none _)
   | (with_reducible refine LeO.ite ?_ ?_)
   | (with_reducible refine LeO.bind ?_ (fun _=>?_))
   | exact ih0 _ _ _ _ _ _ _ _ _ _ _
   | exact ih1 _ _ _ _ _ _ _
   | exact ih2 _ _ _
   | exact impl_GrowGroup.mono _ _ _ _
   | exact laws_eqIntS.mono _ _ _
   | exact laws_eqParty.mono _ _ _ _ _
   | exact laws_heldIntS.mono _ _ _
   | exact laws_markIntS.mono _ _ _
   | exact laws_markParty.mono _ _ _ _
   | exact laws_toIntS.mono _ _
   | exact laws_toParty.mono _ _ _
   | exact spec_GrowGroup.mono _ _ _ _
   | exact LeO.none _
   | refine LeO.ite ?_ ?_
   | refine LeO.bind ?_ (fun _=>?_)
  ·intro y0 y1 y2 y3 y4 y5 y6
   unfold laws_FnExactGrowGroup.j1
   repeat' first
   | (with_reducible exact ih0 _ _ _ _ _ _ _ _ _ _ _)
   | (with_reducible exact ih1 _ _ _ _ _ _ _)
   | (with_reducible exact ih2 _ _ _)
   | (with_reducible exact impl_GrowGroup.mono _ _ _ _)
   | (with_reducible exact laws_eqIntS.mono _ _ _)
   | (with_reducible exact laws_eqParty.mono _ _ _ _ _)
   | (with_reducible exact laws_heldIntS.mono _ _ _)
   | (with_reducible exact laws_markIntS.mono _ _ _)
   | (with_reducible exact laws_markParty.mono _ _ _ _)
   | (with_reducible exact laws_toIntS.mono _ _)
   | (with_reducible exact laws_toParty.mono _ _ _)
   | (with_reducible exact spec_GrowGroup.mono _ _ _ _)
   | (with_reducible exact LeO.refl _)
   | (with_reducible exact LeO.none _)
   | (with_reducible refine LeO.ite ?_ ?_)
   | (with_reducible refine LeO.bind ?_ (fun _=>?_))
   | exact ih0 _ _ _ _ _ _ _ _ _ _ _
   | exact ih1 _ _ _ _ _ _ _
   | exact ih2 _ _ _
   | exact impl_GrowGroup.mono _ _ _ _
   | exact laws_eqIntS.mono _ _ _
   | exact laws_eqParty.mono _ _ _ _ _
   | exact laws_heldIntS.mono _ _ _
   | exact laws_markIntS.mono _ _ _
   | exact laws_markParty.mono _ _ _ _
   | exact laws_toIntS.mono _ _
   | exact laws_toParty.mono _ _ _
   | exact spec_GrowGroup.mono _ _ _ _
   | exact LeO.none _
   | refine LeO.ite ?_ ?_
   | refine LeO.bind ?_ (fun _=>?_)
  ·intro y0 y1 y2
   unfold laws_FnExactGrowGroup.j2
   repeat' first
   | (with_reducible exact ih0 _ _ _ _ _ _ _ _ _ _ _)
   | (with_reducible exact ih1 _ _ _ _ _ _ _)
   | (with_reducible exact ih2 _ _ _)
   | (with_reducible exact impl_GrowGroup.mono _ _ _ _)
   | (with_reducible exact laws_eqIntS.mono _ _ _)
   | (with_reducible exact laws_eqParty.mono _ _ _ _ _)
   | (with_reducible exact laws_heldIntS.mono _ _ _)
   | (with_reducible exact laws_markIntS.mono _ _ _)
   | (with_reducible exact laws_markParty.mono _ _ _ _)
   | (with_reducible exact laws_toIntS.mono _ _)
   | (with_reducible exact laws_toParty.mono _ _ _)
   | (with_reducible exact spec_GrowGroup.mono _ _ _ _)
   | (with_reducible exact LeO.refl _)
   | (with_reducible exact LeO.none _)
   | (with_reducible refine LeO.ite ?_ ?_)
   | (with_reducible refine LeO.bind ?_ (fun _=>?_))
   | exact ih0 _ _ _ _ _ _ _ _ _ _ _
   | exact ih1 _ _ _ _ _ _ _
   | exact ih2 _ _ _
   | exact impl_GrowGroup.mono _ _ _ _
   | exact laws_eqIntS.mono _ _ _
   | exact laws_eqParty.mono _ _ _ _ _
   | exact laws_heldIntS.mono _ _ _
   | exact laws_markIntS.mono _ _ _
   | exact laws_markParty.mono _ _ _ _
   | exact laws_toIntS.mono _ _
   | exact laws_toParty.mono _ _ _
   | exact spec_GrowGroup.mono _ _ _ _
   | exact LeO.none _
   | refine LeO.ite ?_ ?_
   | refine LeO.bind ?_ (fun _=>?_)
theorem laws_FnExactGrowGroup.mono:∀ a0 a1 a2 k,LeO (laws_FnExactGrowGroup.f k a0 a1 a2) (laws_FnExactGrowGroup.f (k+1) a0 a1 a2):=by
 intro a0 a1 a2 k
 obtain ⟨ih0,ih1,ih2⟩:=laws_FnExactGrowGroup.mono_l k
 unfold laws_FnExactGrowGroup.f
 repeat' first
   | (with_reducible exact ih0 _ _ _ _ _ _ _ _ _ _ _)
   | (with_reducible exact ih1 _ _ _ _ _ _ _)
   | (with_reducible exact ih2 _ _ _)
   | (with_reducible exact impl_GrowGroup.mono _ _ _ _)
   | (with_reducible exact laws_eqIntS.mono _ _ _)
   | (with_reducible exact laws_eqParty.mono _ _ _ _ _)
   | (with_reducible exact laws_heldIntS.mono _ _ _)
   | (with_reducible exact laws_markIntS.mono _ _ _)
   | (with_reducible exact laws_markParty.mono _ _ _ _)
   | (with_reducible exact laws_toIntS.mono _ _)
   | (with_reducible exact laws_toParty.mono _ _ _)
   | (with_reducible exact spec_GrowGroup.mono _ _ _ _)
   | (with_reducible exact LeO.refl _)
   | (with_reducible exact LeO.none _)
   | (with_reducible refine LeO.ite ?_ ?_)
   | (with_reducible refine LeO.bind ?_ (fun _=>?_))
   | exact ih0 _ _ _ _ _ _ _ _ _ _ _
   | exact ih1 _ _ _ _ _ _ _
   | exact ih2 _ _ _
   | exact impl_GrowGroup.mono _ _ _ _
   | exact laws_eqIntS.mono _ _ _
   | exact laws_eqParty.mono _ _ _ _ _
   | exact laws_heldIntS.mono _ _ _
   | exact laws_markIntS.mono _ _ _
   | exact laws_markParty.mono _ _ _ _
   | exact laws_toIntS.mono _ _
   | exact laws_toParty.mono _ _ _
   | exact spec_GrowGroup.mono _ _ _ _
   | exact LeO.none _
   | refine LeO.ite ?_ ?_
   | refine LeO.bind ?_ (fun _=>?_)
set_option maxHeartbeats 8000000 in
set_option maxRecDepth 100000 in
theorem laws_FnExactGrowGroup.calls (k:Nat) (a0_0:Int) (A0_1:Option Addr) (c0_1:Nat) (l0_1:List (S81)) (A1:Option Addr) (c1:Nat) (l1:List Int) (r:Bool) (w:World) (hr0_1:Kd.C k81 w A0_1 l0_1.length l0_1) (hc0_1:l0_1.length≤c0_1) (hr1:Kd.C (Kd.int .i64) w A1 l1.length l1) (hc1:l1.length≤c1) (h:laws_FnExactGrowGroup.f k a0_0 l0_1 l1=some r) :
  Calls Try.prog 3 #[.agg #[.int .i64 a0_0,.slice A0_1 l0_1.length c0_1],.slice A1 l1.length c1] w fun e w'=>e=.returned (.bool r)∧Below w.heap.size w w':=by
 have hu24:=Try.underlying24
 have hu31:=Try.underlying31
 have HR0_1:=zz31 hr0_1
 have HC0_1:=zz31 hc0_1
 clear hr0_1 hc0_1
 have HR1:=zz31 hr1
 have HC1:=zz31 hc1
 clear hr1 hc1
 have HB:=zz31 (Below.refl w.heap.size w)
 have H:(if (l1.length:Int) > 1048576 then (some true) else ((laws_szParty.f a0_0 l0_1 1048576).bind fun t318=>(if t318 < 0 then (some true) else ((laws_toParty.f k a0_0 l0_1).bind fun bt319=>((laws_toIntS.f k l1).bind fun t323=>((spec_GrowGroup.f k bt319.1 bt319.2 t323).bind fun bt326=>((laws_toParty.f k a0_0 l0_1).bind fun bt330=>((laws_toIntS.f k l1).bind fun t335=>((impl_GrowGroup.f k bt330.1 bt330.2 t335).bind fun bt338=>((laws_eqIntS.f k bt338.1 bt326.1).bind fun t342=>(if t342=true then (laws_FnExactGrowGroup.j0 k l1 bt326.1 bt326.2 t335 bt338.1 bt338.2 (bt338.2 != bt326.2) a0_0 l0_1 bt330.1 bt330.2) else (laws_FnExactGrowGroup.j0 k l1 bt326.1 bt326.2 t335 bt338.1 bt338.2 true a0_0 l0_1 bt330.1 bt330.2))))))))))))=some r:=h
 clear h
 by_cases c3:(l1.length:Int) > 1048576
 ·rw [if_pos c3] at H
  have c3b0:decide (1048576 < (l1.length:Int))=true:=decide_eq_true c3
  have c3b1:decide (1048576 < l1.length)=true:=decide_eq_true (by omega)
  clear c3
  obtain rfl:=Option.some.inj H
  go_enter Try.func3,Try.ntmps3
  go_wp2_with (first | ((with_reducible refine gate_dst (N:=2) rfl ?_);refine box_event ?hg (N:=2) ?hd (cs:=#[.int .i64 a0_0,.slice A0_1 l0_1.length c0_1]) (t:=24) ?hr ?_;(case hd=>rfl);(case hg=>rfl);(case hr=>first | (go_simp;done) | (go_simp;rfl));intro gb317 hg w4 hbox hb;have n0_:=zz31 (zz4 (by repeat first | exact HB.out | apply zz2 | apply zz0 | apply zz1) hb);have n1_:=zz31 (hbox);have n2_:=zz31 ((by rw [hg];exact (zz5 (by repeat first | exact HB.out | apply zz2 | apply zz0 | apply zz1)):w.heap.size≤gb317));have n3_:=zz31 ((by rw [hg];exact (zz5 (by repeat first | exact HB.out | apply zz2 | apply zz0 | apply zz1)):w.heap.size≤gb317));clear HB;have HB:=n0_;have BK317:=n1_;have GW317:=n2_;have GE317:=n3_;clear n0_ n1_ n2_ n3_;clear hb hbox hg))
  go_ret
  exact ⟨by first | rfl | (simp [errW_none,errW_some] <;> rfl) | (simp [*,errW_none,errW_some] <;> rfl),by repeat first | exact HB.out | apply zz2 | apply zz0 | apply zz1 | refine zz3 ?_ GE317.out⟩
 ·rw [if_neg c3] at H
  have c3b0:decide (1048576 < (l1.length:Int))=false:=decide_eq_false c3
  have c3b1:decide (1048576 < l1.length)=false:=decide_eq_false (by omega)
  clear c3
  replace H:=zz30.mp H
  obtain ⟨t318,A50,H⟩:=H
  replace H:(if t318 < 0 then (some true) else ((laws_toParty.f k a0_0 l0_1).bind fun bt319=>((laws_toIntS.f k l1).bind fun t323=>((spec_GrowGroup.f k bt319.1 bt319.2 t323).bind fun bt326=>((laws_toParty.f k a0_0 l0_1).bind fun bt330=>((laws_toIntS.f k l1).bind fun t335=>((impl_GrowGroup.f k bt330.1 bt330.2 t335).bind fun bt338=>((laws_eqIntS.f k bt338.1 bt326.1).bind fun t342=>(if t342=true then (laws_FnExactGrowGroup.j0 k l1 bt326.1 bt326.2 t335 bt338.1 bt338.2 (bt338.2 != bt326.2) a0_0 l0_1 bt330.1 bt330.2) else (laws_FnExactGrowGroup.j0 k l1 bt326.1 bt326.2 t335 bt338.1 bt338.2 true a0_0 l0_1 bt330.1 bt330.2))))))))))=some r:=H
  have A5:=zz31 A50
  clear A50
  by_cases c6:t318 < 0
  ·rw [if_pos c6] at H
   have c6b0:decide (t318 < 0)=true:=decide_eq_true c6
   clear c6
   obtain rfl:=Option.some.inj H
   go_enter Try.func3,Try.ntmps3
   go_wp2_with (first | ((with_reducible refine gate_dst (N:=2) rfl ?_);refine box_event ?hg (N:=2) ?hd (cs:=#[.int .i64 a0_0,.slice A0_1 l0_1.length c0_1]) (t:=24) ?hr ?_;(case hd=>rfl);(case hg=>rfl);(case hr=>first | (go_simp;done) | (go_simp;rfl));intro gb317 hg w7 hbox hb;have n0_:=zz31 (zz4 (by repeat first | exact HB.out | apply zz2 | apply zz0 | apply zz1) hb);have n1_:=zz31 (hbox);have n2_:=zz31 ((by rw [hg];exact (zz5 (by repeat first | exact HB.out | apply zz2 | apply zz0 | apply zz1)):w.heap.size≤gb317));have n3_:=zz31 ((by rw [hg];exact (zz5 (by repeat first | exact HB.out | apply zz2 | apply zz0 | apply zz1)):w.heap.size≤gb317));clear HB;have HB:=n0_;have BK317:=n1_;have GW317:=n2_;have GE317:=n3_;clear n0_ n1_ n2_ n3_;clear hb hbox hg;have hcz8_0:w7.cell? ⟨gb317,0,none⟩=some (.int .i64 a0_0):=(zz9 BK317.out 0).trans rfl;have hcz8_1:w7.cell? ⟨gb317,1,none⟩=some (.slice A0_1 l0_1.length c0_1):=(zz9 BK317.out 1).trans rfl;have hfz8_0:=zz10 BK317.out 0;have hfz8_1:=zz10 BK317.out 1) | ((with_reducible refine gate_callee (f:=9) rfl ?_);refine goesL_ (some 22) rfl rfl Try.func9 (by kernel_rfl) rfl #[.agg #[.int .i64 a0_0,.slice A0_1 l0_1.length c0_1],.int .i64 1048576] rfl (by (try simp only [zz26,zz27,zz28]);first | done | rfl | (simp only [zz24,zz25];rfl)) ?_;(with_reducible refine (laws_szParty.calls a0_0 _ _ l0_1 1048576 t318 _ ?side1 ?side2 A5.out).mono ?_);(case side1=>repeat (first | exact (Kd.C_below HR0_1.out HB.out) | (with_reducible refine zz18 ?_ _) | (with_reducible refine zz19 ?_ _) | (with_reducible refine zz20 ?_)));(case side2=>exact HC0_1.out);rintro e w9 ⟨rfl,hb⟩;refine ⟨_,rfl,?_⟩;have n0_:=zz31 (zz11 (g:=gb317) (o:=.cells #[.int .i64 a0_0,.slice A0_1 l0_1.length c0_1] 24 (0,0)) (by (with_reducible repeat (first | refine zz6 ?_ _ | refine zz7 ?_ | refine zz8 ?_ _));exact BK317.out) hb);have n1_:=zz31 (zz4 (by repeat first | exact HB.out | apply zz2 | apply zz0 | apply zz1 | refine zz3 ?_ GE317.out) hb);clear BK317;clear HB;have BK317:=n0_;have HB:=n1_;clear n0_ n1_;(try clear hb);(try clear hb2);(try clear hk);(try clear hi)))
   go_ret
   exact ⟨by first | rfl | (simp [errW_none,errW_some] <;> rfl) | (simp [*,errW_none,errW_some] <;> rfl),by repeat first | exact HB.out | apply zz2 | apply zz0 | apply zz1 | refine zz3 ?_ GE317.out⟩
  ·rw [if_neg c6] at H
   have c6b0:decide (t318 < 0)=false:=decide_eq_false c6
   clear c6
   replace H:=zz30.mp H
   obtain ⟨⟨t319,t320⟩,A100,H⟩:=H
   replace H:((laws_toIntS.f k l1).bind fun t323=>((spec_GrowGroup.f k t319 t320 t323).bind fun bt326=>((laws_toParty.f k a0_0 l0_1).bind fun bt330=>((laws_toIntS.f k l1).bind fun t335=>((impl_GrowGroup.f k bt330.1 bt330.2 t335).bind fun bt338=>((laws_eqIntS.f k bt338.1 bt326.1).bind fun t342=>(if t342=true then (laws_FnExactGrowGroup.j0 k l1 bt326.1 bt326.2 t335 bt338.1 bt338.2 (bt338.2 != bt326.2) a0_0 l0_1 bt330.1 bt330.2) else (laws_FnExactGrowGroup.j0 k l1 bt326.1 bt326.2 t335 bt338.1 bt338.2 true a0_0 l0_1 bt330.1 bt330.2))))))))=some r:=H
   have A10:=zz31 A100
   clear A100
   replace H:=zz30.mp H
   obtain ⟨t323,A110,H⟩:=H
   replace H:((spec_GrowGroup.f k t319 t320 t323).bind fun bt326=>((laws_toParty.f k a0_0 l0_1).bind fun bt330=>((laws_toIntS.f k l1).bind fun t335=>((impl_GrowGroup.f k bt330.1 bt330.2 t335).bind fun bt338=>((laws_eqIntS.f k bt338.1 bt326.1).bind fun t342=>(if t342=true then (laws_FnExactGrowGroup.j0 k l1 bt326.1 bt326.2 t335 bt338.1 bt338.2 (bt338.2 != bt326.2) a0_0 l0_1 bt330.1 bt330.2) else (laws_FnExactGrowGroup.j0 k l1 bt326.1 bt326.2 t335 bt338.1 bt338.2 true a0_0 l0_1 bt330.1 bt330.2)))))))=some r:=H
   have A11:=zz31 A110
   clear A110
   replace H:=zz30.mp H
   obtain ⟨⟨t326,t329⟩,A120,H⟩:=H
   replace H:((laws_toParty.f k a0_0 l0_1).bind fun bt330=>((laws_toIntS.f k l1).bind fun t335=>((impl_GrowGroup.f k bt330.1 bt330.2 t335).bind fun bt338=>((laws_eqIntS.f k bt338.1 t326).bind fun t342=>(if t342=true then (laws_FnExactGrowGroup.j0 k l1 t326 t329 t335 bt338.1 bt338.2 (bt338.2 != t329) a0_0 l0_1 bt330.1 bt330.2) else (laws_FnExactGrowGroup.j0 k l1 t326 t329 t335 bt338.1 bt338.2 true a0_0 l0_1 bt330.1 bt330.2))))))=some r:=H
   have A12:=zz31 A120
   clear A120
   replace H:=zz30.mp H
   obtain ⟨⟨t330,t331⟩,A130,H⟩:=H
   replace H:((laws_toIntS.f k l1).bind fun t335=>((impl_GrowGroup.f k t330 t331 t335).bind fun bt338=>((laws_eqIntS.f k bt338.1 t326).bind fun t342=>(if t342=true then (laws_FnExactGrowGroup.j0 k l1 t326 t329 t335 bt338.1 bt338.2 (bt338.2 != t329) a0_0 l0_1 t330 t331) else (laws_FnExactGrowGroup.j0 k l1 t326 t329 t335 bt338.1 bt338.2 true a0_0 l0_1 t330 t331)))))=some r:=H
   have A13:=zz31 A130
   clear A130
   replace H:=zz30.mp H
   obtain ⟨t335,A140,H⟩:=H
   replace H:((impl_GrowGroup.f k t330 t331 t335).bind fun bt338=>((laws_eqIntS.f k bt338.1 t326).bind fun t342=>(if t342=true then (laws_FnExactGrowGroup.j0 k l1 t326 t329 t335 bt338.1 bt338.2 (bt338.2 != t329) a0_0 l0_1 t330 t331) else (laws_FnExactGrowGroup.j0 k l1 t326 t329 t335 bt338.1 bt338.2 true a0_0 l0_1 t330 t331))))=some r:=H
   have A14:=zz31 A140
   clear A140
   replace H:=zz30.mp H
   obtain ⟨⟨t338,t341⟩,A150,H⟩:=H
   replace H:((laws_eqIntS.f k t338 t326).bind fun t342=>(if t342=true then (laws_FnExactGrowGroup.j0 k l1 t326 t329 t335 t338 t341 (t341 != t329) a0_0 l0_1 t330 t331) else (laws_FnExactGrowGroup.j0 k l1 t326 t329 t335 t338 t341 true a0_0 l0_1 t330 t331)))=some r:=H
   have A15:=zz31 A150
   clear A150
   have HC16:=zz31 H
   clear H
   go_enter Try.func3,Try.ntmps3
   go_upto_region 11 with (first | ((with_reducible refine gate_dst (N:=2) rfl ?_);refine box_event ?hg (N:=2) ?hd (cs:=#[.int .i64 a0_0,.slice A0_1 l0_1.length c0_1]) (t:=24) ?hr ?_;(case hd=>rfl);(case hg=>rfl);(case hr=>first | (go_simp;done) | (go_simp;rfl));intro gb317 hg w17 hbox hb;have n0_:=zz31 (zz4 (by repeat first | exact HB.out | apply zz2 | apply zz0 | apply zz1) hb);have n1_:=zz31 (hbox);have n2_:=zz31 ((by rw [hg];exact (zz5 (by repeat first | exact HB.out | apply zz2 | apply zz0 | apply zz1)):w.heap.size≤gb317));have n3_:=zz31 ((by rw [hg];exact (zz5 (by repeat first | exact HB.out | apply zz2 | apply zz0 | apply zz1)):w.heap.size≤gb317));clear HB;have HB:=n0_;have BK317:=n1_;have GW317:=n2_;have GE317:=n3_;clear n0_ n1_ n2_ n3_;clear hb hbox hg;have hcz18_0:w17.cell? ⟨gb317,0,none⟩=some (.int .i64 a0_0):=(zz9 BK317.out 0).trans rfl;have hcz18_1:w17.cell? ⟨gb317,1,none⟩=some (.slice A0_1 l0_1.length c0_1):=(zz9 BK317.out 1).trans rfl;have hfz18_0:=zz10 BK317.out 0;have hfz18_1:=zz10 BK317.out 1) | ((with_reducible refine gate_callee (f:=9) rfl ?_);refine goesL_ (some 22) rfl rfl Try.func9 (by kernel_rfl) rfl #[.agg #[.int .i64 a0_0,.slice A0_1 l0_1.length c0_1],.int .i64 1048576] rfl (by (try simp only [zz26,zz27,zz28]);first | done | rfl | (simp only [zz24,zz25];rfl)) ?_;(with_reducible refine (laws_szParty.calls a0_0 _ _ l0_1 1048576 t318 _ ?side1 ?side2 A5.out).mono ?_);(case side1=>repeat (first | exact (Kd.C_below HR0_1.out HB.out) | (with_reducible refine zz18 ?_ _) | (with_reducible refine zz19 ?_ _) | (with_reducible refine zz20 ?_)));(case side2=>exact HC0_1.out);rintro e w19 ⟨rfl,hb⟩;refine ⟨_,rfl,?_⟩;have n0_:=zz31 (zz11 (g:=gb317) (o:=.cells #[.int .i64 a0_0,.slice A0_1 l0_1.length c0_1] 24 (0,0)) (by (with_reducible repeat (first | refine zz6 ?_ _ | refine zz7 ?_ | refine zz8 ?_ _));exact BK317.out) hb);have n1_:=zz31 (zz4 (by repeat first | exact HB.out | apply zz2 | apply zz0 | apply zz1 | refine zz3 ?_ GE317.out) hb);clear BK317;clear HB;have BK317:=n0_;have HB:=n1_;clear n0_ n1_;(try clear hb);(try clear hb2);(try clear hk);(try clear hi);have hcz20_0:w19.cell? ⟨gb317,0,none⟩=some (.int .i64 a0_0):=(zz9 BK317.out 0).trans rfl;have hcz20_1:w19.cell? ⟨gb317,1,none⟩=some (.slice A0_1 l0_1.length c0_1):=(zz9 BK317.out 1).trans rfl;have hfz20_0:=zz10 BK317.out 0;have hfz20_1:=zz10 BK317.out 1) | ((with_reducible refine gate_callee (f:=11) rfl ?_);refine goesL_ (some 27) rfl rfl Try.func11 (by kernel_rfl) rfl #[.agg #[.int .i64 a0_0,.slice A0_1 l0_1.length c0_1]] rfl (by (try simp only [zz26,zz27,zz28]);first | done | rfl | (simp only [zz24,zz25];rfl)) ?_;(with_reducible refine (laws_toParty.calls k a0_0 _ _ l0_1 t319 t320 _ ?side1 ?side2 A10.out).mono ?_);(case side1=>repeat (first | exact (Kd.C_below HR0_1.out HB.out) | (with_reducible refine zz18 ?_ _) | (with_reducible refine zz19 ?_ _) | (with_reducible refine zz20 ?_)));(case side2=>exact HC0_1.out);rintro e w21 ⟨v321,rfl,ho0,hb⟩;refine ⟨_,rfl,?_⟩;have n0_:=zz31 (Kd.R_lower ho0 (zz5 (by repeat first | exact HB.out | apply zz2 | apply zz0 | apply zz1 | refine zz3 ?_ GE317.out)));have n1_:=zz31 (zz11 (g:=gb317) (o:=.cells #[.int .i64 a0_0,.slice A0_1 l0_1.length c0_1] 24 (0,0)) (by (with_reducible repeat (first | refine zz6 ?_ _ | refine zz7 ?_ | refine zz8 ?_ _));exact BK317.out) hb);have n2_:=zz31 (zz4 (by repeat first | exact HB.out | apply zz2 | apply zz0 | apply zz1 | refine zz3 ?_ GE317.out) hb);clear BK317;clear HB;have HO322:=n0_;have BK317:=n1_;have HB:=n2_;clear n0_ n1_ n2_;(try clear hb);(try clear hb2);(try clear hk);(try clear hi);(try clear ho0)) | ((with_reducible refine gate_callee (f:=12) rfl ?_);refine goesL_ (some 29) rfl rfl Try.func12 (by kernel_rfl) rfl #[.slice A1 l1.length c1] rfl (by (try simp only [zz26,zz27,zz28]);first | done | rfl | (simp only [zz24,zz25];rfl)) ?_;(with_reducible refine (laws_toIntS.calls k _ _ l1 t323 _ ?side1 ?side2 A11.out).mono ?_);(case side1=>repeat (first | exact (Kd.C_below HR1.out HB.out) | (with_reducible refine zz18 ?_ _) | (with_reducible refine zz19 ?_ _) | (with_reducible refine zz20 ?_)));(case side2=>exact HC1.out);rintro e w22 ⟨v324,rfl,ho0,hb⟩;refine ⟨_,rfl,?_⟩;have n0_:=zz31 (Kd.R_below (by (with_reducible repeat (first | apply zz12 | apply zz13 | apply zz14));exact HO322.out) hb);have n1_:=zz31 (Kd.R_lower ho0 (zz5 (by repeat first | exact HB.out | apply zz2 | apply zz0 | apply zz1 | refine zz3 ?_ GE317.out)));have n2_:=zz31 (zz11 (g:=gb317) (o:=.cells #[.int .i64 a0_0,.slice A0_1 l0_1.length c0_1] 24 (0,0)) (by (with_reducible repeat (first | refine zz6 ?_ _ | refine zz7 ?_ | refine zz8 ?_ _));exact BK317.out) hb);have n3_:=zz31 (zz4 (by repeat first | exact HB.out | apply zz2 | apply zz0 | apply zz1 | refine zz3 ?_ GE317.out) hb);clear HO322;clear BK317;clear HB;have HO322:=n0_;have HO325:=n1_;have BK317:=n2_;have HB:=n3_;clear n0_ n1_ n2_ n3_;(try clear hb);(try clear hb2);(try clear hk);(try clear hi);(try clear ho0);obtain ⟨Ao23,co23,eo23⟩:=Kd.R_slice HO322.out;subst eo23;obtain ⟨Ao24,co24,eo24⟩:=Kd.R_slice HO325.out;subst eo24) | ((with_reducible refine gate_callee (f:=10) rfl ?_);refine goesL_ (some 30) rfl rfl Try.func10 (by kernel_rfl) rfl #[.agg #[.int .i64 t319,.slice Ao23 t320.length co23],.slice Ao24 t323.length co24] rfl (by (try simp only [zz26,zz27,zz28]);first | done | rfl | (simp only [zz24,zz25];rfl)) ?_;(with_reducible refine (spec_GrowGroup.calls k t319 _ _ t320 _ _ t323 t326 t329 _ ?side1 ?side2 ?side3 ?side4 A12.out).mono ?_);(case side1=>repeat (first | exact (Kd.R_reads' HO322.out).2.2 | (with_reducible refine zz18 ?_ _) | (with_reducible refine zz19 ?_ _) | (with_reducible refine zz20 ?_)));(case side2=>exact (Kd.R_reads' HO322.out).2.1);(case side3=>repeat (first | exact (Kd.R_reads' HO325.out).2.2 | (with_reducible refine zz18 ?_ _) | (with_reducible refine zz19 ?_ _) | (with_reducible refine zz20 ?_)));(case side4=>exact (Kd.R_reads' HO325.out).2.1);rintro e w25 ⟨v327,rfl,ho0,hb⟩;refine ⟨_,rfl,?_⟩;have n0_:=zz31 (Kd.R_below (by (with_reducible repeat (first | apply zz12 | apply zz13 | apply zz14));exact HO322.out) hb);have n1_:=zz31 (Kd.R_elder' (by (with_reducible repeat (first | apply zz12 | apply zz13 | apply zz14));exact HO325.out) (Kd.R_base ho0) hb);have n2_:=zz31 (Kd.R_lower (Kd.R_new' ho0 (Kd.R_lt (by (with_reducible repeat (first | apply zz12 | apply zz13 | apply zz14));exact HO325.out))) (zz5 (by repeat first | exact HB.out | apply zz2 | apply zz0 | apply zz1 | refine zz3 ?_ GE317.out)));have n3_:=zz31 (zz11 (g:=gb317) (o:=.cells #[.int .i64 a0_0,.slice A0_1 l0_1.length c0_1] 24 (0,0)) (by (with_reducible repeat (first | refine zz6 ?_ _ | refine zz7 ?_ | refine zz8 ?_ _));exact BK317.out) hb);have n4_:=zz31 (zz4 (by repeat first | exact HB.out | apply zz2 | apply zz0 | apply zz1 | refine zz3 ?_ GE317.out) hb);clear HO322;clear HO325;clear BK317;clear HB;have HO322:=n0_;have HO325:=n1_;have HO328:=n2_;have BK317:=n3_;have HB:=n4_;clear n0_ n1_ n2_ n3_ n4_;(try clear hb);(try clear hb2);(try clear hk);(try clear hi);(try clear ho0);have hcz26_0:w25.cell? ⟨gb317,0,none⟩=some (.int .i64 a0_0):=(zz9 BK317.out 0).trans rfl;have hcz26_1:w25.cell? ⟨gb317,1,none⟩=some (.slice A0_1 l0_1.length c0_1):=(zz9 BK317.out 1).trans rfl;have hfz26_0:=zz10 BK317.out 0;have hfz26_1:=zz10 BK317.out 1) | ((with_reducible refine gate_callee (f:=11) rfl ?_);refine goesL_ (some 34) rfl rfl Try.func11 (by kernel_rfl) rfl #[.agg #[.int .i64 a0_0,.slice A0_1 l0_1.length c0_1]] rfl (by (try simp only [zz26,zz27,zz28]);first | done | rfl | (simp only [zz24,zz25];rfl)) ?_;(with_reducible refine (laws_toParty.calls k a0_0 _ _ l0_1 t330 t331 _ ?side1 ?side2 A13.out).mono ?_);(case side1=>repeat (first | exact (Kd.C_below HR0_1.out HB.out) | (with_reducible refine zz18 ?_ _) | (with_reducible refine zz19 ?_ _) | (with_reducible refine zz20 ?_)));(case side2=>exact HC0_1.out);rintro e w27 ⟨v332,rfl,ho0,hb⟩;refine ⟨_,rfl,?_⟩;have n0_:=zz31 (Kd.R_elder' (by (with_reducible repeat (first | apply zz12 | apply zz13 | apply zz14));exact HO322.out) (Kd.R_base ho0) hb);have n1_:=zz31 (Kd.R_below (by (with_reducible repeat (first | apply zz12 | apply zz13 | apply zz14));exact HO325.out) hb);have n2_:=zz31 (Kd.R_below (by (with_reducible repeat (first | apply zz12 | apply zz13 | apply zz14));exact HO328.out) hb);have n3_:=zz31 (Kd.R_lower (Kd.R_new' ho0 (Kd.R_lt (by (with_reducible repeat (first | apply zz12 | apply zz13 | apply zz14));exact HO322.out))) (zz5 (by repeat first | exact HB.out | apply zz2 | apply zz0 | apply zz1 | refine zz3 ?_ GE317.out)));have n4_:=zz31 (zz11 (g:=gb317) (o:=.cells #[.int .i64 a0_0,.slice A0_1 l0_1.length c0_1] 24 (0,0)) (by (with_reducible repeat (first | refine zz6 ?_ _ | refine zz7 ?_ | refine zz8 ?_ _));exact BK317.out) hb);have n5_:=zz31 (zz4 (by repeat first | exact HB.out | apply zz2 | apply zz0 | apply zz1 | refine zz3 ?_ GE317.out) hb);clear HO322;clear HO325;clear HO328;clear BK317;clear HB;have HO322:=n0_;have HO325:=n1_;have HO328:=n2_;have HO333:=n3_;have BK317:=n4_;have HB:=n5_;clear n0_ n1_ n2_ n3_ n4_ n5_;(try clear hb);(try clear hb2);(try clear hk);(try clear hi);(try clear ho0)) | ((with_reducible refine gate_dst (N:=8) rfl ?_);refine box_event ?hg (N:=8) ?hd (cs:=#[.int .i64 0,.slice none 0 0]) (t:=31) ?hr ?_;(case hd=>rfl);(case hg=>rfl);(case hr=>first | (go_simp;done) | (go_simp;rfl));intro gb334 hg w28 hbox hb;have n0_:=zz31 (Kd.R_below (by (with_reducible repeat (first | apply zz12 | apply zz13 | apply zz14));exact HO322.out) hb);have n1_:=zz31 (Kd.R_below (by (with_reducible repeat (first | apply zz12 | apply zz13 | apply zz14));exact HO325.out) hb);have n2_:=zz31 (Kd.R_below (by (with_reducible repeat (first | apply zz12 | apply zz13 | apply zz14));exact HO328.out) hb);have n3_:=zz31 (Kd.R_below (by (with_reducible repeat (first | apply zz12 | apply zz13 | apply zz14));exact HO333.out) hb);have n4_:=zz31 (zz11 (g:=gb317) (o:=.cells #[.int .i64 a0_0,.slice A0_1 l0_1.length c0_1] 24 (0,0)) (by (with_reducible repeat (first | refine zz6 ?_ _ | refine zz7 ?_ | refine zz8 ?_ _));exact BK317.out) hb);have n5_:=zz31 (zz4 (by repeat first | exact HB.out | apply zz2 | apply zz0 | apply zz1 | refine zz3 ?_ GE317.out) hb);have n6_:=zz31 (hbox);have n7_:=zz31 ((by rw [hg];exact (zz5 (by repeat first | exact HB.out | apply zz2 | apply zz0 | apply zz1 | refine zz3 ?_ GE317.out)):w.heap.size≤gb334));have n8_:=zz31 ((by rw [hg];exact (zz5 (by repeat first | exact HB.out | apply zz2 | apply zz0 | apply zz1 | refine zz3 ?_ GE317.out)):w.heap.size≤gb334));have n9_:=zz31 ((by rw [hg];exact Nat.ne_of_lt (blk_lt (g:=gb317) (o:=.cells #[.int .i64 a0_0,.slice A0_1 l0_1.length c0_1] 24 (0,0)) (by (with_reducible repeat (first | refine zz6 ?_ _ | refine zz7 ?_ | refine zz8 ?_ _));exact BK317.out)):gb317 ≠ gb334));have n10_:=zz31 ((by rw [hg];exact Nat.ne_of_gt (blk_lt (g:=gb317) (o:=.cells #[.int .i64 a0_0,.slice A0_1 l0_1.length c0_1] 24 (0,0)) (by (with_reducible repeat (first | refine zz6 ?_ _ | refine zz7 ?_ | refine zz8 ?_ _));exact BK317.out)):gb334 ≠ gb317));clear HO322;clear HO325;clear HO328;clear HO333;clear BK317;clear HB;have HO322:=n0_;have HO325:=n1_;have HO328:=n2_;have HO333:=n3_;have BK317:=n4_;have HB:=n5_;have BK334:=n6_;have GW334:=n7_;have GE334:=n8_;have NB317_334:=n9_;have NB334_317:=n10_;clear n0_ n1_ n2_ n3_ n4_ n5_ n6_ n7_ n8_ n9_ n10_;clear hb hbox hg;have hnb29:=NB334_317.out;have hnc29:=NB317_334.out;have hcz30_0:w28.cell? ⟨gb334,0,none⟩=some (.int .i64 0):=(zz9 BK334.out 0).trans rfl;have hcz30_1:w28.cell? ⟨gb334,1,none⟩=some (.slice none 0 0):=(zz9 BK334.out 1).trans rfl;have hfz30_0:=zz10 BK334.out 0;have hfz30_1:=zz10 BK334.out 1;obtain ⟨Ao31,co31,eo31⟩:=Kd.R_slice HO333.out;subst eo31) | ((with_reducible refine gate_callee (f:=12) rfl ?_);refine goesL_ (some 36) rfl rfl Try.func12 (by kernel_rfl) rfl #[.slice A1 l1.length c1] rfl (by (try simp only [zz26,zz27,zz28]);first | done | rfl | (simp only [zz24,zz25];rfl)) ?_;(with_reducible refine (laws_toIntS.calls k _ _ l1 t335 _ ?side1 ?side2 A14.out).mono ?_);(case side1=>exact Kd.C_below HR1.out (by repeat first | exact HB.out | apply zz2 | apply zz0 | apply zz1 | refine zz3 ?_ GE317.out | refine zz3 ?_ GE334.out));(case side2=>exact HC1.out);rintro e w32 ⟨v336,rfl,ho0,hb⟩;refine ⟨_,rfl,?_⟩;have n0_:=zz31 (Kd.R_below (by (with_reducible repeat (first | apply zz12 | apply zz13 | apply zz14));exact (Kd.R_mono (Kd.R_far (p:=⟨gb334,1,none⟩) (Kd.R_far (p:=⟨gb334,0,none⟩) (Kd.R_types HO322.out BK334.out (by decide)) (fun _ hk=>hk.2) (.int .i64 t330)) (fun _ hk=>hk.2) (.slice Ao31 t331.length co31)) (fun _ h_=>h_.1))) hb);have n1_:=zz31 (Kd.R_elder' (by (with_reducible repeat (first | apply zz12 | apply zz13 | apply zz14));exact (Kd.R_mono (Kd.R_far (p:=⟨gb334,1,none⟩) (Kd.R_far (p:=⟨gb334,0,none⟩) (Kd.R_types HO325.out BK334.out (by decide)) (fun _ hk=>hk.2) (.int .i64 t330)) (fun _ hk=>hk.2) (.slice Ao31 t331.length co31)) (fun _ h_=>h_.1))) (Kd.R_base ho0) hb);have n2_:=zz31 (Kd.R_elder' (by (with_reducible repeat (first | apply zz12 | apply zz13 | apply zz14));exact (Kd.R_mono (Kd.R_far (p:=⟨gb334,1,none⟩) (Kd.R_far (p:=⟨gb334,0,none⟩) (Kd.R_types HO328.out BK334.out (by decide)) (fun _ hk=>hk.2) (.int .i64 t330)) (fun _ hk=>hk.2) (.slice Ao31 t331.length co31)) (fun _ h_=>h_.1))) (Kd.R_base ho0) hb);have n3_:=zz31 (Kd.R_below (by (with_reducible repeat (first | apply zz12 | apply zz13 | apply zz14));exact (Kd.R_mono (Kd.R_far (p:=⟨gb334,1,none⟩) (Kd.R_far (p:=⟨gb334,0,none⟩) (Kd.R_types HO333.out BK334.out (by decide)) (fun _ hk=>hk.2) (.int .i64 t330)) (fun _ hk=>hk.2) (.slice Ao31 t331.length co31)) (fun _ h_=>h_.1))) hb);have n4_:=zz31 (Kd.R_lower (Kd.R_new' (Kd.R_new' ho0 (Kd.R_lt (by (with_reducible repeat (first | apply zz12 | apply zz13 | apply zz14));exact (Kd.R_mono (Kd.R_far (p:=⟨gb334,1,none⟩) (Kd.R_far (p:=⟨gb334,0,none⟩) (Kd.R_types HO325.out BK334.out (by decide)) (fun _ hk=>hk.2) (.int .i64 t330)) (fun _ hk=>hk.2) (.slice Ao31 t331.length co31)) (fun _ h_=>h_.1))))) (Kd.R_lt (by (with_reducible repeat (first | apply zz12 | apply zz13 | apply zz14));exact (Kd.R_mono (Kd.R_far (p:=⟨gb334,1,none⟩) (Kd.R_far (p:=⟨gb334,0,none⟩) (Kd.R_types HO328.out BK334.out (by decide)) (fun _ hk=>hk.2) (.int .i64 t330)) (fun _ hk=>hk.2) (.slice Ao31 t331.length co31)) (fun _ h_=>h_.1))))) (zz5 (by repeat first | exact HB.out | apply zz2 | apply zz0 | apply zz1 | refine zz3 ?_ GE317.out | refine zz3 ?_ GE334.out)));have n5_:=zz31 (zz11 (g:=gb317) (o:=.cells #[.int .i64 a0_0,.slice A0_1 l0_1.length c0_1] 24 (0,0)) (by (with_reducible repeat (first | refine zz6 ?_ _ | refine zz7 ?_ | refine zz8 ?_ _));refine blk_far ?_ NB317_334.out _;(with_reducible repeat (first | refine zz6 ?_ _ | refine zz7 ?_ | refine zz8 ?_ _));refine blk_far ?_ NB317_334.out _;(with_reducible repeat (first | refine zz6 ?_ _ | refine zz7 ?_ | refine zz8 ?_ _));exact BK317.out) hb);have n6_:=zz31 (zz11 (g:=gb334) (o:=.cells #[.int .i64 t330,.slice Ao31 t331.length co31] 31 (0,0)) (by (with_reducible repeat (first | refine zz6 ?_ _ | refine zz7 ?_ | refine zz8 ?_ _));refine blk_put (cs:=#[.int .i64 t330,.slice none 0 0]) ?_ 1 _ rfl;(with_reducible repeat (first | refine zz6 ?_ _ | refine zz7 ?_ | refine zz8 ?_ _));refine blk_put (cs:=#[.int .i64 0,.slice none 0 0]) ?_ 0 _ rfl;(with_reducible repeat (first | refine zz6 ?_ _ | refine zz7 ?_ | refine zz8 ?_ _));exact BK334.out) hb);have n7_:=zz31 (zz4 (by repeat first | exact HB.out | apply zz2 | apply zz0 | apply zz1 | refine zz3 ?_ GE317.out | refine zz3 ?_ GE334.out) hb);clear HO322;clear HO325;clear HO328;clear HO333;clear BK317;clear BK334;clear HB;have HO322:=n0_;have HO325:=n1_;have HO328:=n2_;have HO333:=n3_;have HO337:=n4_;have BK317:=n5_;have BK334:=n6_;have HB:=n7_;clear n0_ n1_ n2_ n3_ n4_ n5_ n6_ n7_;(try clear hb);(try clear hb2);(try clear hk);(try clear hi);(try clear ho0);have hcz33_0:w32.cell? ⟨gb334,0,none⟩=some (.int .i64 t330):=(zz9 BK334.out 0).trans rfl;have hcz33_1:w32.cell? ⟨gb334,1,none⟩=some (.slice Ao31 t331.length co31):=(zz9 BK334.out 1).trans rfl;have hfz33_0:=zz10 BK334.out 0;have hfz33_1:=zz10 BK334.out 1;obtain ⟨Ao34,co34,eo34⟩:=Kd.R_slice HO337.out;subst eo34) | ((with_reducible refine gate_callee (f:=13) rfl ?_);refine goesL_ (some 40) rfl rfl Try.func13 (by kernel_rfl) rfl #[.agg #[.int .i64 t330,.slice Ao31 t331.length co31],.slice Ao34 t335.length co34] rfl (by (try simp only [zz26,zz27,zz28]);first | done | rfl | (simp only [zz24,zz25];rfl)) ?_;(with_reducible refine (impl_GrowGroup.calls k t330 _ _ t331 _ _ t335 t338 t341 _ ?side1 ?side2 ?side3 ?side4 A15.out).mono ?_);(case side1=>repeat (first | exact (Kd.R_reads' HO333.out).2.2 | (with_reducible refine zz18 ?_ _) | (with_reducible refine zz19 ?_ _) | (with_reducible refine zz20 ?_)));(case side2=>exact (Kd.R_reads' HO333.out).2.1);(case side3=>repeat (first | exact (Kd.R_reads' HO337.out).2.2 | (with_reducible refine zz18 ?_ _) | (with_reducible refine zz19 ?_ _) | (with_reducible refine zz20 ?_)));(case side4=>exact (Kd.R_reads' HO337.out).2.1);rintro e w35 ⟨v339,rfl,ho0,hb⟩;refine ⟨_,rfl,?_⟩;have n0_:=zz31 (Kd.R_below (by (with_reducible repeat (first | apply zz12 | apply zz13 | apply zz14));exact HO322.out) hb);have n1_:=zz31 (Kd.R_elder' (by (with_reducible repeat (first | apply zz12 | apply zz13 | apply zz14));exact HO325.out) (Kd.R_base ho0) hb);have n2_:=zz31 (Kd.R_elder' (by (with_reducible repeat (first | apply zz12 | apply zz13 | apply zz14));exact HO328.out) (Kd.R_base ho0) hb);have n3_:=zz31 (Kd.R_below (by (with_reducible repeat (first | apply zz12 | apply zz13 | apply zz14));exact HO333.out) hb);have n4_:=zz31 (Kd.R_elder' (by (with_reducible repeat (first | apply zz12 | apply zz13 | apply zz14));exact HO337.out) (Kd.R_base ho0) hb);have n5_:=zz31 (Kd.R_lower (Kd.R_new' (Kd.R_new' (Kd.R_new' ho0 (Kd.R_lt (by (with_reducible repeat (first | apply zz12 | apply zz13 | apply zz14));exact HO325.out))) (Kd.R_lt (by (with_reducible repeat (first | apply zz12 | apply zz13 | apply zz14));exact HO328.out))) (Kd.R_lt (by (with_reducible repeat (first | apply zz12 | apply zz13 | apply zz14));exact HO337.out))) (zz5 (by repeat first | exact HB.out | apply zz2 | apply zz0 | apply zz1 | refine zz3 ?_ GE317.out | refine zz3 ?_ GE334.out)));have n6_:=zz31 (zz11 (g:=gb317) (o:=.cells #[.int .i64 a0_0,.slice A0_1 l0_1.length c0_1] 24 (0,0)) (by (with_reducible repeat (first | refine zz6 ?_ _ | refine zz7 ?_ | refine zz8 ?_ _));exact BK317.out) hb);have n7_:=zz31 (zz11 (g:=gb334) (o:=.cells #[.int .i64 t330,.slice Ao31 t331.length co31] 31 (0,0)) (by (with_reducible repeat (first | refine zz6 ?_ _ | refine zz7 ?_ | refine zz8 ?_ _));exact BK334.out) hb);have n8_:=zz31 (zz4 (by repeat first | exact HB.out | apply zz2 | apply zz0 | apply zz1 | refine zz3 ?_ GE317.out | refine zz3 ?_ GE334.out) hb);clear HO322;clear HO325;clear HO328;clear HO333;clear HO337;clear BK317;clear BK334;clear HB;have HO322:=n0_;have HO325:=n1_;have HO328:=n2_;have HO333:=n3_;have HO337:=n4_;have HO340:=n5_;have BK317:=n6_;have BK334:=n7_;have HB:=n8_;clear n0_ n1_ n2_ n3_ n4_ n5_ n6_ n7_ n8_;(try clear hb);(try clear hb2);(try clear hk);(try clear hi);(try clear ho0)))
   (try simp only [Act.put,zz21,zz22,zz23])
   go_cut [51] (fun v51 wc=>∃ (kq:Nat) (x51_15:Bool),v51=.bool x51_15∧Aside0 (laws_FnExactGrowGroup.j0 kq l1 t326 t329 t335 t338 t341 x51_15 a0_0 l0_1 t330 t331=some r)∧Aside0 (kq≤k)∧Aside0 (Kd.R (Kd.int .i64) 3 wc w.heap.size (fun k_=>some k_ ≠ ((.slice Ao34 t335.length co34):Value).ownBlock∧some k_ ≠ (v339:Value).ownBlock) v327 t326)∧Aside0 (Kd.R (Kd.int .i64) 3 wc w.heap.size (fun k_=>some k_ ≠ (v327:Value).ownBlock∧some k_ ≠ (v339:Value).ownBlock) (.slice Ao34 t335.length co34) t335)∧Aside0 (Kd.R (Kd.int .i64) 3 wc w.heap.size (fun k_=>some k_ ≠ (v327:Value).ownBlock∧some k_ ≠ ((.slice Ao34 t335.length co34):Value).ownBlock) v339 t338)∧Aside0 (Kd.R k79 79 wc w.heap.size (fun _=>True) (.slice Ao31 t331.length co31) t331)∧Aside0 (wc.heap[gb317]?=some (.cells #[.int .i64 a0_0,(.slice A0_1 l0_1.length c0_1)] 24 (0,0)))∧Aside0 (wc.heap[gb334]?=some (.cells #[.int .i64 t330,(.slice Ao31 t331.length co31)] 31 (0,0)))∧Aside0 (Below w.heap.size w wc))
   case first =>
    have H:=HC16.out
    clear HC16
    replace H:=zz30.mp H
    obtain ⟨t342,A360,H⟩:=H
    replace H:(if t342=true then (laws_FnExactGrowGroup.j0 k l1 t326 t329 t335 t338 t341 (t341 != t329) a0_0 l0_1 t330 t331) else (laws_FnExactGrowGroup.j0 k l1 t326 t329 t335 t338 t341 true a0_0 l0_1 t330 t331))=some r:=H
    have A36:=zz31 A360
    clear A360
    by_cases c37:t342=true
    ·subst c37
     have H1:(laws_FnExactGrowGroup.j0 k l1 t326 t329 t335 t338 t341 (t341 != t329) a0_0 l0_1 t330 t331)=some r:=by rw [if_pos rfl] at H;exact H
     clear H
     have H:=H1
     clear H1
     have H':=zz31 H
     clear H
     obtain ⟨Ao38,co38,eo38⟩:=Kd.R_slice HO340.out
     subst eo38
     obtain ⟨Ao39,co39,eo39⟩:=Kd.R_slice HO328.out
     subst eo39
     go_wp2_with (first | ((with_reducible refine gate_callee (f:=14) rfl ?_);refine goesL_ (some 45) rfl rfl Try.func14 (by kernel_rfl) rfl #[.slice Ao38 t338.length co38,.slice Ao39 t326.length co39] rfl (by (try simp only [zz26,zz27,zz28]);first | done | rfl | (simp only [zz24,zz25];rfl)) ?_;(with_reducible refine (laws_eqIntS.calls k _ _ t338 _ _ t326 true _ ?side1 ?side2 ?side3 ?side4 A36.out).mono ?_);(case side1=>repeat (first | exact (Kd.R_reads' HO340.out).2.2 | (with_reducible refine zz18 ?_ _) | (with_reducible refine zz19 ?_ _) | (with_reducible refine zz20 ?_)));(case side2=>exact (Kd.R_reads' HO340.out).2.1);(case side3=>repeat (first | exact (Kd.R_reads' HO328.out).2.2 | (with_reducible refine zz18 ?_ _) | (with_reducible refine zz19 ?_ _) | (with_reducible refine zz20 ?_)));(case side4=>exact (Kd.R_reads' HO328.out).2.1);rintro e w' ⟨rfl,⟨nd,rfl⟩⟩;refine ⟨_,rfl,?_⟩))
     go_meet
     case rel=>exact ⟨_,((t341 != t329)),(by first | rfl | (simp;done) | (simp [*];done)),H',⟨by first | omega | exact Nat.le_refl _⟩,⟨by (with_reducible repeat (first | apply zz12 | apply zz13 | apply zz14));exact Kd.R_mono HO328.out (fun _ hk=>⟨hk.1.2,hk.2⟩)⟩,⟨by (with_reducible repeat (first | apply zz12 | apply zz13 | apply zz14));exact Kd.R_mono HO337.out (fun _ hk=>⟨hk.1.2,hk.2⟩)⟩,⟨by (with_reducible repeat (first | apply zz12 | apply zz13 | apply zz14));exact Kd.R_mono HO340.out (fun _ hk=>⟨hk.1.2,hk.2⟩)⟩,⟨by (with_reducible repeat (first | apply zz12 | apply zz13 | apply zz14));exact Kd.R_mono HO333.out (fun _ hk=>trivial)⟩,⟨by (with_reducible repeat (first | refine zz6 ?_ _ | refine zz7 ?_ | refine zz8 ?_ _));exact BK317.out⟩,⟨by (with_reducible repeat (first | refine zz6 ?_ _ | refine zz7 ?_ | refine zz8 ?_ _));exact BK334.out⟩,⟨by repeat first | exact HB.out | apply zz2 | apply zz0 | apply zz1 | refine zz3 ?_ GE317.out | refine zz3 ?_ GE334.out⟩⟩
    ·replace c37:=Bool.eq_false_iff.mpr c37
     subst c37
     have H1:(laws_FnExactGrowGroup.j0 k l1 t326 t329 t335 t338 t341 true a0_0 l0_1 t330 t331)=some r:=by rw [if_neg (show ¬ (false=true) by decide)] at H;exact H
     clear H
     have H:=H1
     clear H1
     have H':=zz31 H
     clear H
     obtain ⟨Ao40,co40,eo40⟩:=Kd.R_slice HO340.out
     subst eo40
     obtain ⟨Ao41,co41,eo41⟩:=Kd.R_slice HO328.out
     subst eo41
     go_wp2_with (first | ((with_reducible refine gate_callee (f:=14) rfl ?_);refine goesL_ (some 45) rfl rfl Try.func14 (by kernel_rfl) rfl #[.slice Ao40 t338.length co40,.slice Ao41 t326.length co41] rfl (by (try simp only [zz26,zz27,zz28]);first | done | rfl | (simp only [zz24,zz25];rfl)) ?_;(with_reducible refine (laws_eqIntS.calls k _ _ t338 _ _ t326 false _ ?side1 ?side2 ?side3 ?side4 A36.out).mono ?_);(case side1=>repeat (first | exact (Kd.R_reads' HO340.out).2.2 | (with_reducible refine zz18 ?_ _) | (with_reducible refine zz19 ?_ _) | (with_reducible refine zz20 ?_)));(case side2=>exact (Kd.R_reads' HO340.out).2.1);(case side3=>repeat (first | exact (Kd.R_reads' HO328.out).2.2 | (with_reducible refine zz18 ?_ _) | (with_reducible refine zz19 ?_ _) | (with_reducible refine zz20 ?_)));(case side4=>exact (Kd.R_reads' HO328.out).2.1);rintro e w' ⟨rfl,⟨nd,rfl⟩⟩;refine ⟨_,rfl,?_⟩))
     go_meet
     case rel=>exact ⟨_,(true),(by first | rfl | (simp;done) | (simp [*];done)),H',⟨by first | omega | exact Nat.le_refl _⟩,⟨by (with_reducible repeat (first | apply zz12 | apply zz13 | apply zz14));exact Kd.R_mono HO328.out (fun _ hk=>⟨hk.1.2,hk.2⟩)⟩,⟨by (with_reducible repeat (first | apply zz12 | apply zz13 | apply zz14));exact Kd.R_mono HO337.out (fun _ hk=>⟨hk.1.2,hk.2⟩)⟩,⟨by (with_reducible repeat (first | apply zz12 | apply zz13 | apply zz14));exact Kd.R_mono HO340.out (fun _ hk=>⟨hk.1.2,hk.2⟩)⟩,⟨by (with_reducible repeat (first | apply zz12 | apply zz13 | apply zz14));exact Kd.R_mono HO333.out (fun _ hk=>trivial)⟩,⟨by (with_reducible repeat (first | refine zz6 ?_ _ | refine zz7 ?_ | refine zz8 ?_ _));exact BK317.out⟩,⟨by (with_reducible repeat (first | refine zz6 ?_ _ | refine zz7 ?_ | refine zz8 ?_ _));exact BK334.out⟩,⟨by repeat first | exact HB.out | apply zz2 | apply zz0 | apply zz1 | refine zz3 ?_ GE317.out | refine zz3 ?_ GE334.out⟩⟩
   case rest =>
    clear HC16
    try clear c1
    try clear c2
    try clear p2
    try clear c3
    try clear c3b0
    try clear c3b1
    try clear c6
    try clear c6b0
    try clear c9
    try clear c10
    try clear c11
    try clear c12
    try clear c13
    try clear c14
    try clear c29
    try clear c37
    try clear hcz18_0
    try clear hcz18_1
    try clear hcz20_0
    try clear hcz20_1
    try clear hcz26_0
    try clear hcz26_1
    try clear hcz30_0
    try clear hcz30_1
    try clear hcz33_0
    try clear hcz33_1
    try clear hcz8_0
    try clear hcz8_1
    try clear hfz18_0
    try clear hfz18_1
    try clear hfz20_0
    try clear hfz20_1
    try clear hfz26_0
    try clear hfz26_1
    try clear hfz30_0
    try clear hfz30_1
    try clear hfz33_0
    try clear hfz33_1
    try clear hfz8_0
    try clear hfz8_1
    obtain ⟨kq,x51_15,rfl,HA,HJ15,HO_6,HO_9,HO_10,HO_335001,BK317,BK334,HB⟩:=hcut
    cases kq with
    | zero=>exact absurd HA.out (by simp [laws_FnExactGrowGroup.j0])
    | succ kj15 =>
     have H:=HA.out
     clear HA
     simp only [laws_FnExactGrowGroup.j0] at H
     by_cases c42:x51_15=true
     ·subst c42
      have H1:(some false)=some r:=by rw [if_pos rfl] at H;exact H
      clear H
      have H:=H1
      clear H1
      obtain rfl:=Option.some.inj H
      go_wp2
      go_ret
      exact ⟨by first | rfl | (simp [errW_none,errW_some] <;> rfl) | (simp [*,errW_none,errW_some] <;> rfl),by repeat first | exact HB.out | apply zz2 | apply zz0 | apply zz1 | refine zz3 ?_ GE317.out | refine zz3 ?_ GE334.out⟩
     ·replace c42:=Bool.eq_false_iff.mpr c42
      subst c42
      have H1:((laws_toParty.f kj15 a0_0 l0_1).bind fun bt343=>((laws_eqParty.f kj15 t330 t331 bt343.1 bt343.2).bind fun t347=>(if t347=true then ((laws_toIntS.f kj15 l1).bind fun t348=>((laws_eqIntS.f kj15 t335 t348).bind fun t351=>(if t351=true then ((laws_markParty.f kj15 t330 t331 1).bind fun bt352=>((laws_markIntS.f kj15 t335 bt352.1).bind fun bt354=>(if bt354.1 < 0 then (laws_FnExactGrowGroup.j1 kj15 l1 t326 t329 t338 true a0_0 l0_1) else ((laws_eqIntS.f kj15 t338 t326).bind fun t356=>(if t356=true then (laws_FnExactGrowGroup.j1 kj15 l1 t326 t329 t338 (t341 != t329) a0_0 l0_1) else (laws_FnExactGrowGroup.j1 kj15 l1 t326 t329 t338 true a0_0 l0_1)))))) else (some false)))) else (some false))))=some r:=by rw [if_neg (show ¬ (false=true) by decide)] at H;exact H
      clear H
      have H:=H1
      clear H1
      replace H:=zz30.mp H
      obtain ⟨⟨t343,t344⟩,A430,H⟩:=H
      replace H:((laws_eqParty.f kj15 t330 t331 t343 t344).bind fun t347=>(if t347=true then ((laws_toIntS.f kj15 l1).bind fun t348=>((laws_eqIntS.f kj15 t335 t348).bind fun t351=>(if t351=true then ((laws_markParty.f kj15 t330 t331 1).bind fun bt352=>((laws_markIntS.f kj15 t335 bt352.1).bind fun bt354=>(if bt354.1 < 0 then (laws_FnExactGrowGroup.j1 kj15 l1 t326 t329 t338 true a0_0 l0_1) else ((laws_eqIntS.f kj15 t338 t326).bind fun t356=>(if t356=true then (laws_FnExactGrowGroup.j1 kj15 l1 t326 t329 t338 (t341 != t329) a0_0 l0_1) else (laws_FnExactGrowGroup.j1 kj15 l1 t326 t329 t338 true a0_0 l0_1)))))) else (some false)))) else (some false)))=some r:=H
      have A43:=zz31 A430
      clear A430
      replace H:=zz30.mp H
      obtain ⟨t347,A440,H⟩:=H
      replace H:(if t347=true then ((laws_toIntS.f kj15 l1).bind fun t348=>((laws_eqIntS.f kj15 t335 t348).bind fun t351=>(if t351=true then ((laws_markParty.f kj15 t330 t331 1).bind fun bt352=>((laws_markIntS.f kj15 t335 bt352.1).bind fun bt354=>(if bt354.1 < 0 then (laws_FnExactGrowGroup.j1 kj15 l1 t326 t329 t338 true a0_0 l0_1) else ((laws_eqIntS.f kj15 t338 t326).bind fun t356=>(if t356=true then (laws_FnExactGrowGroup.j1 kj15 l1 t326 t329 t338 (t341 != t329) a0_0 l0_1) else (laws_FnExactGrowGroup.j1 kj15 l1 t326 t329 t338 true a0_0 l0_1)))))) else (some false)))) else (some false))=some r:=H
      have A44:=zz31 A440
      clear A440
      by_cases c45:t347=true
      ·subst c45
       have H1:((laws_toIntS.f kj15 l1).bind fun t348=>((laws_eqIntS.f kj15 t335 t348).bind fun t351=>(if t351=true then ((laws_markParty.f kj15 t330 t331 1).bind fun bt352=>((laws_markIntS.f kj15 t335 bt352.1).bind fun bt354=>(if bt354.1 < 0 then (laws_FnExactGrowGroup.j1 kj15 l1 t326 t329 t338 true a0_0 l0_1) else ((laws_eqIntS.f kj15 t338 t326).bind fun t356=>(if t356=true then (laws_FnExactGrowGroup.j1 kj15 l1 t326 t329 t338 (t341 != t329) a0_0 l0_1) else (laws_FnExactGrowGroup.j1 kj15 l1 t326 t329 t338 true a0_0 l0_1)))))) else (some false))))=some r:=by rw [if_pos rfl] at H;exact H
       clear H
       have H:=H1
       clear H1
       replace H:=zz30.mp H
       obtain ⟨t348,A460,H⟩:=H
       replace H:((laws_eqIntS.f kj15 t335 t348).bind fun t351=>(if t351=true then ((laws_markParty.f kj15 t330 t331 1).bind fun bt352=>((laws_markIntS.f kj15 t335 bt352.1).bind fun bt354=>(if bt354.1 < 0 then (laws_FnExactGrowGroup.j1 kj15 l1 t326 t329 t338 true a0_0 l0_1) else ((laws_eqIntS.f kj15 t338 t326).bind fun t356=>(if t356=true then (laws_FnExactGrowGroup.j1 kj15 l1 t326 t329 t338 (t341 != t329) a0_0 l0_1) else (laws_FnExactGrowGroup.j1 kj15 l1 t326 t329 t338 true a0_0 l0_1)))))) else (some false)))=some r:=H
       have A46:=zz31 A460
       clear A460
       replace H:=zz30.mp H
       obtain ⟨t351,A470,H⟩:=H
       replace H:(if t351=true then ((laws_markParty.f kj15 t330 t331 1).bind fun bt352=>((laws_markIntS.f kj15 t335 bt352.1).bind fun bt354=>(if bt354.1 < 0 then (laws_FnExactGrowGroup.j1 kj15 l1 t326 t329 t338 true a0_0 l0_1) else ((laws_eqIntS.f kj15 t338 t326).bind fun t356=>(if t356=true then (laws_FnExactGrowGroup.j1 kj15 l1 t326 t329 t338 (t341 != t329) a0_0 l0_1) else (laws_FnExactGrowGroup.j1 kj15 l1 t326 t329 t338 true a0_0 l0_1)))))) else (some false))=some r:=H
       have A47:=zz31 A470
       clear A470
       by_cases c48:t351=true
       ·subst c48
        have H1:((laws_markParty.f kj15 t330 t331 1).bind fun bt352=>((laws_markIntS.f kj15 t335 bt352.1).bind fun bt354=>(if bt354.1 < 0 then (laws_FnExactGrowGroup.j1 kj15 l1 t326 t329 t338 true a0_0 l0_1) else ((laws_eqIntS.f kj15 t338 t326).bind fun t356=>(if t356=true then (laws_FnExactGrowGroup.j1 kj15 l1 t326 t329 t338 (t341 != t329) a0_0 l0_1) else (laws_FnExactGrowGroup.j1 kj15 l1 t326 t329 t338 true a0_0 l0_1))))))=some r:=by rw [if_pos rfl] at H;exact H
        clear H
        have H:=H1
        clear H1
        replace H:=zz30.mp H
        obtain ⟨⟨t352,t353⟩,A490,H⟩:=H
        replace H:((laws_markIntS.f kj15 t335 t352).bind fun bt354=>(if bt354.1 < 0 then (laws_FnExactGrowGroup.j1 kj15 l1 t326 t329 t338 true a0_0 l0_1) else ((laws_eqIntS.f kj15 t338 t326).bind fun t356=>(if t356=true then (laws_FnExactGrowGroup.j1 kj15 l1 t326 t329 t338 (t341 != t329) a0_0 l0_1) else (laws_FnExactGrowGroup.j1 kj15 l1 t326 t329 t338 true a0_0 l0_1)))))=some r:=H
        have A49:=zz31 A490
        clear A490
        replace H:=zz30.mp H
        obtain ⟨⟨t354,t355⟩,A500,H⟩:=H
        replace H:(if t354 < 0 then (laws_FnExactGrowGroup.j1 kj15 l1 t326 t329 t338 true a0_0 l0_1) else ((laws_eqIntS.f kj15 t338 t326).bind fun t356=>(if t356=true then (laws_FnExactGrowGroup.j1 kj15 l1 t326 t329 t338 (t341 != t329) a0_0 l0_1) else (laws_FnExactGrowGroup.j1 kj15 l1 t326 t329 t338 true a0_0 l0_1))))=some r:=H
        have A50:=zz31 A500
        clear A500
        have HC51:=zz31 H
        clear H
        try go_wp2
        have n0_:=zz31 (zz14 HO_6.out)
        have n1_:=zz31 (zz14 HO_9.out)
        have n2_:=zz31 (zz14 HO_10.out)
        have n3_:=zz31 (zz14 HO_335001.out)
        have n4_:=zz31 (zz7 BK317.out)
        have n5_:=zz31 (zz7 BK334.out)
        have n6_:=zz31 (zz1 HB.out)
        clear HO_6
        clear HO_9
        clear HO_10
        clear HO_335001
        clear BK317
        clear BK334
        clear HB
        have HO_6:=n0_
        have HO_9:=n1_
        have HO_10:=n2_
        have HO_335001:=n3_
        have BK317:=n4_
        have BK334:=n5_
        have HB:=n6_
        clear n0_ n1_ n2_ n3_ n4_ n5_ n6_
        refine start_ (n:=5) (S:=fun w'=>w'.cell? ⟨gb334,0,none⟩=some (.int .i64 t330)∧w'.cell? ⟨gb334,1,none⟩=some (.slice Ao31 t331.length co31)∧w'.cell? ⟨gb317,0,none⟩=some (.int .i64 a0_0)∧w'.cell? ⟨gb317,1,none⟩=some (.slice A0_1 l0_1.length c0_1)) (ds:=[]) #[F,F,F,F,F] (by kernel_rfl) rfl rfl ⟨(zz9 BK334.out 0).trans rfl,(zz9 BK334.out 1).trans rfl,(zz9 BK317.out 0).trans rfl,(zz9 BK317.out 1).trans rfl⟩ (fun hHeld=>?_)
        generalize wc.drew=w52 at HO_6 HO_9 HO_10 HO_335001 BK317 BK334 HB hHeld ⊢
        refine take_ (i:=0) (N:=some 52) (v:=?_) (a':=?_) #[T,F,F,F,F] rfl rfl (by kernel_rfl) (fun _ _ _ h=>h) (Or.inl ⟨by rfl,?_⟩) hHeld ?_ ?_
        rotate_left
        ·rintro w' ⟨s0,s1,s2,s3⟩
         go_simp
         with_reducible rfl
        rotate_left
        ·simp only [Act.put,zz21,zz22,zz23,i64_w,i32_w]
         rfl
        refine take_ (i:=1) (N:=some 53) (v:=?_) (a':=?_) #[T,T,F,F,F] rfl rfl (by kernel_rfl) (fun _ _ _ h=>h) (Or.inl ⟨by rfl,?_⟩) hHeld ?_ ?_
        rotate_left
        ·rintro w' ⟨s0,s1,s2,s3⟩
         go_simp
         with_reducible rfl
        rotate_left
        ·simp only [Act.put,zz21,zz22,zz23,i64_w,i32_w]
         rfl
        refine one_ (i:=2) (N:=some 54) #[T,T,T,F,F] rfl rfl (by kernel_rfl) (by decide) (fun K hK=>?_)
        refine goes_ Try.func11 (by kernel_rfl) rfl #[.agg #[.int .i64 a0_0,.slice A0_1 l0_1.length c0_1]] (by rfl) rfl rfl (by (try simp only [zz26,zz27,zz28]);first | done | rfl | (simp only [zz24,zz25];rfl)) ?_
        with_reducible refine (laws_toParty.calls kj15 a0_0 _ _ l0_1 t343 t344 _ ?side1 ?side2 A43.out).mono ?_
        (case side1=>repeat (first | exact (Kd.C_below HR0_1.out HB.out) | (with_reducible refine zz18 ?_ _) | (with_reducible refine zz19 ?_ _) | (with_reducible refine zz20 ?_)))
        (case side2=>exact HC0_1.out)
        rintro e w53 ⟨v345,rfl,ho0,hb⟩
        refine ⟨_,rfl,?_⟩
        have n0_:=zz31 (Kd.R_below (by (with_reducible repeat (first | apply zz12 | apply zz13 | apply zz14));exact HO_6.out) hb)
        have n1_:=zz31 (Kd.R_below (by (with_reducible repeat (first | apply zz12 | apply zz13 | apply zz14));exact HO_9.out) hb)
        have n2_:=zz31 (Kd.R_below (by (with_reducible repeat (first | apply zz12 | apply zz13 | apply zz14));exact HO_10.out) hb)
        have n3_:=zz31 (Kd.R_elder' (by (with_reducible repeat (first | apply zz12 | apply zz13 | apply zz14));exact HO_335001.out) (Kd.R_base ho0) hb)
        have n4_:=zz31 (Kd.R_lower (Kd.R_new' ho0 (Kd.R_lt (by (with_reducible repeat (first | apply zz12 | apply zz13 | apply zz14));exact HO_335001.out))) (zz5 (by repeat first | exact HB.out | apply zz2 | apply zz0 | apply zz1 | refine zz3 ?_ GE317.out | refine zz3 ?_ GE334.out)))
        have n5_:=zz31 (zz11 (g:=gb317) (o:=.cells #[.int .i64 a0_0,.slice A0_1 l0_1.length c0_1] 24 (0,0)) (by (with_reducible repeat (first | refine zz6 ?_ _ | refine zz7 ?_ | refine zz8 ?_ _));exact BK317.out) hb)
        have n6_:=zz31 (zz11 (g:=gb334) (o:=.cells #[.int .i64 t330,.slice Ao31 t331.length co31] 31 (0,0)) (by (with_reducible repeat (first | refine zz6 ?_ _ | refine zz7 ?_ | refine zz8 ?_ _));exact BK334.out) hb)
        have n7_:=zz31 (zz4 (by repeat first | exact HB.out | apply zz2 | apply zz0 | apply zz1 | refine zz3 ?_ GE317.out | refine zz3 ?_ GE334.out) hb)
        clear HO_6
        clear HO_9
        clear HO_10
        clear HO_335001
        clear BK317
        clear BK334
        clear HB
        have HO_6:=n0_
        have HO_9:=n1_
        have HO_10:=n2_
        have HO_335001:=n3_
        have HO346:=n4_
        have BK317:=n5_
        have BK334:=n6_
        have HB:=n7_
        clear n0_ n1_ n2_ n3_ n4_ n5_ n6_ n7_
        (try clear hb)
        (try clear hb2)
        (try clear hk)
        (try clear hi)
        (try clear ho0)
        obtain ⟨Ao54,co54,eo54⟩:=Kd.R_slice HO346.out
        (first | subst eo54 | (injection eo54 with f1_ f2_ f3_;have f4_:=f1_.symm;have f5_:=f3_.symm;clear f1_ f2_ f3_;subst f4_;subst f5_))
        refine hK.out _ _ ⟨(zz9 BK334.out 0).trans rfl,(zz9 BK334.out 1).trans rfl,(zz9 BK317.out 0).trans rfl,(zz9 BK317.out 1).trans rfl⟩ (fun hHeld=>?_)
        clear hK K
        refine norm_ (a':=?_) ?_ ?_
        rotate_left
        ·show Act.put _ (some 54) _=_
         simp only [Act.put,zz21,zz22,zz23,i64_w,i32_w]
         rfl
        refine one_ (i:=3) (N:=some 55) #[T,T,T,T,F] rfl rfl (by kernel_rfl) (by decide) (fun K hK=>?_)
        refine goes_ Try.func15 (by kernel_rfl) rfl #[.agg #[.int .i64 t330,.slice Ao31 t331.length co31],.agg #[.int .i64 t343,.slice Ao54 t344.length co54]] (by rfl) rfl rfl (by (try simp only [zz26,zz27,zz28]);first | done | rfl | (simp only [zz24,zz25];rfl)) ?_
        with_reducible refine (laws_eqParty.calls kj15 t330 _ _ t331 t343 _ _ t344 true _ ?side1 ?side2 ?side3 ?side4 A44.out).mono ?_
        (case side1=>repeat (first | exact (Kd.R_reads' HO_335001.out).2.2 | (with_reducible refine zz18 ?_ _) | (with_reducible refine zz19 ?_ _) | (with_reducible refine zz20 ?_)))
        (case side2=>exact (Kd.R_reads' HO_335001.out).2.1)
        (case side3=>repeat (first | exact (Kd.R_reads' HO346.out).2.2 | (with_reducible refine zz18 ?_ _) | (with_reducible refine zz19 ?_ _) | (with_reducible refine zz20 ?_)))
        (case side4=>exact (Kd.R_reads' HO346.out).2.1)
        rintro e w55 ⟨rfl,hb⟩
        refine ⟨_,rfl,?_⟩
        have n0_:=zz31 (Kd.R_below (by (with_reducible repeat (first | apply zz12 | apply zz13 | apply zz14));exact HO_6.out) hb)
        have n1_:=zz31 (Kd.R_below (by (with_reducible repeat (first | apply zz12 | apply zz13 | apply zz14));exact HO_9.out) hb)
        have n2_:=zz31 (Kd.R_below (by (with_reducible repeat (first | apply zz12 | apply zz13 | apply zz14));exact HO_10.out) hb)
        have n3_:=zz31 (Kd.R_below (by (with_reducible repeat (first | apply zz12 | apply zz13 | apply zz14));exact HO_335001.out) hb)
        have n4_:=zz31 (Kd.R_below (by (with_reducible repeat (first | apply zz12 | apply zz13 | apply zz14));exact HO346.out) hb)
        have n5_:=zz31 (zz11 (g:=gb317) (o:=.cells #[.int .i64 a0_0,.slice A0_1 l0_1.length c0_1] 24 (0,0)) (by (with_reducible repeat (first | refine zz6 ?_ _ | refine zz7 ?_ | refine zz8 ?_ _));exact BK317.out) hb)
        have n6_:=zz31 (zz11 (g:=gb334) (o:=.cells #[.int .i64 t330,.slice Ao31 t331.length co31] 31 (0,0)) (by (with_reducible repeat (first | refine zz6 ?_ _ | refine zz7 ?_ | refine zz8 ?_ _));exact BK334.out) hb)
        have n7_:=zz31 (zz4 (by repeat first | exact HB.out | apply zz2 | apply zz0 | apply zz1 | refine zz3 ?_ GE317.out | refine zz3 ?_ GE334.out) hb)
        clear HO_6
        clear HO_9
        clear HO_10
        clear HO_335001
        clear HO346
        clear BK317
        clear BK334
        clear HB
        have HO_6:=n0_
        have HO_9:=n1_
        have HO_10:=n2_
        have HO_335001:=n3_
        have HO346:=n4_
        have BK317:=n5_
        have BK334:=n6_
        have HB:=n7_
        clear n0_ n1_ n2_ n3_ n4_ n5_ n6_ n7_
        (try clear hb)
        (try clear hb2)
        (try clear hk)
        (try clear hi)
        refine hK.out _ _ ⟨(zz9 BK334.out 0).trans rfl,(zz9 BK334.out 1).trans rfl,(zz9 BK317.out 0).trans rfl,(zz9 BK317.out 1).trans rfl⟩ (fun hHeld=>?_)
        clear hK K
        refine norm_ (a':=?_) ?_ ?_
        rotate_left
        ·show Act.put _ (some 55) _=_
         simp only [Act.put,zz21,zz22,zz23,i64_w,i32_w]
         rfl
        refine pure_ (i:=4) (N:=some 56) (v:=?_) (a':=?_) #[T,T,T,T,T] rfl rfl (by kernel_rfl) (fun _ _ _ h=>h) (Or.inl ⟨by rfl,?_⟩) ?_ ?_
        rotate_left
        ·intro w'
         go_simp
         with_reducible rfl
        rotate_left
        ·simp only [Act.put,zz21,zz22,zz23,i64_w,i32_w]
         rfl
        refine done_ (by kernel_rfl) ?_
        go_upto_region 20 with (first | ((with_reducible refine gate_callee (f:=12) rfl ?_);refine goesL_ (some 59) rfl rfl Try.func12 (by kernel_rfl) rfl #[.slice A1 l1.length c1] rfl (by (try simp only [zz26,zz27,zz28]);first | done | rfl | (simp only [zz24,zz25];rfl)) ?_;(with_reducible refine (laws_toIntS.calls kj15 _ _ l1 t348 _ ?side1 ?side2 A46.out).mono ?_);(case side1=>repeat (first | exact (Kd.C_below HR1.out HB.out) | (with_reducible refine zz18 ?_ _) | (with_reducible refine zz19 ?_ _) | (with_reducible refine zz20 ?_)));(case side2=>exact HC1.out);rintro e w56 ⟨v349,rfl,ho0,hb⟩;refine ⟨_,rfl,?_⟩;have n0_:=zz31 (Kd.R_elder' (by (with_reducible repeat (first | apply zz12 | apply zz13 | apply zz14));exact HO_6.out) (Kd.R_base ho0) hb);have n1_:=zz31 (Kd.R_elder' (by (with_reducible repeat (first | apply zz12 | apply zz13 | apply zz14));exact HO_9.out) (Kd.R_base ho0) hb);have n2_:=zz31 (Kd.R_elder' (by (with_reducible repeat (first | apply zz12 | apply zz13 | apply zz14));exact HO_10.out) (Kd.R_base ho0) hb);have n3_:=zz31 (Kd.R_below (by (with_reducible repeat (first | apply zz12 | apply zz13 | apply zz14));exact HO_335001.out) hb);have n4_:=zz31 (Kd.R_below (by (with_reducible repeat (first | apply zz12 | apply zz13 | apply zz14));exact HO346.out) hb);have n5_:=zz31 (Kd.R_lower (Kd.R_new' (Kd.R_new' (Kd.R_new' ho0 (Kd.R_lt (by (with_reducible repeat (first | apply zz12 | apply zz13 | apply zz14));exact HO_6.out))) (Kd.R_lt (by (with_reducible repeat (first | apply zz12 | apply zz13 | apply zz14));exact HO_9.out))) (Kd.R_lt (by (with_reducible repeat (first | apply zz12 | apply zz13 | apply zz14));exact HO_10.out))) (zz5 (by repeat first | exact HB.out | apply zz2 | apply zz0 | apply zz1 | refine zz3 ?_ GE317.out | refine zz3 ?_ GE334.out)));have n6_:=zz31 (zz11 (g:=gb317) (o:=.cells #[.int .i64 a0_0,.slice A0_1 l0_1.length c0_1] 24 (0,0)) (by (with_reducible repeat (first | refine zz6 ?_ _ | refine zz7 ?_ | refine zz8 ?_ _));exact BK317.out) hb);have n7_:=zz31 (zz11 (g:=gb334) (o:=.cells #[.int .i64 t330,.slice Ao31 t331.length co31] 31 (0,0)) (by (with_reducible repeat (first | refine zz6 ?_ _ | refine zz7 ?_ | refine zz8 ?_ _));exact BK334.out) hb);have n8_:=zz31 (zz4 (by repeat first | exact HB.out | apply zz2 | apply zz0 | apply zz1 | refine zz3 ?_ GE317.out | refine zz3 ?_ GE334.out) hb);clear HO_6;clear HO_9;clear HO_10;clear HO_335001;clear HO346;clear BK317;clear BK334;clear HB;have HO_6:=n0_;have HO_9:=n1_;have HO_10:=n2_;have HO_335001:=n3_;have HO346:=n4_;have HO350:=n5_;have BK317:=n6_;have BK334:=n7_;have HB:=n8_;clear n0_ n1_ n2_ n3_ n4_ n5_ n6_ n7_ n8_;(try clear hb);(try clear hb2);(try clear hk);(try clear hi);(try clear ho0);obtain ⟨Ao57,co57,eo57⟩:=Kd.R_slice HO350.out;subst eo57) | ((with_reducible refine gate_callee (f:=14) rfl ?_);refine goesL_ (some 60) rfl rfl Try.func14 (by kernel_rfl) rfl #[.slice Ao34 t335.length co34,.slice Ao57 t348.length co57] rfl (by (try simp only [zz26,zz27,zz28]);first | done | rfl | (simp only [zz24,zz25];rfl)) ?_;(with_reducible refine (laws_eqIntS.calls kj15 _ _ t335 _ _ t348 true _ ?side1 ?side2 ?side3 ?side4 A47.out).mono ?_);(case side1=>repeat (first | exact (Kd.R_reads' HO_9.out).2.2 | (with_reducible refine zz18 ?_ _) | (with_reducible refine zz19 ?_ _) | (with_reducible refine zz20 ?_)));(case side2=>exact (Kd.R_reads' HO_9.out).2.1);(case side3=>repeat (first | exact (Kd.R_reads' HO350.out).2.2 | (with_reducible refine zz18 ?_ _) | (with_reducible refine zz19 ?_ _) | (with_reducible refine zz20 ?_)));(case side4=>exact (Kd.R_reads' HO350.out).2.1);rintro e w' ⟨rfl,⟨nd,rfl⟩⟩;refine ⟨_,rfl,?_⟩;have hnb58:=NB334_317.out;have hnc58:=NB317_334.out;have hcz59_0:w56.cell? ⟨gb334,0,none⟩=some (.int .i64 t330):=(zz9 BK334.out 0).trans rfl;have hcz59_1:w56.cell? ⟨gb334,1,none⟩=some (.slice Ao31 t331.length co31):=(zz9 BK334.out 1).trans rfl;have hfz59_0:=zz10 BK334.out 0;have hfz59_1:=zz10 BK334.out 1) | ((with_reducible refine gate_callee (f:=16) rfl ?_);refine goesL_ (some 64) rfl rfl Try.func16 (by kernel_rfl) rfl #[.agg #[.int .i64 t330,.slice Ao31 t331.length co31],.int .i64 1] rfl (by (try simp only [zz26,zz27,zz28]);first | done | rfl | (simp only [zz24,zz25];rfl)) ?_;(with_reducible refine (laws_markParty.calls kj15 t330 (fun k_=>some k_=(.slice Ao31 t331.length co31:Value).ownBlock) (.slice Ao31 t331.length co31) t331 1 t352 t353 w _ ?side1 ?side2 A49.out).mono ?_);(case side1=>repeat first | exact HB.out | apply zz2 | apply zz0 | apply zz1 | refine zz3 ?_ GE317.out | refine zz3 ?_ GE334.out);(case side2=>exact Kd.R_tight rfl HO_335001.out);rintro e w60 ⟨rfl,hy0,hb,hkp⟩;refine ⟨_,rfl,?_⟩;have n0_:=zz31 (Kd.R_mono (ok':=fun k_=>some k_ ≠ (.slice Ao34 t335.length co34:Value).ownBlock∧some k_ ≠ (v339:Value).ownBlock∧some k_ ≠ (.slice Ao57 t348.length co57:Value).ownBlock) (Kd.R_keptB ((Kd.R_apart' HO_6.out (Kd.R_typed HO_335001.out) (by decide))) hkp (fun k_ hk_ hs_=>(hk_.2) hs_)) (fun k_ hk_=>⟨hk_.1.1.1.1,hk_.1.1.1.2,hk_.1.1.2⟩));have n1_:=zz31 (Kd.R_mono (ok':=fun k_=>some k_ ≠ (v327:Value).ownBlock∧some k_ ≠ (v339:Value).ownBlock∧some k_ ≠ (.slice Ao57 t348.length co57:Value).ownBlock) (Kd.R_keptB ((Kd.R_apart' HO_9.out (Kd.R_typed HO_335001.out) (by decide))) hkp (fun k_ hk_ hs_=>(hk_.2) hs_)) (fun k_ hk_=>⟨hk_.1.1.1.1,hk_.1.1.1.2,hk_.1.1.2⟩));have n2_:=zz31 (Kd.R_mono (ok':=fun k_=>some k_ ≠ (v327:Value).ownBlock∧some k_ ≠ (.slice Ao34 t335.length co34:Value).ownBlock∧some k_ ≠ (.slice Ao57 t348.length co57:Value).ownBlock) (Kd.R_keptB ((Kd.R_apart' HO_10.out (Kd.R_typed HO_335001.out) (by decide))) hkp (fun k_ hk_ hs_=>(hk_.2) hs_)) (fun k_ hk_=>⟨hk_.1.1.1.1,hk_.1.1.1.2,hk_.1.1.2⟩));have n3_:=zz31 (Kd.R_reok rfl hy0 (fun k_ e_=>HO_335001.out.1 k_ e_));have n4_:=zz31 (blk_kept (by (with_reducible repeat (first | refine zz6 ?_ _ | refine zz7 ?_ | refine zz8 ?_ _));exact BK317.out) hkp (fun hs_=>(fun e_=>(Kd.R_ne HO_335001.out BK317.out (by decide)) e_) hs_));have n5_:=zz31 (blk_kept (by (with_reducible repeat (first | refine zz6 ?_ _ | refine zz7 ?_ | refine zz8 ?_ _));exact BK334.out) hkp (fun hs_=>(fun e_=>(Kd.R_ne HO_335001.out BK334.out (by decide)) e_) hs_));have n6_:=zz31 (Kd.R_mono (ok':=fun k_=>some k_ ≠ (.slice Ao31 t331.length co31:Value).ownBlock) (Kd.R_keptB (HO346.out) hkp (fun k_ hk_ hs_=>(hk_.2) hs_)) (fun k_ hk_=>hk_.1.2));have n7_:=zz31 (Kd.R_mono (ok':=fun k_=>some k_ ≠ (v327:Value).ownBlock∧some k_ ≠ (.slice Ao34 t335.length co34:Value).ownBlock∧some k_ ≠ (v339:Value).ownBlock) (Kd.R_keptB ((Kd.R_apart' HO350.out (Kd.R_typed HO_335001.out) (by decide))) hkp (fun k_ hk_ hs_=>(hk_.2) hs_)) (fun k_ hk_=>⟨hk_.1.1.1.1.2,hk_.1.1.1.2,hk_.1.1.2⟩));have n8_:=zz31 (hb);clear HO_6;clear HO_9;clear HO_10;clear HO_335001;clear BK317;clear BK334;clear HO346;clear HO350;clear HB;have HO_6:=n0_;have HO_9:=n1_;have HO_10:=n2_;have HO_335001:=n3_;have BK317:=n4_;have BK334:=n5_;have HO346:=n6_;have HO350:=n7_;have HB:=n8_;clear n0_ n1_ n2_ n3_ n4_ n5_ n6_ n7_ n8_;(try clear hb);(try clear hkp);(try clear hy0)) | ((with_reducible refine gate_callee (f:=17) rfl ?_);refine goesL_ (some 67) rfl rfl Try.func17 (by kernel_rfl) rfl #[.slice Ao34 t335.length co34,.int .i64 t352] rfl (by (try simp only [zz26,zz27,zz28]);first | done | rfl | (simp only [zz24,zz25];rfl)) ?_;(with_reducible refine (laws_markIntS.calls kj15 (fun k_=>some k_=(.slice Ao34 t335.length co34:Value).ownBlock) (.slice Ao34 t335.length co34) t335 t352 t354 t355 w _ ?side1 ?side2 A50.out).mono ?_);(case side1=>repeat first | exact HB.out | apply zz2 | apply zz0 | apply zz1 | refine zz3 ?_ GE317.out | refine zz3 ?_ GE334.out);(case side2=>exact Kd.R_tight rfl HO_9.out);rintro e w61 ⟨rfl,hy0,hb,hkp⟩;refine ⟨_,rfl,?_⟩;have n0_:=zz31 (Kd.R_mono (ok':=fun k_=>some k_ ≠ (.slice Ao34 t335.length co34:Value).ownBlock∧some k_ ≠ (v339:Value).ownBlock∧some k_ ≠ (.slice Ao57 t348.length co57:Value).ownBlock) (Kd.R_keptB (HO_6.out) hkp (fun k_ hk_ hs_=>(hk_.1) hs_)) (fun k_ hk_=>⟨hk_.1.1,hk_.1.2.1,hk_.1.2.2⟩));have n1_:=zz31 (Kd.R_reok rfl hy0 (fun k_ e_=>HO_9.out.1 k_ e_));have n2_:=zz31 (Kd.R_mono (ok':=fun k_=>some k_ ≠ (v327:Value).ownBlock∧some k_ ≠ (.slice Ao34 t335.length co34:Value).ownBlock∧some k_ ≠ (.slice Ao57 t348.length co57:Value).ownBlock) (Kd.R_keptB (HO_10.out) hkp (fun k_ hk_ hs_=>(hk_.2.1) hs_)) (fun k_ hk_=>⟨hk_.1.1,hk_.1.2.1,hk_.1.2.2⟩));have n3_:=zz31 (Kd.R_mono (ok':=fun k_=>some k_ ≠ (.slice Ao54 t344.length co54:Value).ownBlock) (Kd.R_keptB ((Kd.R_apart' HO_335001.out (Kd.R_typed HO_9.out) (by decide))) hkp (fun k_ hk_ hs_=>(hk_.2) hs_)) (fun k_ hk_=>hk_.1.1.2));have n4_:=zz31 (blk_kept (by (with_reducible repeat (first | refine zz6 ?_ _ | refine zz7 ?_ | refine zz8 ?_ _));exact BK317.out) hkp (fun hs_=>(fun e_=>(Kd.R_ne HO_9.out BK317.out (by decide)) e_) hs_));have n5_:=zz31 (blk_kept (by (with_reducible repeat (first | refine zz6 ?_ _ | refine zz7 ?_ | refine zz8 ?_ _));exact BK334.out) hkp (fun hs_=>(fun e_=>(Kd.R_ne HO_9.out BK334.out (by decide)) e_) hs_));have n6_:=zz31 (Kd.R_mono (ok':=fun k_=>some k_ ≠ (.slice Ao31 t331.length co31:Value).ownBlock) (Kd.R_keptB ((Kd.R_apart' HO346.out (Kd.R_typed HO_9.out) (by decide))) hkp (fun k_ hk_ hs_=>(hk_.2) hs_)) (fun k_ hk_=>hk_.1.1));have n7_:=zz31 (Kd.R_mono (ok':=fun k_=>some k_ ≠ (v327:Value).ownBlock∧some k_ ≠ (.slice Ao34 t335.length co34:Value).ownBlock∧some k_ ≠ (v339:Value).ownBlock) (Kd.R_keptB (HO350.out) hkp (fun k_ hk_ hs_=>(hk_.2.1) hs_)) (fun k_ hk_=>⟨hk_.1.1,hk_.1.2.1,hk_.1.2.2⟩));have n8_:=zz31 (hb);clear HO_6;clear HO_9;clear HO_10;clear HO_335001;clear BK317;clear BK334;clear HO346;clear HO350;clear HB;have HO_6:=n0_;have HO_9:=n1_;have HO_10:=n2_;have HO_335001:=n3_;have BK317:=n4_;have BK334:=n5_;have HO346:=n6_;have HO350:=n7_;have HB:=n8_;clear n0_ n1_ n2_ n3_ n4_ n5_ n6_ n7_ n8_;(try clear hb);(try clear hkp);(try clear hy0)))
        (try simp only [Act.put,zz21,zz22,zz23])
        go_cut [80] (fun v80 wc=>∃ (kq:Nat) (x80_50:Bool),v80=.bool x80_50∧Aside0 (laws_FnExactGrowGroup.j1 kq l1 t326 t329 t338 x80_50 a0_0 l0_1=some r)∧Aside0 (kq≤kj15)∧Aside0 (Kd.R (Kd.int .i64) 3 wc w.heap.size (fun k_=>some k_ ≠ (v339:Value).ownBlock) v327 t326)∧Aside0 (Kd.R (Kd.int .i64) 3 wc w.heap.size (fun k_=>some k_ ≠ (v327:Value).ownBlock) v339 t338)∧Aside0 (Kd.R k79 79 wc w.heap.size (fun _=>True) (.slice Ao31 t331.length co31) t353)∧Aside0 (wc.heap[gb317]?=some (.cells #[.int .i64 a0_0,(.slice A0_1 l0_1.length c0_1)] 24 (0,0)))∧Aside0 (wc.heap[gb334]?=some (.cells #[.int .i64 t330,(.slice Ao31 t331.length co31)] 31 (0,0)))∧Aside0 (Below w.heap.size w wc))
        case first =>
         have H:=HC51.out
         clear HC51
         by_cases c62:t354 < 0
         ·rw [if_pos c62] at H
          have c62b0:decide (t354 < 0)=true:=decide_eq_true c62
          clear c62
          (first | rw [c62b0] | (simp only [i64_w,i32_w];rw [c62b0]) | skip)
          have H':=zz31 H
          clear H
          go_wp2
          go_meet
          case rel=>exact ⟨_,(true),(by first | rfl | (simp;done) | (simp [*];done)),H',⟨by have:=HJ15.out;first | omega | exact Nat.le_refl _⟩,⟨by (with_reducible repeat (first | apply zz12 | apply zz13 | apply zz14));exact Kd.R_mono HO_6.out (fun _ hk=>hk.2.1)⟩,⟨by (with_reducible repeat (first | apply zz12 | apply zz13 | apply zz14));exact Kd.R_mono HO_10.out (fun _ hk=>hk.1)⟩,⟨by (with_reducible repeat (first | apply zz12 | apply zz13 | apply zz14));exact Kd.R_mono HO_335001.out (fun _ hk=>trivial)⟩,⟨by (with_reducible repeat (first | refine zz6 ?_ _ | refine zz7 ?_ | refine zz8 ?_ _));exact BK317.out⟩,⟨by (with_reducible repeat (first | refine zz6 ?_ _ | refine zz7 ?_ | refine zz8 ?_ _));exact BK334.out⟩,⟨by repeat first | exact HB.out | apply zz2 | apply zz0 | apply zz1 | refine zz3 ?_ GE317.out | refine zz3 ?_ GE334.out⟩⟩
         ·rw [if_neg c62] at H
          have c62b0:decide (t354 < 0)=false:=decide_eq_false c62
          clear c62
          (first | rw [c62b0] | (simp only [i64_w,i32_w];rw [c62b0]) | skip)
          replace H:=zz30.mp H
          obtain ⟨t356,A630,H⟩:=H
          replace H:(if t356=true then (laws_FnExactGrowGroup.j1 kj15 l1 t326 t329 t338 (t341 != t329) a0_0 l0_1) else (laws_FnExactGrowGroup.j1 kj15 l1 t326 t329 t338 true a0_0 l0_1))=some r:=H
          have A63:=zz31 A630
          clear A630
          by_cases c64:t356=true
          ·subst c64
           have H1:(laws_FnExactGrowGroup.j1 kj15 l1 t326 t329 t338 (t341 != t329) a0_0 l0_1)=some r:=by rw [if_pos rfl] at H;exact H
           clear H
           have H:=H1
           clear H1
           have H':=zz31 H
           clear H
           obtain ⟨Ao65,co65,eo65⟩:=Kd.R_slice HO_10.out
           subst eo65
           obtain ⟨Ao66,co66,eo66⟩:=Kd.R_slice HO_6.out
           subst eo66
           go_wp2_with (first | (go_at_call 14;(with_reducible refine (laws_eqIntS.calls kj15 _ _ t338 _ _ t326 true _ ?side1 ?side2 ?side3 ?side4 A63.out).mono ?_);(case side1=>repeat (first | exact (Kd.R_reads' HO_10.out).2.2 | (with_reducible refine zz18 ?_ _) | (with_reducible refine zz19 ?_ _) | (with_reducible refine zz20 ?_)));(case side2=>exact (Kd.R_reads' HO_10.out).2.1);(case side3=>repeat (first | exact (Kd.R_reads' HO_6.out).2.2 | (with_reducible refine zz18 ?_ _) | (with_reducible refine zz19 ?_ _) | (with_reducible refine zz20 ?_)));(case side4=>exact (Kd.R_reads' HO_6.out).2.1);rintro e w' ⟨rfl,⟨nd,rfl⟩⟩))
           go_meet
           case rel=>exact ⟨_,((t341 != t329)),(by first | rfl | (simp;done) | (simp [*];done)),H',⟨by have:=HJ15.out;first | omega | exact Nat.le_refl _⟩,⟨by (with_reducible repeat (first | apply zz12 | apply zz13 | apply zz14));exact Kd.R_mono HO_6.out (fun _ hk=>hk.2.1)⟩,⟨by (with_reducible repeat (first | apply zz12 | apply zz13 | apply zz14));exact Kd.R_mono HO_10.out (fun _ hk=>hk.1)⟩,⟨by (with_reducible repeat (first | apply zz12 | apply zz13 | apply zz14));exact Kd.R_mono HO_335001.out (fun _ hk=>trivial)⟩,⟨by (with_reducible repeat (first | refine zz6 ?_ _ | refine zz7 ?_ | refine zz8 ?_ _));exact BK317.out⟩,⟨by (with_reducible repeat (first | refine zz6 ?_ _ | refine zz7 ?_ | refine zz8 ?_ _));exact BK334.out⟩,⟨by repeat first | exact HB.out | apply zz2 | apply zz0 | apply zz1 | refine zz3 ?_ GE317.out | refine zz3 ?_ GE334.out⟩⟩
          ·replace c64:=Bool.eq_false_iff.mpr c64
           subst c64
           have H1:(laws_FnExactGrowGroup.j1 kj15 l1 t326 t329 t338 true a0_0 l0_1)=some r:=by rw [if_neg (show ¬ (false=true) by decide)] at H;exact H
           clear H
           have H:=H1
           clear H1
           have H':=zz31 H
           clear H
           obtain ⟨Ao67,co67,eo67⟩:=Kd.R_slice HO_10.out
           subst eo67
           obtain ⟨Ao68,co68,eo68⟩:=Kd.R_slice HO_6.out
           subst eo68
           go_wp2_with (first | (go_at_call 14;(with_reducible refine (laws_eqIntS.calls kj15 _ _ t338 _ _ t326 false _ ?side1 ?side2 ?side3 ?side4 A63.out).mono ?_);(case side1=>repeat (first | exact (Kd.R_reads' HO_10.out).2.2 | (with_reducible refine zz18 ?_ _) | (with_reducible refine zz19 ?_ _) | (with_reducible refine zz20 ?_)));(case side2=>exact (Kd.R_reads' HO_10.out).2.1);(case side3=>repeat (first | exact (Kd.R_reads' HO_6.out).2.2 | (with_reducible refine zz18 ?_ _) | (with_reducible refine zz19 ?_ _) | (with_reducible refine zz20 ?_)));(case side4=>exact (Kd.R_reads' HO_6.out).2.1);rintro e w' ⟨rfl,⟨nd,rfl⟩⟩))
           go_meet
           case rel=>exact ⟨_,(true),(by first | rfl | (simp;done) | (simp [*];done)),H',⟨by have:=HJ15.out;first | omega | exact Nat.le_refl _⟩,⟨by (with_reducible repeat (first | apply zz12 | apply zz13 | apply zz14));exact Kd.R_mono HO_6.out (fun _ hk=>hk.2.1)⟩,⟨by (with_reducible repeat (first | apply zz12 | apply zz13 | apply zz14));exact Kd.R_mono HO_10.out (fun _ hk=>hk.1)⟩,⟨by (with_reducible repeat (first | apply zz12 | apply zz13 | apply zz14));exact Kd.R_mono HO_335001.out (fun _ hk=>trivial)⟩,⟨by (with_reducible repeat (first | refine zz6 ?_ _ | refine zz7 ?_ | refine zz8 ?_ _));exact BK317.out⟩,⟨by (with_reducible repeat (first | refine zz6 ?_ _ | refine zz7 ?_ | refine zz8 ?_ _));exact BK334.out⟩,⟨by repeat first | exact HB.out | apply zz2 | apply zz0 | apply zz1 | refine zz3 ?_ GE317.out | refine zz3 ?_ GE334.out⟩⟩
        case rest =>
         clear HC51
         try clear c1
         try clear c2
         try clear p2
         try clear c3
         try clear c3b0
         try clear c3b1
         try clear c4
         try clear c5
         try clear c6
         try clear c6b0
         try clear c9
         try clear c10
         try clear c11
         try clear c12
         try clear c13
         try clear c14
         try clear c15
         try clear c16
         try clear c17
         try clear c29
         try clear c37
         try clear c42
         try clear c45
         try clear c48
         try clear c58
         try clear c62
         try clear c62b0
         try clear c64
         try clear hcz18_0
         try clear hcz18_1
         try clear hcz20_0
         try clear hcz20_1
         try clear hcz26_0
         try clear hcz26_1
         try clear hcz30_0
         try clear hcz30_1
         try clear hcz33_0
         try clear hcz33_1
         try clear hcz59_0
         try clear hcz59_1
         try clear hcz8_0
         try clear hcz8_1
         try clear hfz18_0
         try clear hfz18_1
         try clear hfz20_0
         try clear hfz20_1
         try clear hfz26_0
         try clear hfz26_1
         try clear hfz30_0
         try clear hfz30_1
         try clear hfz33_0
         try clear hfz33_1
         try clear hfz59_0
         try clear hfz59_1
         try clear hfz8_0
         try clear hfz8_1
         try clear p2
         obtain ⟨kq,x80_50,rfl,HA,HJ50,HO_6,HO_10,HO_335001,BK317,BK334,HB⟩:=hcut
         have hl335001_50:=(Kd.R_reads' HO_335001.out).1
         rw [hl335001_50] at HO_335001
         (try simp only [hl335001_50])
         (try simp only [hl335001_50] at BK317)
         (try simp only [hl335001_50] at BK334)
         (try simp only [hl335001_50] at HO_6)
         (try simp only [hl335001_50] at HO_10)
         cases kq with
         | zero=>exact absurd HA.out (by simp [laws_FnExactGrowGroup.j1])
         | succ kj50 =>
          have H:=HA.out
          clear HA
          simp only [laws_FnExactGrowGroup.j1] at H
          by_cases c69:x80_50=true
          ·subst c69
           have H1:(some false)=some r:=by rw [if_pos rfl] at H;exact H
           clear H
           have H:=H1
           clear H1
           obtain rfl:=Option.some.inj H
           go_wp2
           go_ret
           exact ⟨by first | rfl | (simp [errW_none,errW_some] <;> rfl) | (simp [*,errW_none,errW_some] <;> rfl),by repeat first | exact HB.out | apply zz2 | apply zz0 | apply zz1 | refine zz3 ?_ GE317.out | refine zz3 ?_ GE334.out⟩
          ·replace c69:=Bool.eq_false_iff.mpr c69
           subst c69
           have H1:((laws_markIntS.f kj50 t338 1).bind fun bt357=>((laws_heldIntS.f kj50 bt357.2 1).bind fun t359=>(if t359 < 0 then (some false) else (if t359=bt357.1 then ((laws_toParty.f kj50 a0_0 l0_1).bind fun bt360=>((laws_toIntS.f kj50 l1).bind fun t364=>((impl_GrowGroup.f kj50 bt360.1 bt360.2 t364).bind fun bt367=>((laws_eqIntS.f kj50 bt367.1 t326).bind fun t371=>(if t371=true then (laws_FnExactGrowGroup.j2 kj50 bt357.2 bt357.1 (bt367.2 != t329)) else (laws_FnExactGrowGroup.j2 kj50 bt357.2 bt357.1 true)))))) else (some false)))))=some r:=by rw [if_neg (show ¬ (false=true) by decide)] at H;exact H
           clear H
           have H:=H1
           clear H1
           replace H:=zz30.mp H
           obtain ⟨⟨t357,t358⟩,A700,H⟩:=H
           replace H:((laws_heldIntS.f kj50 t358 1).bind fun t359=>(if t359 < 0 then (some false) else (if t359=t357 then ((laws_toParty.f kj50 a0_0 l0_1).bind fun bt360=>((laws_toIntS.f kj50 l1).bind fun t364=>((impl_GrowGroup.f kj50 bt360.1 bt360.2 t364).bind fun bt367=>((laws_eqIntS.f kj50 bt367.1 t326).bind fun t371=>(if t371=true then (laws_FnExactGrowGroup.j2 kj50 t358 t357 (bt367.2 != t329)) else (laws_FnExactGrowGroup.j2 kj50 t358 t357 true)))))) else (some false))))=some r:=H
           have A70:=zz31 A700
           clear A700
           replace H:=zz30.mp H
           obtain ⟨t359,A710,H⟩:=H
           replace H:(if t359 < 0 then (some false) else (if t359=t357 then ((laws_toParty.f kj50 a0_0 l0_1).bind fun bt360=>((laws_toIntS.f kj50 l1).bind fun t364=>((impl_GrowGroup.f kj50 bt360.1 bt360.2 t364).bind fun bt367=>((laws_eqIntS.f kj50 bt367.1 t326).bind fun t371=>(if t371=true then (laws_FnExactGrowGroup.j2 kj50 t358 t357 (bt367.2 != t329)) else (laws_FnExactGrowGroup.j2 kj50 t358 t357 true)))))) else (some false)))=some r:=H
           have A71:=zz31 A710
           clear A710
           by_cases c72:t359 < 0
           ·rw [if_pos c72] at H
            have c72b0:decide (t359 < 0)=true:=decide_eq_true c72
            clear c72
            obtain rfl:=Option.some.inj H
            obtain ⟨Ao73,co73,eo73⟩:=Kd.R_slice HO_10.out
            subst eo73
            go_wp2_with (first | ((with_reducible refine gate_callee (f:=17) rfl ?_);refine goesL_ (some 83) rfl rfl Try.func17 (by kernel_rfl) rfl #[.slice Ao73 t338.length co73,.int .i64 1] rfl (by (try simp only [zz26,zz27,zz28]);first | done | rfl | (simp only [zz24,zz25];rfl)) ?_;(with_reducible refine (laws_markIntS.calls kj50 (fun k_=>some k_=(.slice Ao73 t338.length co73:Value).ownBlock) (.slice Ao73 t338.length co73) t338 1 t357 t358 w _ ?side1 ?side2 A70.out).mono ?_);(case side1=>repeat first | exact HB.out | apply zz2 | apply zz0 | apply zz1 | refine zz3 ?_ GE317.out | refine zz3 ?_ GE334.out);(case side2=>exact Kd.R_tight rfl HO_10.out);rintro e w74 ⟨rfl,hy0,hb,hkp⟩;refine ⟨_,rfl,?_⟩;have n0_:=zz31 (Kd.R_mono (ok':=fun k_=>some k_ ≠ (.slice Ao73 t338.length co73:Value).ownBlock) (Kd.R_keptB (HO_6.out) hkp (fun k_ hk_ hs_=>(hk_) hs_)) (fun k_ hk_=>hk_.1));have n1_:=zz31 (Kd.R_reok rfl hy0 (fun k_ e_=>HO_10.out.1 k_ e_));have n2_:=zz31 (Kd.R_mono (ok':=fun k_=>True) (Kd.R_keptB ((Kd.R_apart' HO_335001.out (Kd.R_typed HO_10.out) (by decide))) hkp (fun k_ hk_ hs_=>(hk_.2) hs_)) (fun k_ hk_=>trivial));have n3_:=zz31 (blk_kept (by (with_reducible repeat (first | refine zz6 ?_ _ | refine zz7 ?_ | refine zz8 ?_ _));exact BK317.out) hkp (fun hs_=>(fun e_=>(Kd.R_ne HO_10.out BK317.out (by decide)) e_) hs_));have n4_:=zz31 (blk_kept (by (with_reducible repeat (first | refine zz6 ?_ _ | refine zz7 ?_ | refine zz8 ?_ _));exact BK334.out) hkp (fun hs_=>(fun e_=>(Kd.R_ne HO_10.out BK334.out (by decide)) e_) hs_));have n5_:=zz31 (hb);clear HO_6;clear HO_10;clear HO_335001;clear BK317;clear BK334;clear HB;have HO_6:=n0_;have HO_10:=n1_;have HO_335001:=n2_;have BK317:=n3_;have BK334:=n4_;have HB:=n5_;clear n0_ n1_ n2_ n3_ n4_ n5_;(try clear hb);(try clear hkp);(try clear hy0)) | ((with_reducible refine gate_callee (f:=18) rfl ?_);refine goesL_ (some 86) rfl rfl Try.func18 (by kernel_rfl) rfl #[.slice Ao73 t358.length co73,.int .i64 1] rfl (by (try simp only [zz26,zz27,zz28]);first | done | (rw [show t358.length=t338.length from (Kd.R_reads' HO_10.out).1.symm] <;> rfl) | rfl | (simp only [zz24,zz25];rfl)) ?_;(with_reducible refine (laws_heldIntS.calls kj50 _ _ t358 1 t359 _ ?side1 ?side2 A71.out).mono ?_);(case side1=>repeat (first | exact (Kd.R_reads' HO_10.out).2.2 | (with_reducible refine zz18 ?_ _) | (with_reducible refine zz19 ?_ _) | (with_reducible refine zz20 ?_)));(case side2=>rw [show t358.length=t338.length from (Kd.R_reads' HO_10.out).1.symm];exact (Kd.R_reads' HO_10.out).2.1);rintro e w' ⟨rfl,⟨nd,rfl⟩⟩;refine ⟨_,rfl,?_⟩))
            go_ret
            exact ⟨by first | rfl | (simp [errW_none,errW_some] <;> rfl) | (simp [*,errW_none,errW_some] <;> rfl),by repeat first | exact HB.out | apply zz2 | apply zz0 | apply zz1 | refine zz3 ?_ GE317.out | refine zz3 ?_ GE334.out⟩
           ·rw [if_neg c72] at H
            have c72b0:decide (t359 < 0)=false:=decide_eq_false c72
            clear c72
            by_cases c75:t359=t357
            ·rw [if_pos c75] at H
             have c75b0:(t359 == t357)=true:=beq_iff_eq.mpr c75
             have c75b1:(t359 != t357)=false:=bne_eq_false_iff_eq.mpr c75
             clear c75
             replace H:=zz30.mp H
             obtain ⟨⟨t360,t361⟩,A760,H⟩:=H
             replace H:((laws_toIntS.f kj50 l1).bind fun t364=>((impl_GrowGroup.f kj50 t360 t361 t364).bind fun bt367=>((laws_eqIntS.f kj50 bt367.1 t326).bind fun t371=>(if t371=true then (laws_FnExactGrowGroup.j2 kj50 t358 t357 (bt367.2 != t329)) else (laws_FnExactGrowGroup.j2 kj50 t358 t357 true)))))=some r:=H
             have A76:=zz31 A760
             clear A760
             replace H:=zz30.mp H
             obtain ⟨t364,A770,H⟩:=H
             replace H:((impl_GrowGroup.f kj50 t360 t361 t364).bind fun bt367=>((laws_eqIntS.f kj50 bt367.1 t326).bind fun t371=>(if t371=true then (laws_FnExactGrowGroup.j2 kj50 t358 t357 (bt367.2 != t329)) else (laws_FnExactGrowGroup.j2 kj50 t358 t357 true))))=some r:=H
             have A77:=zz31 A770
             clear A770
             replace H:=zz30.mp H
             obtain ⟨⟨t367,t370⟩,A780,H⟩:=H
             replace H:((laws_eqIntS.f kj50 t367 t326).bind fun t371=>(if t371=true then (laws_FnExactGrowGroup.j2 kj50 t358 t357 (t370 != t329)) else (laws_FnExactGrowGroup.j2 kj50 t358 t357 true)))=some r:=H
             have A78:=zz31 A780
             clear A780
             have HC79:=zz31 H
             clear H
             obtain ⟨Ao80,co80,eo80⟩:=Kd.R_slice HO_10.out
             subst eo80
             go_upto_region 31 with (first | ((with_reducible refine gate_callee (f:=17) rfl ?_);refine goesL_ (some 83) rfl rfl Try.func17 (by kernel_rfl) rfl #[.slice Ao80 t338.length co80,.int .i64 1] rfl (by (try simp only [zz26,zz27,zz28]);first | done | rfl | (simp only [zz24,zz25];rfl)) ?_;(with_reducible refine (laws_markIntS.calls kj50 (fun k_=>some k_=(.slice Ao80 t338.length co80:Value).ownBlock) (.slice Ao80 t338.length co80) t338 1 t357 t358 w _ ?side1 ?side2 A70.out).mono ?_);(case side1=>repeat first | exact HB.out | apply zz2 | apply zz0 | apply zz1 | refine zz3 ?_ GE317.out | refine zz3 ?_ GE334.out);(case side2=>exact Kd.R_tight rfl HO_10.out);rintro e w81 ⟨rfl,hy0,hb,hkp⟩;refine ⟨_,rfl,?_⟩;have n0_:=zz31 (Kd.R_mono (ok':=fun k_=>some k_ ≠ (.slice Ao80 t338.length co80:Value).ownBlock) (Kd.R_keptB (HO_6.out) hkp (fun k_ hk_ hs_=>(hk_) hs_)) (fun k_ hk_=>hk_.1));have n1_:=zz31 (Kd.R_reok rfl hy0 (fun k_ e_=>HO_10.out.1 k_ e_));have n2_:=zz31 (Kd.R_mono (ok':=fun k_=>True) (Kd.R_keptB ((Kd.R_apart' HO_335001.out (Kd.R_typed HO_10.out) (by decide))) hkp (fun k_ hk_ hs_=>(hk_.2) hs_)) (fun k_ hk_=>trivial));have n3_:=zz31 (blk_kept (by (with_reducible repeat (first | refine zz6 ?_ _ | refine zz7 ?_ | refine zz8 ?_ _));exact BK317.out) hkp (fun hs_=>(fun e_=>(Kd.R_ne HO_10.out BK317.out (by decide)) e_) hs_));have n4_:=zz31 (blk_kept (by (with_reducible repeat (first | refine zz6 ?_ _ | refine zz7 ?_ | refine zz8 ?_ _));exact BK334.out) hkp (fun hs_=>(fun e_=>(Kd.R_ne HO_10.out BK334.out (by decide)) e_) hs_));have n5_:=zz31 (hb);clear HO_6;clear HO_10;clear HO_335001;clear BK317;clear BK334;clear HB;have HO_6:=n0_;have HO_10:=n1_;have HO_335001:=n2_;have BK317:=n3_;have BK334:=n4_;have HB:=n5_;clear n0_ n1_ n2_ n3_ n4_ n5_;(try clear hb);(try clear hkp);(try clear hy0)) | ((with_reducible refine gate_callee (f:=18) rfl ?_);refine goesL_ (some 86) rfl rfl Try.func18 (by kernel_rfl) rfl #[.slice Ao80 t358.length co80,.int .i64 1] rfl (by (try simp only [zz26,zz27,zz28]);first | done | (rw [show t358.length=t338.length from (Kd.R_reads' HO_10.out).1.symm] <;> rfl) | rfl | (simp only [zz24,zz25];rfl)) ?_;(with_reducible refine (laws_heldIntS.calls kj50 _ _ t358 1 t359 _ ?side1 ?side2 A71.out).mono ?_);(case side1=>repeat (first | exact (Kd.R_reads' HO_10.out).2.2 | (with_reducible refine zz18 ?_ _) | (with_reducible refine zz19 ?_ _) | (with_reducible refine zz20 ?_)));(case side2=>rw [show t358.length=t338.length from (Kd.R_reads' HO_10.out).1.symm];exact (Kd.R_reads' HO_10.out).2.1);rintro e w' ⟨rfl,⟨nd,rfl⟩⟩;refine ⟨_,rfl,?_⟩;have hnb82:=NB317_334.out;have hnc82:=NB334_317.out;have hcz83_0:w81.cell? ⟨gb317,0,none⟩=some (.int .i64 a0_0):=(zz9 BK317.out 0).trans rfl;have hcz83_1:w81.cell? ⟨gb317,1,none⟩=some (.slice A0_1 l0_1.length c0_1):=(zz9 BK317.out 1).trans rfl;have hfz83_0:=zz10 BK317.out 0;have hfz83_1:=zz10 BK317.out 1) | ((with_reducible refine gate_callee (f:=11) rfl ?_);refine goesL_ (some 94) rfl rfl Try.func11 (by kernel_rfl) rfl #[.agg #[.int .i64 a0_0,.slice A0_1 l0_1.length c0_1]] rfl (by (try simp only [zz26,zz27,zz28]);first | done | rfl | (simp only [zz24,zz25];rfl)) ?_;(with_reducible refine (laws_toParty.calls kj50 a0_0 _ _ l0_1 t360 t361 _ ?side1 ?side2 A76.out).mono ?_);(case side1=>repeat (first | exact (Kd.C_below HR0_1.out (by repeat first | exact HB.out | apply zz2 | apply zz0 | apply zz1 | refine zz3 ?_ GE317.out | refine zz3 ?_ GE334.out)) | (with_reducible refine zz18 ?_ _) | (with_reducible refine zz19 ?_ _) | (with_reducible refine zz20 ?_)));(case side2=>exact HC0_1.out);rintro e w84 ⟨v362,rfl,ho0,hb⟩;refine ⟨_,rfl,?_⟩;have n0_:=zz31 (Kd.R_below (by (with_reducible repeat (first | apply zz12 | apply zz13 | apply zz14));exact HO_6.out) hb);have n1_:=zz31 (Kd.R_below (by (with_reducible repeat (first | apply zz12 | apply zz13 | apply zz14));exact HO_10.out) hb);have n2_:=zz31 (Kd.R_elder' (by (with_reducible repeat (first | apply zz12 | apply zz13 | apply zz14));exact HO_335001.out) (Kd.R_base ho0) hb);have n3_:=zz31 (Kd.R_lower (Kd.R_new' ho0 (Kd.R_lt (by (with_reducible repeat (first | apply zz12 | apply zz13 | apply zz14));exact HO_335001.out))) (zz5 (by repeat first | exact HB.out | apply zz2 | apply zz0 | apply zz1 | refine zz3 ?_ GE317.out | refine zz3 ?_ GE334.out)));have n4_:=zz31 (zz11 (g:=gb317) (o:=.cells #[.int .i64 a0_0,.slice A0_1 l0_1.length c0_1] 24 (0,0)) (by (with_reducible repeat (first | refine zz6 ?_ _ | refine zz7 ?_ | refine zz8 ?_ _));exact BK317.out) hb);have n5_:=zz31 (zz11 (g:=gb334) (o:=.cells #[.int .i64 t330,.slice Ao31 t353.length co31] 31 (0,0)) (by (with_reducible repeat (first | refine zz6 ?_ _ | refine zz7 ?_ | refine zz8 ?_ _));exact BK334.out) hb);have n6_:=zz31 (zz4 (by repeat first | exact HB.out | apply zz2 | apply zz0 | apply zz1 | refine zz3 ?_ GE317.out | refine zz3 ?_ GE334.out) hb);clear HO_6;clear HO_10;clear HO_335001;clear BK317;clear BK334;clear HB;have HO_6:=n0_;have HO_10:=n1_;have HO_335001:=n2_;have HO363:=n3_;have BK317:=n4_;have BK334:=n5_;have HB:=n6_;clear n0_ n1_ n2_ n3_ n4_ n5_ n6_;(try clear hb);(try clear hb2);(try clear hk);(try clear hi);(try clear ho0)) | ((with_reducible refine gate_callee (f:=12) rfl ?_);refine goesL_ (some 96) rfl rfl Try.func12 (by kernel_rfl) rfl #[.slice A1 l1.length c1] rfl (by (try simp only [zz26,zz27,zz28]);first | done | rfl | (simp only [zz24,zz25];rfl)) ?_;(with_reducible refine (laws_toIntS.calls kj50 _ _ l1 t364 _ ?side1 ?side2 A77.out).mono ?_);(case side1=>repeat (first | exact (Kd.C_below HR1.out HB.out) | (with_reducible refine zz18 ?_ _) | (with_reducible refine zz19 ?_ _) | (with_reducible refine zz20 ?_)));(case side2=>exact HC1.out);rintro e w85 ⟨v365,rfl,ho0,hb⟩;refine ⟨_,rfl,?_⟩;have n0_:=zz31 (Kd.R_elder' (by (with_reducible repeat (first | apply zz12 | apply zz13 | apply zz14));exact HO_6.out) (Kd.R_base ho0) hb);have n1_:=zz31 (Kd.R_elder' (by (with_reducible repeat (first | apply zz12 | apply zz13 | apply zz14));exact HO_10.out) (Kd.R_base ho0) hb);have n2_:=zz31 (Kd.R_below (by (with_reducible repeat (first | apply zz12 | apply zz13 | apply zz14));exact HO_335001.out) hb);have n3_:=zz31 (Kd.R_below (by (with_reducible repeat (first | apply zz12 | apply zz13 | apply zz14));exact HO363.out) hb);have n4_:=zz31 (Kd.R_lower (Kd.R_new' (Kd.R_new' ho0 (Kd.R_lt (by (with_reducible repeat (first | apply zz12 | apply zz13 | apply zz14));exact HO_6.out))) (Kd.R_lt (by (with_reducible repeat (first | apply zz12 | apply zz13 | apply zz14));exact HO_10.out))) (zz5 (by repeat first | exact HB.out | apply zz2 | apply zz0 | apply zz1 | refine zz3 ?_ GE317.out | refine zz3 ?_ GE334.out)));have n5_:=zz31 (zz11 (g:=gb317) (o:=.cells #[.int .i64 a0_0,.slice A0_1 l0_1.length c0_1] 24 (0,0)) (by (with_reducible repeat (first | refine zz6 ?_ _ | refine zz7 ?_ | refine zz8 ?_ _));exact BK317.out) hb);have n6_:=zz31 (zz11 (g:=gb334) (o:=.cells #[.int .i64 t330,.slice Ao31 t353.length co31] 31 (0,0)) (by (with_reducible repeat (first | refine zz6 ?_ _ | refine zz7 ?_ | refine zz8 ?_ _));exact BK334.out) hb);have n7_:=zz31 (zz4 (by repeat first | exact HB.out | apply zz2 | apply zz0 | apply zz1 | refine zz3 ?_ GE317.out | refine zz3 ?_ GE334.out) hb);clear HO_6;clear HO_10;clear HO_335001;clear HO363;clear BK317;clear BK334;clear HB;have HO_6:=n0_;have HO_10:=n1_;have HO_335001:=n2_;have HO363:=n3_;have HO366:=n4_;have BK317:=n5_;have BK334:=n6_;have HB:=n7_;clear n0_ n1_ n2_ n3_ n4_ n5_ n6_ n7_;(try clear hb);(try clear hb2);(try clear hk);(try clear hi);(try clear ho0);obtain ⟨Ao86,co86,eo86⟩:=Kd.R_slice HO363.out;subst eo86;obtain ⟨Ao87,co87,eo87⟩:=Kd.R_slice HO366.out;subst eo87) | ((with_reducible refine gate_callee (f:=13) rfl ?_);refine goesL_ (some 97) rfl rfl Try.func13 (by kernel_rfl) rfl #[.agg #[.int .i64 t360,.slice Ao86 t361.length co86],.slice Ao87 t364.length co87] rfl (by (try simp only [zz26,zz27,zz28]);first | done | rfl | (simp only [zz24,zz25];rfl)) ?_;(with_reducible refine (impl_GrowGroup.calls kj50 t360 _ _ t361 _ _ t364 t367 t370 _ ?side1 ?side2 ?side3 ?side4 A78.out).mono ?_);(case side1=>repeat (first | exact (Kd.R_reads' HO363.out).2.2 | (with_reducible refine zz18 ?_ _) | (with_reducible refine zz19 ?_ _) | (with_reducible refine zz20 ?_)));(case side2=>exact (Kd.R_reads' HO363.out).2.1);(case side3=>repeat (first | exact (Kd.R_reads' HO366.out).2.2 | (with_reducible refine zz18 ?_ _) | (with_reducible refine zz19 ?_ _) | (with_reducible refine zz20 ?_)));(case side4=>exact (Kd.R_reads' HO366.out).2.1);rintro e w88 ⟨v368,rfl,ho0,hb⟩;refine ⟨_,rfl,?_⟩;have n0_:=zz31 (Kd.R_elder' (by (with_reducible repeat (first | apply zz12 | apply zz13 | apply zz14));exact HO_6.out) (Kd.R_base ho0) hb);have n1_:=zz31 (Kd.R_elder' (by (with_reducible repeat (first | apply zz12 | apply zz13 | apply zz14));exact HO_10.out) (Kd.R_base ho0) hb);have n2_:=zz31 (Kd.R_below (by (with_reducible repeat (first | apply zz12 | apply zz13 | apply zz14));exact HO_335001.out) hb);have n3_:=zz31 (Kd.R_below (by (with_reducible repeat (first | apply zz12 | apply zz13 | apply zz14));exact HO363.out) hb);have n4_:=zz31 (Kd.R_elder' (by (with_reducible repeat (first | apply zz12 | apply zz13 | apply zz14));exact HO366.out) (Kd.R_base ho0) hb);have n5_:=zz31 (Kd.R_lower (Kd.R_new' (Kd.R_new' (Kd.R_new' ho0 (Kd.R_lt (by (with_reducible repeat (first | apply zz12 | apply zz13 | apply zz14));exact HO_6.out))) (Kd.R_lt (by (with_reducible repeat (first | apply zz12 | apply zz13 | apply zz14));exact HO_10.out))) (Kd.R_lt (by (with_reducible repeat (first | apply zz12 | apply zz13 | apply zz14));exact HO366.out))) (zz5 (by repeat first | exact HB.out | apply zz2 | apply zz0 | apply zz1 | refine zz3 ?_ GE317.out | refine zz3 ?_ GE334.out)));have n6_:=zz31 (zz11 (g:=gb317) (o:=.cells #[.int .i64 a0_0,.slice A0_1 l0_1.length c0_1] 24 (0,0)) (by (with_reducible repeat (first | refine zz6 ?_ _ | refine zz7 ?_ | refine zz8 ?_ _));exact BK317.out) hb);have n7_:=zz31 (zz11 (g:=gb334) (o:=.cells #[.int .i64 t330,.slice Ao31 t353.length co31] 31 (0,0)) (by (with_reducible repeat (first | refine zz6 ?_ _ | refine zz7 ?_ | refine zz8 ?_ _));exact BK334.out) hb);have n8_:=zz31 (zz4 (by repeat first | exact HB.out | apply zz2 | apply zz0 | apply zz1 | refine zz3 ?_ GE317.out | refine zz3 ?_ GE334.out) hb);clear HO_6;clear HO_10;clear HO_335001;clear HO363;clear HO366;clear BK317;clear BK334;clear HB;have HO_6:=n0_;have HO_10:=n1_;have HO_335001:=n2_;have HO363:=n3_;have HO366:=n4_;have HO369:=n5_;have BK317:=n6_;have BK334:=n7_;have HB:=n8_;clear n0_ n1_ n2_ n3_ n4_ n5_ n6_ n7_ n8_;(try clear hb);(try clear hb2);(try clear hk);(try clear hi);(try clear ho0)))
             (try simp only [Act.put,zz21,zz22,zz23])
             go_cut [108] (fun v108 wc=>∃ (kq:Nat) (x108_78:Bool),v108=.bool x108_78∧Aside0 (laws_FnExactGrowGroup.j2 kq t358 t357 x108_78=some r)∧Aside0 (kq≤kj50)∧Aside0 (Kd.R (Kd.int .i64) 3 wc w.heap.size (fun _=>True) (.slice Ao80 t338.length co80) t358)∧Aside0 (Kd.R k79 79 wc w.heap.size (fun _=>True) (.slice Ao31 t353.length co31) t353)∧Aside0 (wc.heap[gb317]?=some (.cells #[.int .i64 a0_0,(.slice A0_1 l0_1.length c0_1)] 24 (0,0)))∧Aside0 (wc.heap[gb334]?=some (.cells #[.int .i64 t330,(.slice Ao31 t353.length co31)] 31 (0,0)))∧Aside0 (Below w.heap.size w wc))
             case first =>
              have H:=HC79.out
              clear HC79
              replace H:=zz30.mp H
              obtain ⟨t371,A890,H⟩:=H
              replace H:(if t371=true then (laws_FnExactGrowGroup.j2 kj50 t358 t357 (t370 != t329)) else (laws_FnExactGrowGroup.j2 kj50 t358 t357 true))=some r:=H
              have A89:=zz31 A890
              clear A890
              by_cases c90:t371=true
              ·subst c90
               have H1:(laws_FnExactGrowGroup.j2 kj50 t358 t357 (t370 != t329))=some r:=by rw [if_pos rfl] at H;exact H
               clear H
               have H:=H1
               clear H1
               have H':=zz31 H
               clear H
               obtain ⟨Ao91,co91,eo91⟩:=Kd.R_slice HO369.out
               subst eo91
               obtain ⟨Ao92,co92,eo92⟩:=Kd.R_slice HO_6.out
               subst eo92
               go_wp2_with (first | ((with_reducible refine gate_callee (f:=14) rfl ?_);refine goesL_ (some 102) rfl rfl Try.func14 (by kernel_rfl) rfl #[.slice Ao91 t367.length co91,.slice Ao92 t326.length co92] rfl (by (try simp only [zz26,zz27,zz28]);first | done | rfl | (simp only [zz24,zz25];rfl)) ?_;(with_reducible refine (laws_eqIntS.calls kj50 _ _ t367 _ _ t326 true _ ?side1 ?side2 ?side3 ?side4 A89.out).mono ?_);(case side1=>repeat (first | exact (Kd.R_reads' HO369.out).2.2 | (with_reducible refine zz18 ?_ _) | (with_reducible refine zz19 ?_ _) | (with_reducible refine zz20 ?_)));(case side2=>exact (Kd.R_reads' HO369.out).2.1);(case side3=>repeat (first | exact (Kd.R_reads' HO_6.out).2.2 | (with_reducible refine zz18 ?_ _) | (with_reducible refine zz19 ?_ _) | (with_reducible refine zz20 ?_)));(case side4=>exact (Kd.R_reads' HO_6.out).2.1);rintro e w' ⟨rfl,⟨nd,rfl⟩⟩;refine ⟨_,rfl,?_⟩))
               go_meet
               case rel=>exact ⟨_,((t370 != t329)),(by first | rfl | (simp;done) | (simp [*];done)),H',⟨by have:=HJ15.out;have:=HJ50.out;first | omega | exact Nat.le_refl _⟩,⟨by (try simp only [hl335001_50]);(with_reducible repeat (first | apply zz12 | apply zz13 | apply zz14));exact Kd.R_mono HO_10.out (fun _ hk=>trivial)⟩,⟨by (try simp only [hl335001_50]);(with_reducible repeat (first | apply zz12 | apply zz13 | apply zz14));exact Kd.R_mono HO_335001.out (fun _ hk=>trivial)⟩,⟨by (try simp only [hl335001_50]);(with_reducible repeat (first | refine zz6 ?_ _ | refine zz7 ?_ | refine zz8 ?_ _));exact BK317.out⟩,⟨by (try simp only [hl335001_50]);(with_reducible repeat (first | refine zz6 ?_ _ | refine zz7 ?_ | refine zz8 ?_ _));exact BK334.out⟩,⟨by repeat first | exact HB.out | apply zz2 | apply zz0 | apply zz1 | refine zz3 ?_ GE317.out | refine zz3 ?_ GE334.out⟩⟩
              ·replace c90:=Bool.eq_false_iff.mpr c90
               subst c90
               have H1:(laws_FnExactGrowGroup.j2 kj50 t358 t357 true)=some r:=by rw [if_neg (show ¬ (false=true) by decide)] at H;exact H
               clear H
               have H:=H1
               clear H1
               have H':=zz31 H
               clear H
               obtain ⟨Ao93,co93,eo93⟩:=Kd.R_slice HO369.out
               subst eo93
               obtain ⟨Ao94,co94,eo94⟩:=Kd.R_slice HO_6.out
               subst eo94
               go_wp2_with (first | ((with_reducible refine gate_callee (f:=14) rfl ?_);refine goesL_ (some 102) rfl rfl Try.func14 (by kernel_rfl) rfl #[.slice Ao93 t367.length co93,.slice Ao94 t326.length co94] rfl (by (try simp only [zz26,zz27,zz28]);first | done | rfl | (simp only [zz24,zz25];rfl)) ?_;(with_reducible refine (laws_eqIntS.calls kj50 _ _ t367 _ _ t326 false _ ?side1 ?side2 ?side3 ?side4 A89.out).mono ?_);(case side1=>repeat (first | exact (Kd.R_reads' HO369.out).2.2 | (with_reducible refine zz18 ?_ _) | (with_reducible refine zz19 ?_ _) | (with_reducible refine zz20 ?_)));(case side2=>exact (Kd.R_reads' HO369.out).2.1);(case side3=>repeat (first | exact (Kd.R_reads' HO_6.out).2.2 | (with_reducible refine zz18 ?_ _) | (with_reducible refine zz19 ?_ _) | (with_reducible refine zz20 ?_)));(case side4=>exact (Kd.R_reads' HO_6.out).2.1);rintro e w' ⟨rfl,⟨nd,rfl⟩⟩;refine ⟨_,rfl,?_⟩))
               go_meet
               case rel=>exact ⟨_,(true),(by first | rfl | (simp;done) | (simp [*];done)),H',⟨by have:=HJ15.out;have:=HJ50.out;first | omega | exact Nat.le_refl _⟩,⟨by (try simp only [hl335001_50]);(with_reducible repeat (first | apply zz12 | apply zz13 | apply zz14));exact Kd.R_mono HO_10.out (fun _ hk=>trivial)⟩,⟨by (try simp only [hl335001_50]);(with_reducible repeat (first | apply zz12 | apply zz13 | apply zz14));exact Kd.R_mono HO_335001.out (fun _ hk=>trivial)⟩,⟨by (try simp only [hl335001_50]);(with_reducible repeat (first | refine zz6 ?_ _ | refine zz7 ?_ | refine zz8 ?_ _));exact BK317.out⟩,⟨by (try simp only [hl335001_50]);(with_reducible repeat (first | refine zz6 ?_ _ | refine zz7 ?_ | refine zz8 ?_ _));exact BK334.out⟩,⟨by repeat first | exact HB.out | apply zz2 | apply zz0 | apply zz1 | refine zz3 ?_ GE317.out | refine zz3 ?_ GE334.out⟩⟩
             case rest =>
              clear HC79
              try clear c1
              try clear c2
              try clear p2
              try clear c3
              try clear c3b0
              try clear c3b1
              try clear c4
              try clear c5
              try clear c6
              try clear c6b0
              try clear c7
              try clear c8
              try clear c9
              try clear c10
              try clear c11
              try clear c12
              try clear c13
              try clear c14
              try clear c15
              try clear c16
              try clear c17
              try clear c18
              try clear c29
              try clear c37
              try clear c42
              try clear c45
              try clear c48
              try clear c58
              try clear c62
              try clear c62b0
              try clear c64
              try clear c69
              try clear c72
              try clear c72b0
              try clear c75
              try clear c75b0
              try clear c75b1
              try clear c82
              try clear c90
              try clear hcz18_0
              try clear hcz18_1
              try clear hcz20_0
              try clear hcz20_1
              try clear hcz26_0
              try clear hcz26_1
              try clear hcz30_0
              try clear hcz30_1
              try clear hcz33_0
              try clear hcz33_1
              try clear hcz59_0
              try clear hcz59_1
              try clear hcz83_0
              try clear hcz83_1
              try clear hcz8_0
              try clear hcz8_1
              try clear hfz18_0
              try clear hfz18_1
              try clear hfz20_0
              try clear hfz20_1
              try clear hfz26_0
              try clear hfz26_1
              try clear hfz30_0
              try clear hfz30_1
              try clear hfz33_0
              try clear hfz33_1
              try clear hfz59_0
              try clear hfz59_1
              try clear hfz83_0
              try clear hfz83_1
              try clear hfz8_0
              try clear hfz8_1
              try clear p2
              obtain ⟨kq,x108_78,rfl,HA,HJ78,HO_10,HO_335001,BK317,BK334,HB⟩:=hcut
              have hl10_78:=(Kd.R_reads' HO_10.out).1
              rw [hl10_78] at HO_10
              (try simp only [hl10_78])
              (try simp only [hl10_78] at BK317)
              (try simp only [hl10_78] at BK334)
              (try simp only [hl10_78] at HO_335001)
              cases kq with
              | zero=>exact absurd HA.out (by simp [laws_FnExactGrowGroup.j2])
              | succ kj78 =>
               have H:=HA.out
               clear HA
               simp only [laws_FnExactGrowGroup.j2] at H
               by_cases c95:x108_78=true
               ·subst c95
                have H1:(some false)=some r:=by rw [if_pos rfl] at H;exact H
                clear H
                have H:=H1
                clear H1
                obtain rfl:=Option.some.inj H
                go_wp2
                go_ret
                exact ⟨by first | rfl | (simp [errW_none,errW_some] <;> rfl) | (simp [*,errW_none,errW_some] <;> rfl),by repeat first | exact HB.out | apply zz2 | apply zz0 | apply zz1 | refine zz3 ?_ GE317.out | refine zz3 ?_ GE334.out⟩
               ·replace c95:=Bool.eq_false_iff.mpr c95
                subst c95
                have H1:((laws_heldIntS.f kj78 t358 1).bind fun t372=>(if t372 < 0 then (some false) else (if t372=t357 then (some true) else (some false))))=some r:=by rw [if_neg (show ¬ (false=true) by decide)] at H;exact H
                clear H
                have H:=H1
                clear H1
                replace H:=zz30.mp H
                obtain ⟨t372,A960,H⟩:=H
                replace H:(if t372 < 0 then (some false) else (if t372=t357 then (some true) else (some false)))=some r:=H
                have A96:=zz31 A960
                clear A960
                by_cases c97:t372 < 0
                ·rw [if_pos c97] at H
                 have c97b0:decide (t372 < 0)=true:=decide_eq_true c97
                 clear c97
                 obtain rfl:=Option.some.inj H
                 go_wp2_with (first | ((with_reducible refine gate_callee (f:=18) rfl ?_);refine goesL_ (some 111) rfl rfl Try.func18 (by kernel_rfl) rfl #[.slice Ao80 t358.length co80,.int .i64 1] rfl (by (try simp only [zz26,zz27,zz28]);first | done | rfl | (simp only [zz24,zz25];rfl)) ?_;(with_reducible refine (laws_heldIntS.calls kj78 _ _ t358 1 t372 _ ?side1 ?side2 A96.out).mono ?_);(case side1=>repeat (first | exact (Kd.R_reads' HO_10.out).2.2 | (with_reducible refine zz18 ?_ _) | (with_reducible refine zz19 ?_ _) | (with_reducible refine zz20 ?_)));(case side2=>exact (Kd.R_reads' HO_10.out).2.1);rintro e w' ⟨rfl,⟨nd,rfl⟩⟩;refine ⟨_,rfl,?_⟩))
                 go_ret
                 exact ⟨by first | rfl | (simp [errW_none,errW_some] <;> rfl) | (simp [*,errW_none,errW_some] <;> rfl),by repeat first | exact HB.out | apply zz2 | apply zz0 | apply zz1 | refine zz3 ?_ GE317.out | refine zz3 ?_ GE334.out⟩
                ·rw [if_neg c97] at H
                 have c97b0:decide (t372 < 0)=false:=decide_eq_false c97
                 clear c97
                 by_cases c98:t372=t357
                 ·rw [if_pos c98] at H
                  have c98b0:(t372 == t357)=true:=beq_iff_eq.mpr c98
                  have c98b1:(t372 != t357)=false:=bne_eq_false_iff_eq.mpr c98
                  clear c98
                  obtain rfl:=Option.some.inj H
                  go_wp2_with (first | ((with_reducible refine gate_callee (f:=18) rfl ?_);refine goesL_ (some 111) rfl rfl Try.func18 (by kernel_rfl) rfl #[.slice Ao80 t358.length co80,.int .i64 1] rfl (by (try simp only [zz26,zz27,zz28]);first | done | rfl | (simp only [zz24,zz25];rfl)) ?_;(with_reducible refine (laws_heldIntS.calls kj78 _ _ t358 1 t372 _ ?side1 ?side2 A96.out).mono ?_);(case side1=>repeat (first | exact (Kd.R_reads' HO_10.out).2.2 | (with_reducible refine zz18 ?_ _) | (with_reducible refine zz19 ?_ _) | (with_reducible refine zz20 ?_)));(case side2=>exact (Kd.R_reads' HO_10.out).2.1);rintro e w' ⟨rfl,⟨nd,rfl⟩⟩;refine ⟨_,rfl,?_⟩))
                  go_ret
                  exact ⟨by first | rfl | (simp [errW_none,errW_some] <;> rfl) | (simp [*,errW_none,errW_some] <;> rfl),by repeat first | exact HB.out | apply zz2 | apply zz0 | apply zz1 | refine zz3 ?_ GE317.out | refine zz3 ?_ GE334.out⟩
                 ·rw [if_neg c98] at H
                  have c98b0:(t372 == t357)=false:=beq_eq_false_iff_ne.mpr c98
                  have c98b1:(t372 != t357)=true:=bne_iff_ne.mpr c98
                  obtain rfl:=Option.some.inj H
                  go_wp2_with (first | ((with_reducible refine gate_callee (f:=18) rfl ?_);refine goesL_ (some 111) rfl rfl Try.func18 (by kernel_rfl) rfl #[.slice Ao80 t358.length co80,.int .i64 1] rfl (by (try simp only [zz26,zz27,zz28]);first | done | rfl | (simp only [zz24,zz25];rfl)) ?_;(with_reducible refine (laws_heldIntS.calls kj78 _ _ t358 1 t372 _ ?side1 ?side2 A96.out).mono ?_);(case side1=>repeat (first | exact (Kd.R_reads' HO_10.out).2.2 | (with_reducible refine zz18 ?_ _) | (with_reducible refine zz19 ?_ _) | (with_reducible refine zz20 ?_)));(case side2=>exact (Kd.R_reads' HO_10.out).2.1);rintro e w' ⟨rfl,⟨nd,rfl⟩⟩;refine ⟨_,rfl,?_⟩))
                  go_ret
                  exact ⟨by first | rfl | (simp [errW_none,errW_some] <;> rfl) | (simp [*,errW_none,errW_some] <;> rfl),by repeat first | exact HB.out | apply zz2 | apply zz0 | apply zz1 | refine zz3 ?_ GE317.out | refine zz3 ?_ GE334.out⟩
            ·rw [if_neg c75] at H
             have c75b0:(t359 == t357)=false:=beq_eq_false_iff_ne.mpr c75
             have c75b1:(t359 != t357)=true:=bne_iff_ne.mpr c75
             obtain rfl:=Option.some.inj H
             obtain ⟨Ao99,co99,eo99⟩:=Kd.R_slice HO_10.out
             subst eo99
             go_wp2_with (first | ((with_reducible refine gate_callee (f:=17) rfl ?_);refine goesL_ (some 83) rfl rfl Try.func17 (by kernel_rfl) rfl #[.slice Ao99 t338.length co99,.int .i64 1] rfl (by (try simp only [zz26,zz27,zz28]);first | done | rfl | (simp only [zz24,zz25];rfl)) ?_;(with_reducible refine (laws_markIntS.calls kj50 (fun k_=>some k_=(.slice Ao99 t338.length co99:Value).ownBlock) (.slice Ao99 t338.length co99) t338 1 t357 t358 w _ ?side1 ?side2 A70.out).mono ?_);(case side1=>repeat first | exact HB.out | apply zz2 | apply zz0 | apply zz1 | refine zz3 ?_ GE317.out | refine zz3 ?_ GE334.out);(case side2=>exact Kd.R_tight rfl HO_10.out);rintro e w100 ⟨rfl,hy0,hb,hkp⟩;refine ⟨_,rfl,?_⟩;have n0_:=zz31 (Kd.R_mono (ok':=fun k_=>some k_ ≠ (.slice Ao99 t338.length co99:Value).ownBlock) (Kd.R_keptB (HO_6.out) hkp (fun k_ hk_ hs_=>(hk_) hs_)) (fun k_ hk_=>hk_.1));have n1_:=zz31 (Kd.R_reok rfl hy0 (fun k_ e_=>HO_10.out.1 k_ e_));have n2_:=zz31 (Kd.R_mono (ok':=fun k_=>True) (Kd.R_keptB ((Kd.R_apart' HO_335001.out (Kd.R_typed HO_10.out) (by decide))) hkp (fun k_ hk_ hs_=>(hk_.2) hs_)) (fun k_ hk_=>trivial));have n3_:=zz31 (blk_kept (by (with_reducible repeat (first | refine zz6 ?_ _ | refine zz7 ?_ | refine zz8 ?_ _));exact BK317.out) hkp (fun hs_=>(fun e_=>(Kd.R_ne HO_10.out BK317.out (by decide)) e_) hs_));have n4_:=zz31 (blk_kept (by (with_reducible repeat (first | refine zz6 ?_ _ | refine zz7 ?_ | refine zz8 ?_ _));exact BK334.out) hkp (fun hs_=>(fun e_=>(Kd.R_ne HO_10.out BK334.out (by decide)) e_) hs_));have n5_:=zz31 (hb);clear HO_6;clear HO_10;clear HO_335001;clear BK317;clear BK334;clear HB;have HO_6:=n0_;have HO_10:=n1_;have HO_335001:=n2_;have BK317:=n3_;have BK334:=n4_;have HB:=n5_;clear n0_ n1_ n2_ n3_ n4_ n5_;(try clear hb);(try clear hkp);(try clear hy0)) | ((with_reducible refine gate_callee (f:=18) rfl ?_);refine goesL_ (some 86) rfl rfl Try.func18 (by kernel_rfl) rfl #[.slice Ao99 t358.length co99,.int .i64 1] rfl (by (try simp only [zz26,zz27,zz28]);first | done | (rw [show t358.length=t338.length from (Kd.R_reads' HO_10.out).1.symm] <;> rfl) | rfl | (simp only [zz24,zz25];rfl)) ?_;(with_reducible refine (laws_heldIntS.calls kj50 _ _ t358 1 t359 _ ?side1 ?side2 A71.out).mono ?_);(case side1=>repeat (first | exact (Kd.R_reads' HO_10.out).2.2 | (with_reducible refine zz18 ?_ _) | (with_reducible refine zz19 ?_ _) | (with_reducible refine zz20 ?_)));(case side2=>rw [show t358.length=t338.length from (Kd.R_reads' HO_10.out).1.symm];exact (Kd.R_reads' HO_10.out).2.1);rintro e w' ⟨rfl,⟨nd,rfl⟩⟩;refine ⟨_,rfl,?_⟩))
             go_ret
             exact ⟨by first | rfl | (simp [errW_none,errW_some] <;> rfl) | (simp [*,errW_none,errW_some] <;> rfl),by repeat first | exact HB.out | apply zz2 | apply zz0 | apply zz1 | refine zz3 ?_ GE317.out | refine zz3 ?_ GE334.out⟩
       ·replace c48:=Bool.eq_false_iff.mpr c48
        subst c48
        have H1:(some false)=some r:=by rw [if_neg (show ¬ (false=true) by decide)] at H;exact H
        clear H
        have H:=H1
        clear H1
        obtain rfl:=Option.some.inj H
        try go_wp2
        have n0_:=zz31 (zz14 HO_6.out)
        have n1_:=zz31 (zz14 HO_9.out)
        have n2_:=zz31 (zz14 HO_10.out)
        have n3_:=zz31 (zz14 HO_335001.out)
        have n4_:=zz31 (zz7 BK317.out)
        have n5_:=zz31 (zz7 BK334.out)
        have n6_:=zz31 (zz1 HB.out)
        clear HO_6
        clear HO_9
        clear HO_10
        clear HO_335001
        clear BK317
        clear BK334
        clear HB
        have HO_6:=n0_
        have HO_9:=n1_
        have HO_10:=n2_
        have HO_335001:=n3_
        have BK317:=n4_
        have BK334:=n5_
        have HB:=n6_
        clear n0_ n1_ n2_ n3_ n4_ n5_ n6_
        refine start_ (n:=5) (S:=fun w'=>w'.cell? ⟨gb334,0,none⟩=some (.int .i64 t330)∧w'.cell? ⟨gb334,1,none⟩=some (.slice Ao31 t331.length co31)∧w'.cell? ⟨gb317,0,none⟩=some (.int .i64 a0_0)∧w'.cell? ⟨gb317,1,none⟩=some (.slice A0_1 l0_1.length c0_1)) (ds:=[]) #[F,F,F,F,F] (by kernel_rfl) rfl rfl ⟨(zz9 BK334.out 0).trans rfl,(zz9 BK334.out 1).trans rfl,(zz9 BK317.out 0).trans rfl,(zz9 BK317.out 1).trans rfl⟩ (fun hHeld=>?_)
        generalize wc.drew=w101 at HO_6 HO_9 HO_10 HO_335001 BK317 BK334 HB hHeld ⊢
        refine take_ (i:=0) (N:=some 52) (v:=?_) (a':=?_) #[T,F,F,F,F] rfl rfl (by kernel_rfl) (fun _ _ _ h=>h) (Or.inl ⟨by rfl,?_⟩) hHeld ?_ ?_
        rotate_left
        ·rintro w' ⟨s0,s1,s2,s3⟩
         go_simp
         with_reducible rfl
        rotate_left
        ·simp only [Act.put,zz21,zz22,zz23,i64_w,i32_w]
         rfl
        refine take_ (i:=1) (N:=some 53) (v:=?_) (a':=?_) #[T,T,F,F,F] rfl rfl (by kernel_rfl) (fun _ _ _ h=>h) (Or.inl ⟨by rfl,?_⟩) hHeld ?_ ?_
        rotate_left
        ·rintro w' ⟨s0,s1,s2,s3⟩
         go_simp
         with_reducible rfl
        rotate_left
        ·simp only [Act.put,zz21,zz22,zz23,i64_w,i32_w]
         rfl
        refine one_ (i:=2) (N:=some 54) #[T,T,T,F,F] rfl rfl (by kernel_rfl) (by decide) (fun K hK=>?_)
        refine goes_ Try.func11 (by kernel_rfl) rfl #[.agg #[.int .i64 a0_0,.slice A0_1 l0_1.length c0_1]] (by rfl) rfl rfl (by (try simp only [zz26,zz27,zz28]);first | done | rfl | (simp only [zz24,zz25];rfl)) ?_
        with_reducible refine (laws_toParty.calls kj15 a0_0 _ _ l0_1 t343 t344 _ ?side1 ?side2 A43.out).mono ?_
        (case side1=>repeat (first | exact (Kd.C_below HR0_1.out HB.out) | (with_reducible refine zz18 ?_ _) | (with_reducible refine zz19 ?_ _) | (with_reducible refine zz20 ?_)))
        (case side2=>exact HC0_1.out)
        rintro e w102 ⟨v345,rfl,ho0,hb⟩
        refine ⟨_,rfl,?_⟩
        have n0_:=zz31 (Kd.R_below (by (with_reducible repeat (first | apply zz12 | apply zz13 | apply zz14));exact HO_6.out) hb)
        have n1_:=zz31 (Kd.R_below (by (with_reducible repeat (first | apply zz12 | apply zz13 | apply zz14));exact HO_9.out) hb)
        have n2_:=zz31 (Kd.R_below (by (with_reducible repeat (first | apply zz12 | apply zz13 | apply zz14));exact HO_10.out) hb)
        have n3_:=zz31 (Kd.R_elder' (by (with_reducible repeat (first | apply zz12 | apply zz13 | apply zz14));exact HO_335001.out) (Kd.R_base ho0) hb)
        have n4_:=zz31 (Kd.R_lower (Kd.R_new' ho0 (Kd.R_lt (by (with_reducible repeat (first | apply zz12 | apply zz13 | apply zz14));exact HO_335001.out))) (zz5 (by repeat first | exact HB.out | apply zz2 | apply zz0 | apply zz1 | refine zz3 ?_ GE317.out | refine zz3 ?_ GE334.out)))
        have n5_:=zz31 (zz11 (g:=gb317) (o:=.cells #[.int .i64 a0_0,.slice A0_1 l0_1.length c0_1] 24 (0,0)) (by (with_reducible repeat (first | refine zz6 ?_ _ | refine zz7 ?_ | refine zz8 ?_ _));exact BK317.out) hb)
        have n6_:=zz31 (zz11 (g:=gb334) (o:=.cells #[.int .i64 t330,.slice Ao31 t331.length co31] 31 (0,0)) (by (with_reducible repeat (first | refine zz6 ?_ _ | refine zz7 ?_ | refine zz8 ?_ _));exact BK334.out) hb)
        have n7_:=zz31 (zz4 (by repeat first | exact HB.out | apply zz2 | apply zz0 | apply zz1 | refine zz3 ?_ GE317.out | refine zz3 ?_ GE334.out) hb)
        clear HO_6
        clear HO_9
        clear HO_10
        clear HO_335001
        clear BK317
        clear BK334
        clear HB
        have HO_6:=n0_
        have HO_9:=n1_
        have HO_10:=n2_
        have HO_335001:=n3_
        have HO346:=n4_
        have BK317:=n5_
        have BK334:=n6_
        have HB:=n7_
        clear n0_ n1_ n2_ n3_ n4_ n5_ n6_ n7_
        (try clear hb)
        (try clear hb2)
        (try clear hk)
        (try clear hi)
        (try clear ho0)
        obtain ⟨Ao103,co103,eo103⟩:=Kd.R_slice HO346.out
        (first | subst eo103 | (injection eo103 with f1_ f2_ f3_;have f4_:=f1_.symm;have f5_:=f3_.symm;clear f1_ f2_ f3_;subst f4_;subst f5_))
        refine hK.out _ _ ⟨(zz9 BK334.out 0).trans rfl,(zz9 BK334.out 1).trans rfl,(zz9 BK317.out 0).trans rfl,(zz9 BK317.out 1).trans rfl⟩ (fun hHeld=>?_)
        clear hK K
        refine norm_ (a':=?_) ?_ ?_
        rotate_left
        ·show Act.put _ (some 54) _=_
         simp only [Act.put,zz21,zz22,zz23,i64_w,i32_w]
         rfl
        refine one_ (i:=3) (N:=some 55) #[T,T,T,T,F] rfl rfl (by kernel_rfl) (by decide) (fun K hK=>?_)
        refine goes_ Try.func15 (by kernel_rfl) rfl #[.agg #[.int .i64 t330,.slice Ao31 t331.length co31],.agg #[.int .i64 t343,.slice Ao103 t344.length co103]] (by rfl) rfl rfl (by (try simp only [zz26,zz27,zz28]);first | done | rfl | (simp only [zz24,zz25];rfl)) ?_
        with_reducible refine (laws_eqParty.calls kj15 t330 _ _ t331 t343 _ _ t344 true _ ?side1 ?side2 ?side3 ?side4 A44.out).mono ?_
        (case side1=>repeat (first | exact (Kd.R_reads' HO_335001.out).2.2 | (with_reducible refine zz18 ?_ _) | (with_reducible refine zz19 ?_ _) | (with_reducible refine zz20 ?_)))
        (case side2=>exact (Kd.R_reads' HO_335001.out).2.1)
        (case side3=>repeat (first | exact (Kd.R_reads' HO346.out).2.2 | (with_reducible refine zz18 ?_ _) | (with_reducible refine zz19 ?_ _) | (with_reducible refine zz20 ?_)))
        (case side4=>exact (Kd.R_reads' HO346.out).2.1)
        rintro e w104 ⟨rfl,hb⟩
        refine ⟨_,rfl,?_⟩
        have n0_:=zz31 (Kd.R_below (by (with_reducible repeat (first | apply zz12 | apply zz13 | apply zz14));exact HO_6.out) hb)
        have n1_:=zz31 (Kd.R_below (by (with_reducible repeat (first | apply zz12 | apply zz13 | apply zz14));exact HO_9.out) hb)
        have n2_:=zz31 (Kd.R_below (by (with_reducible repeat (first | apply zz12 | apply zz13 | apply zz14));exact HO_10.out) hb)
        have n3_:=zz31 (Kd.R_below (by (with_reducible repeat (first | apply zz12 | apply zz13 | apply zz14));exact HO_335001.out) hb)
        have n4_:=zz31 (Kd.R_below (by (with_reducible repeat (first | apply zz12 | apply zz13 | apply zz14));exact HO346.out) hb)
        have n5_:=zz31 (zz11 (g:=gb317) (o:=.cells #[.int .i64 a0_0,.slice A0_1 l0_1.length c0_1] 24 (0,0)) (by (with_reducible repeat (first | refine zz6 ?_ _ | refine zz7 ?_ | refine zz8 ?_ _));exact BK317.out) hb)
        have n6_:=zz31 (zz11 (g:=gb334) (o:=.cells #[.int .i64 t330,.slice Ao31 t331.length co31] 31 (0,0)) (by (with_reducible repeat (first | refine zz6 ?_ _ | refine zz7 ?_ | refine zz8 ?_ _));exact BK334.out) hb)
        have n7_:=zz31 (zz4 (by repeat first | exact HB.out | apply zz2 | apply zz0 | apply zz1 | refine zz3 ?_ GE317.out | refine zz3 ?_ GE334.out) hb)
        clear HO_6
        clear HO_9
        clear HO_10
        clear HO_335001
        clear HO346
        clear BK317
        clear BK334
        clear HB
        have HO_6:=n0_
        have HO_9:=n1_
        have HO_10:=n2_
        have HO_335001:=n3_
        have HO346:=n4_
        have BK317:=n5_
        have BK334:=n6_
        have HB:=n7_
        clear n0_ n1_ n2_ n3_ n4_ n5_ n6_ n7_
        (try clear hb)
        (try clear hb2)
        (try clear hk)
        (try clear hi)
        refine hK.out _ _ ⟨(zz9 BK334.out 0).trans rfl,(zz9 BK334.out 1).trans rfl,(zz9 BK317.out 0).trans rfl,(zz9 BK317.out 1).trans rfl⟩ (fun hHeld=>?_)
        clear hK K
        refine norm_ (a':=?_) ?_ ?_
        rotate_left
        ·show Act.put _ (some 55) _=_
         simp only [Act.put,zz21,zz22,zz23,i64_w,i32_w]
         rfl
        refine pure_ (i:=4) (N:=some 56) (v:=?_) (a':=?_) #[T,T,T,T,T] rfl rfl (by kernel_rfl) (fun _ _ _ h=>h) (Or.inl ⟨by rfl,?_⟩) ?_ ?_
        rotate_left
        ·intro w'
         go_simp
         with_reducible rfl
        rotate_left
        ·simp only [Act.put,zz21,zz22,zz23,i64_w,i32_w]
         rfl
        refine done_ (by kernel_rfl) ?_
        try go_wp2_with (first | ((with_reducible refine gate_callee (f:=12) rfl ?_);refine goesL_ (some 59) rfl rfl Try.func12 (by kernel_rfl) rfl #[.slice A1 l1.length c1] rfl (by (try simp only [zz26,zz27,zz28]);first | done | rfl | (simp only [zz24,zz25];rfl)) ?_;(with_reducible refine (laws_toIntS.calls kj15 _ _ l1 t348 _ ?side1 ?side2 A46.out).mono ?_);(case side1=>repeat (first | exact (Kd.C_below HR1.out HB.out) | (with_reducible refine zz18 ?_ _) | (with_reducible refine zz19 ?_ _) | (with_reducible refine zz20 ?_)));(case side2=>exact HC1.out);rintro e w105 ⟨v349,rfl,ho0,hb⟩;refine ⟨_,rfl,?_⟩;have n0_:=zz31 (Kd.R_elder' (by (with_reducible repeat (first | apply zz12 | apply zz13 | apply zz14));exact HO_6.out) (Kd.R_base ho0) hb);have n1_:=zz31 (Kd.R_elder' (by (with_reducible repeat (first | apply zz12 | apply zz13 | apply zz14));exact HO_9.out) (Kd.R_base ho0) hb);have n2_:=zz31 (Kd.R_elder' (by (with_reducible repeat (first | apply zz12 | apply zz13 | apply zz14));exact HO_10.out) (Kd.R_base ho0) hb);have n3_:=zz31 (Kd.R_below (by (with_reducible repeat (first | apply zz12 | apply zz13 | apply zz14));exact HO_335001.out) hb);have n4_:=zz31 (Kd.R_below (by (with_reducible repeat (first | apply zz12 | apply zz13 | apply zz14));exact HO346.out) hb);have n5_:=zz31 (Kd.R_lower (Kd.R_new' (Kd.R_new' (Kd.R_new' ho0 (Kd.R_lt (by (with_reducible repeat (first | apply zz12 | apply zz13 | apply zz14));exact HO_6.out))) (Kd.R_lt (by (with_reducible repeat (first | apply zz12 | apply zz13 | apply zz14));exact HO_9.out))) (Kd.R_lt (by (with_reducible repeat (first | apply zz12 | apply zz13 | apply zz14));exact HO_10.out))) (zz5 (by repeat first | exact HB.out | apply zz2 | apply zz0 | apply zz1 | refine zz3 ?_ GE317.out | refine zz3 ?_ GE334.out)));have n6_:=zz31 (zz11 (g:=gb317) (o:=.cells #[.int .i64 a0_0,.slice A0_1 l0_1.length c0_1] 24 (0,0)) (by (with_reducible repeat (first | refine zz6 ?_ _ | refine zz7 ?_ | refine zz8 ?_ _));exact BK317.out) hb);have n7_:=zz31 (zz11 (g:=gb334) (o:=.cells #[.int .i64 t330,.slice Ao31 t331.length co31] 31 (0,0)) (by (with_reducible repeat (first | refine zz6 ?_ _ | refine zz7 ?_ | refine zz8 ?_ _));exact BK334.out) hb);have n8_:=zz31 (zz4 (by repeat first | exact HB.out | apply zz2 | apply zz0 | apply zz1 | refine zz3 ?_ GE317.out | refine zz3 ?_ GE334.out) hb);clear HO_6;clear HO_9;clear HO_10;clear HO_335001;clear HO346;clear BK317;clear BK334;clear HB;have HO_6:=n0_;have HO_9:=n1_;have HO_10:=n2_;have HO_335001:=n3_;have HO346:=n4_;have HO350:=n5_;have BK317:=n6_;have BK334:=n7_;have HB:=n8_;clear n0_ n1_ n2_ n3_ n4_ n5_ n6_ n7_ n8_;(try clear hb);(try clear hb2);(try clear hk);(try clear hi);(try clear ho0);obtain ⟨Ao106,co106,eo106⟩:=Kd.R_slice HO350.out;subst eo106) | ((with_reducible refine gate_callee (f:=14) rfl ?_);refine goesL_ (some 60) rfl rfl Try.func14 (by kernel_rfl) rfl #[.slice Ao34 t335.length co34,.slice Ao106 t348.length co106] rfl (by (try simp only [zz26,zz27,zz28]);first | done | rfl | (simp only [zz24,zz25];rfl)) ?_;(with_reducible refine (laws_eqIntS.calls kj15 _ _ t335 _ _ t348 false _ ?side1 ?side2 ?side3 ?side4 A47.out).mono ?_);(case side1=>repeat (first | exact (Kd.R_reads' HO_9.out).2.2 | (with_reducible refine zz18 ?_ _) | (with_reducible refine zz19 ?_ _) | (with_reducible refine zz20 ?_)));(case side2=>exact (Kd.R_reads' HO_9.out).2.1);(case side3=>repeat (first | exact (Kd.R_reads' HO350.out).2.2 | (with_reducible refine zz18 ?_ _) | (with_reducible refine zz19 ?_ _) | (with_reducible refine zz20 ?_)));(case side4=>exact (Kd.R_reads' HO350.out).2.1);rintro e w' ⟨rfl,⟨nd,rfl⟩⟩;refine ⟨_,rfl,?_⟩))
        go_ret
        exact ⟨by first | rfl | (simp [errW_none,errW_some] <;> rfl) | (simp [*,errW_none,errW_some] <;> rfl),by repeat first | exact HB.out | apply zz2 | apply zz0 | apply zz1 | refine zz3 ?_ GE317.out | refine zz3 ?_ GE334.out⟩
      ·replace c45:=Bool.eq_false_iff.mpr c45
       subst c45
       have H1:(some false)=some r:=by rw [if_neg (show ¬ (false=true) by decide)] at H;exact H
       clear H
       have H:=H1
       clear H1
       obtain rfl:=Option.some.inj H
       try go_wp2
       have n0_:=zz31 (zz14 HO_6.out)
       have n1_:=zz31 (zz14 HO_9.out)
       have n2_:=zz31 (zz14 HO_10.out)
       have n3_:=zz31 (zz14 HO_335001.out)
       have n4_:=zz31 (zz7 BK317.out)
       have n5_:=zz31 (zz7 BK334.out)
       have n6_:=zz31 (zz1 HB.out)
       clear HO_6
       clear HO_9
       clear HO_10
       clear HO_335001
       clear BK317
       clear BK334
       clear HB
       have HO_6:=n0_
       have HO_9:=n1_
       have HO_10:=n2_
       have HO_335001:=n3_
       have BK317:=n4_
       have BK334:=n5_
       have HB:=n6_
       clear n0_ n1_ n2_ n3_ n4_ n5_ n6_
       refine start_ (n:=5) (S:=fun w'=>w'.cell? ⟨gb334,0,none⟩=some (.int .i64 t330)∧w'.cell? ⟨gb334,1,none⟩=some (.slice Ao31 t331.length co31)∧w'.cell? ⟨gb317,0,none⟩=some (.int .i64 a0_0)∧w'.cell? ⟨gb317,1,none⟩=some (.slice A0_1 l0_1.length c0_1)) (ds:=[]) #[F,F,F,F,F] (by kernel_rfl) rfl rfl ⟨(zz9 BK334.out 0).trans rfl,(zz9 BK334.out 1).trans rfl,(zz9 BK317.out 0).trans rfl,(zz9 BK317.out 1).trans rfl⟩ (fun hHeld=>?_)
       generalize wc.drew=w107 at HO_6 HO_9 HO_10 HO_335001 BK317 BK334 HB hHeld ⊢
       refine take_ (i:=0) (N:=some 52) (v:=?_) (a':=?_) #[T,F,F,F,F] rfl rfl (by kernel_rfl) (fun _ _ _ h=>h) (Or.inl ⟨by rfl,?_⟩) hHeld ?_ ?_
       rotate_left
       ·rintro w' ⟨s0,s1,s2,s3⟩
        go_simp
        with_reducible rfl
       rotate_left
       ·simp only [Act.put,zz21,zz22,zz23,i64_w,i32_w]
        rfl
       refine take_ (i:=1) (N:=some 53) (v:=?_) (a':=?_) #[T,T,F,F,F] rfl rfl (by kernel_rfl) (fun _ _ _ h=>h) (Or.inl ⟨by rfl,?_⟩) hHeld ?_ ?_
       rotate_left
       ·rintro w' ⟨s0,s1,s2,s3⟩
        go_simp
        with_reducible rfl
       rotate_left
       ·simp only [Act.put,zz21,zz22,zz23,i64_w,i32_w]
        rfl
       refine one_ (i:=2) (N:=some 54) #[T,T,T,F,F] rfl rfl (by kernel_rfl) (by decide) (fun K hK=>?_)
       refine goes_ Try.func11 (by kernel_rfl) rfl #[.agg #[.int .i64 a0_0,.slice A0_1 l0_1.length c0_1]] (by rfl) rfl rfl (by (try simp only [zz26,zz27,zz28]);first | done | rfl | (simp only [zz24,zz25];rfl)) ?_
       with_reducible refine (laws_toParty.calls kj15 a0_0 _ _ l0_1 t343 t344 _ ?side1 ?side2 A43.out).mono ?_
       (case side1=>repeat (first | exact (Kd.C_below HR0_1.out HB.out) | (with_reducible refine zz18 ?_ _) | (with_reducible refine zz19 ?_ _) | (with_reducible refine zz20 ?_)))
       (case side2=>exact HC0_1.out)
       rintro e w108 ⟨v345,rfl,ho0,hb⟩
       refine ⟨_,rfl,?_⟩
       have n0_:=zz31 (Kd.R_below (by (with_reducible repeat (first | apply zz12 | apply zz13 | apply zz14));exact HO_6.out) hb)
       have n1_:=zz31 (Kd.R_below (by (with_reducible repeat (first | apply zz12 | apply zz13 | apply zz14));exact HO_9.out) hb)
       have n2_:=zz31 (Kd.R_below (by (with_reducible repeat (first | apply zz12 | apply zz13 | apply zz14));exact HO_10.out) hb)
       have n3_:=zz31 (Kd.R_elder' (by (with_reducible repeat (first | apply zz12 | apply zz13 | apply zz14));exact HO_335001.out) (Kd.R_base ho0) hb)
       have n4_:=zz31 (Kd.R_lower (Kd.R_new' ho0 (Kd.R_lt (by (with_reducible repeat (first | apply zz12 | apply zz13 | apply zz14));exact HO_335001.out))) (zz5 (by repeat first | exact HB.out | apply zz2 | apply zz0 | apply zz1 | refine zz3 ?_ GE317.out | refine zz3 ?_ GE334.out)))
       have n5_:=zz31 (zz11 (g:=gb317) (o:=.cells #[.int .i64 a0_0,.slice A0_1 l0_1.length c0_1] 24 (0,0)) (by (with_reducible repeat (first | refine zz6 ?_ _ | refine zz7 ?_ | refine zz8 ?_ _));exact BK317.out) hb)
       have n6_:=zz31 (zz11 (g:=gb334) (o:=.cells #[.int .i64 t330,.slice Ao31 t331.length co31] 31 (0,0)) (by (with_reducible repeat (first | refine zz6 ?_ _ | refine zz7 ?_ | refine zz8 ?_ _));exact BK334.out) hb)
       have n7_:=zz31 (zz4 (by repeat first | exact HB.out | apply zz2 | apply zz0 | apply zz1 | refine zz3 ?_ GE317.out | refine zz3 ?_ GE334.out) hb)
       clear HO_6
       clear HO_9
       clear HO_10
       clear HO_335001
       clear BK317
       clear BK334
       clear HB
       have HO_6:=n0_
       have HO_9:=n1_
       have HO_10:=n2_
       have HO_335001:=n3_
       have HO346:=n4_
       have BK317:=n5_
       have BK334:=n6_
       have HB:=n7_
       clear n0_ n1_ n2_ n3_ n4_ n5_ n6_ n7_
       (try clear hb)
       (try clear hb2)
       (try clear hk)
       (try clear hi)
       (try clear ho0)
       obtain ⟨Ao109,co109,eo109⟩:=Kd.R_slice HO346.out
       (first | subst eo109 | (injection eo109 with f1_ f2_ f3_;have f4_:=f1_.symm;have f5_:=f3_.symm;clear f1_ f2_ f3_;subst f4_;subst f5_))
       refine hK.out _ _ ⟨(zz9 BK334.out 0).trans rfl,(zz9 BK334.out 1).trans rfl,(zz9 BK317.out 0).trans rfl,(zz9 BK317.out 1).trans rfl⟩ (fun hHeld=>?_)
       clear hK K
       refine norm_ (a':=?_) ?_ ?_
       rotate_left
       ·show Act.put _ (some 54) _=_
        simp only [Act.put,zz21,zz22,zz23,i64_w,i32_w]
        rfl
       refine one_ (i:=3) (N:=some 55) #[T,T,T,T,F] rfl rfl (by kernel_rfl) (by decide) (fun K hK=>?_)
       refine goes_ Try.func15 (by kernel_rfl) rfl #[.agg #[.int .i64 t330,.slice Ao31 t331.length co31],.agg #[.int .i64 t343,.slice Ao109 t344.length co109]] (by rfl) rfl rfl (by (try simp only [zz26,zz27,zz28]);first | done | rfl | (simp only [zz24,zz25];rfl)) ?_
       with_reducible refine (laws_eqParty.calls kj15 t330 _ _ t331 t343 _ _ t344 false _ ?side1 ?side2 ?side3 ?side4 A44.out).mono ?_
       (case side1=>repeat (first | exact (Kd.R_reads' HO_335001.out).2.2 | (with_reducible refine zz18 ?_ _) | (with_reducible refine zz19 ?_ _) | (with_reducible refine zz20 ?_)))
       (case side2=>exact (Kd.R_reads' HO_335001.out).2.1)
       (case side3=>repeat (first | exact (Kd.R_reads' HO346.out).2.2 | (with_reducible refine zz18 ?_ _) | (with_reducible refine zz19 ?_ _) | (with_reducible refine zz20 ?_)))
       (case side4=>exact (Kd.R_reads' HO346.out).2.1)
       rintro e w110 ⟨rfl,hb⟩
       refine ⟨_,rfl,?_⟩
       have n0_:=zz31 (Kd.R_below (by (with_reducible repeat (first | apply zz12 | apply zz13 | apply zz14));exact HO_6.out) hb)
       have n1_:=zz31 (Kd.R_below (by (with_reducible repeat (first | apply zz12 | apply zz13 | apply zz14));exact HO_9.out) hb)
       have n2_:=zz31 (Kd.R_below (by (with_reducible repeat (first | apply zz12 | apply zz13 | apply zz14));exact HO_10.out) hb)
       have n3_:=zz31 (Kd.R_below (by (with_reducible repeat (first | apply zz12 | apply zz13 | apply zz14));exact HO_335001.out) hb)
       have n4_:=zz31 (Kd.R_below (by (with_reducible repeat (first | apply zz12 | apply zz13 | apply zz14));exact HO346.out) hb)
       have n5_:=zz31 (zz11 (g:=gb317) (o:=.cells #[.int .i64 a0_0,.slice A0_1 l0_1.length c0_1] 24 (0,0)) (by (with_reducible repeat (first | refine zz6 ?_ _ | refine zz7 ?_ | refine zz8 ?_ _));exact BK317.out) hb)
       have n6_:=zz31 (zz11 (g:=gb334) (o:=.cells #[.int .i64 t330,.slice Ao31 t331.length co31] 31 (0,0)) (by (with_reducible repeat (first | refine zz6 ?_ _ | refine zz7 ?_ | refine zz8 ?_ _));exact BK334.out) hb)
       have n7_:=zz31 (zz4 (by repeat first | exact HB.out | apply zz2 | apply zz0 | apply zz1 | refine zz3 ?_ GE317.out | refine zz3 ?_ GE334.out) hb)
       clear HO_6
       clear HO_9
       clear HO_10
       clear HO_335001
       clear HO346
       clear BK317
       clear BK334
       clear HB
       have HO_6:=n0_
       have HO_9:=n1_
       have HO_10:=n2_
       have HO_335001:=n3_
       have HO346:=n4_
       have BK317:=n5_
       have BK334:=n6_
       have HB:=n7_
       clear n0_ n1_ n2_ n3_ n4_ n5_ n6_ n7_
       (try clear hb)
       (try clear hb2)
       (try clear hk)
       (try clear hi)
       refine hK.out _ _ ⟨(zz9 BK334.out 0).trans rfl,(zz9 BK334.out 1).trans rfl,(zz9 BK317.out 0).trans rfl,(zz9 BK317.out 1).trans rfl⟩ (fun hHeld=>?_)
       clear hK K
       refine norm_ (a':=?_) ?_ ?_
       rotate_left
       ·show Act.put _ (some 55) _=_
        simp only [Act.put,zz21,zz22,zz23,i64_w,i32_w]
        rfl
       refine pure_ (i:=4) (N:=some 56) (v:=?_) (a':=?_) #[T,T,T,T,T] rfl rfl (by kernel_rfl) (fun _ _ _ h=>h) (Or.inl ⟨by rfl,?_⟩) ?_ ?_
       rotate_left
       ·intro w'
        go_simp
        with_reducible rfl
       rotate_left
       ·simp only [Act.put,zz21,zz22,zz23,i64_w,i32_w]
        rfl
       refine done_ (by kernel_rfl) ?_
       try go_wp2
       go_ret
       exact ⟨by first | rfl | (simp [errW_none,errW_some] <;> rfl) | (simp [*,errW_none,errW_some] <;> rfl),by repeat first | exact HB.out | apply zz2 | apply zz0 | apply zz1 | refine zz3 ?_ GE317.out | refine zz3 ?_ GE334.out⟩

end Go.Proofs.Ytifkaefccghgdaa.P
