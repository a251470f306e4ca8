-- PRINTED by print.py (a twelfth state) out of the translation. Not trusted: Lean checks it.
import Derived.Test.YtialimbdkokdcaaPx0
import Derived.Test.YtialimbdkokdcaaPx1
import Derived.Test.YtialimbdkokdcaaPx3
import Derived.Test.YtialimbdkokdcaaPx9
import Derived.Test.YtialimbdkokdcaaPx15
import Derived.Test.YtialimbdkokdcaaPx25
namespace Go.Proofs.Ytialimbdkokdcaa.P
open Go.RowKit Go.Proofs.YtialimbdkokdcaaW.PrintWords Go.Proofs.YtialimbdkokdcaaW.PrintLast Go.Proofs.YtialimbdkokdcaaW.PrintMore
open Bool renaming true → T, false → F
attribute [local go_sem] max2_int min2_int max_two min_two max_three min_three max_four min_four   -- for this text's walks alone
set_option linter.unusedVariables false
set_option linter.unusedSimpArgs false

/-! ### laws_FnExactExchangePairs: function 10 -/
mutual
def laws_FnExactExchangePairs.j0:Nat→Int→Int→Int→Int→Bool→Bool→Bool→Int→List (S94)→Int→List (S80)→Int→List (S80)→Int→List (S80)→Option (Bool)
 | 0,_,_,_,_,_,_,_,_,_,_,_,_,_,_,_=>none
 | k+1,x1,x2,x3,x4,x13,x16,x56,x753000,x753001,x764000,x764001,x769000,x769001,x775000,x775001=>if x56=true then (some false) else ((laws_toParty.f k x753000 x753001).bind fun bt776=>((laws_eqParty.f k x769000 x769001 bt776.1 bt776.2).bind fun t780=>(if t780=true then ((laws_markParty.f k x769000 x769001 1).bind fun bt781=>(if bt781.1 < 0 then (laws_FnExactExchangePairs.j1 k x1 x2 x3 x4 x13 true x753000 x753001 x764000 x764001 x775000 x775001) else ((laws_eqParty.f k x775000 x775001 x764000 x764001).bind fun t783=>(if t783=true then (laws_FnExactExchangePairs.j1 k x1 x2 x3 x4 x13 (x16 != x13) x753000 x753001 x764000 x764001 x775000 x775001) else (laws_FnExactExchangePairs.j1 k x1 x2 x3 x4 x13 true x753000 x753001 x764000 x764001 x775000 x775001))))) else (some false))))
def laws_FnExactExchangePairs.j1:Nat→Int→Int→Int→Int→Bool→Bool→Int→List (S94)→Int→List (S80)→Int→List (S80)→Option (Bool)
 | 0,_,_,_,_,_,_,_,_,_,_,_,_=>none
 | k+1,x1,x2,x3,x4,x13,x77,x753000,x753001,x764000,x764001,x775000,x775001=>if x77=true then (some false) else ((laws_markParty.f k x775000 x775001 1).bind fun bt784=>((laws_heldParty.f k x775000 bt784.2 1).bind fun t786=>(if t786 < 0 then (some false) else (if t786=bt784.1 then ((laws_toParty.f k x753000 x753001).bind fun bt787=>((impl_ExchangePairs.f k bt787.1 bt787.2 x1 x2 x3 x4).bind fun bt791=>((laws_eqParty.f k bt791.1 bt791.2.1 x764000 x764001).bind fun t797=>(if t797=true then (laws_FnExactExchangePairs.j2 k bt784.1 (bt791.2.2 != x13) x775000 bt784.2) else (laws_FnExactExchangePairs.j2 k bt784.1 true x775000 bt784.2))))) else (some false)))))
def laws_FnExactExchangePairs.j2:Nat→Int→Bool→Int→List (S80)→Option (Bool)
 | 0,_,_,_,_=>none
 | k+1,x18,x107,x775000,x775001=>if x107=true then (some false) else ((laws_heldParty.f k x775000 x775001 1).bind fun t798=>(if t798 < 0 then (some false) else (if t798=x18 then (some true) else (some false))))
end
def laws_FnExactExchangePairs.f (k:Nat) (a0_0:Int) (l0_1:List (S94)) (a1:Int) (a2:Int) (a3:Int) (a4:Int):Option (Bool):=(laws_szParty.f a0_0 l0_1 1048576).bind fun t753=>(if t753 < 0 then (some true) else ((laws_toParty.f k a0_0 l0_1).bind fun bt754=>((spec_ExchangePairs.f k bt754.1 bt754.2 a1 a2 a3 a4).bind fun bt758=>((laws_toParty.f k a0_0 l0_1).bind fun bt764=>((impl_ExchangePairs.f k bt764.1 bt764.2 a1 a2 a3 a4).bind fun bt769=>((laws_eqParty.f k bt769.1 bt769.2.1 bt758.1 bt758.2.1).bind fun t775=>(if t775=true then (laws_FnExactExchangePairs.j0 k a1 a2 a3 a4 bt758.2.2 bt769.2.2 (bt769.2.2 != bt758.2.2) a0_0 l0_1 bt758.1 bt758.2.1 bt764.1 bt764.2 bt769.1 bt769.2.1) else (laws_FnExactExchangePairs.j0 k a1 a2 a3 a4 bt758.2.2 bt769.2.2 true a0_0 l0_1 bt758.1 bt758.2.1 bt764.1 bt764.2 bt769.1 bt769.2.1))))))))
theorem laws_FnExactExchangePairs.mono_l:∀ k,(∀ y0 y1 y2 y3 y4 y5 y6 y7 y8 y9 y10 y11 y12 y13 y14,LeO (laws_FnExactExchangePairs.j0 k y0 y1 y2 y3 y4 y5 y6 y7 y8 y9 y10 y11 y12 y13 y14) (laws_FnExactExchangePairs.j0 (k+1) y0 y1 y2 y3 y4 y5 y6 y7 y8 y9 y10 y11 y12 y13 y14))∧(∀ y0 y1 y2 y3 y4 y5 y6 y7 y8 y9 y10 y11,LeO (laws_FnExactExchangePairs.j1 k y0 y1 y2 y3 y4 y5 y6 y7 y8 y9 y10 y11) (laws_FnExactExchangePairs.j1 (k+1) y0 y1 y2 y3 y4 y5 y6 y7 y8 y9 y10 y11))∧(∀ y0 y1 y2 y3,LeO (laws_FnExactExchangePairs.j2 k y0 y1 y2 y3) (laws_FnExactExchangePairs.j2 (k+1) y0 y1 y2 y3))
 | 0=>⟨fun _ _ _ _ _ _ _ _ _ _ _ _ _ _ _ r h=>by simp [laws_FnExactExchangePairs.j0] at h,fun _ _ _ _ _ _ _ _ _ _ _ _ r h=>by simp [laws_FnExactExchangePairs.j1] at h,fun _ _ _ _ r h=>by simp [laws_FnExactExchangePairs.j2] at h⟩
 | k+1=>by
  obtain ⟨ih0,ih1,ih2⟩:=laws_FnExactExchangePairs.mono_l k
  refine ⟨?_,?_,?_⟩
  ·intro y0 y1 y2 y3 y4 y5 y6 y7 y8 y9 y10 y11 y12 y13 y14
   unfold laws_FnExactExchangePairs.j0
   repeat' first
   | (with_reducible exact ih0 _ _ _ _ _ _ _ _ _ _ _ _ _ _ _)
   | (with_reducible exact ih1 _ _ _ _ _ _ _ _ _ _ _ _)
   | (with_reducible exact ih2 _ _ _ _)
   | (with_reducible exact impl_ExchangePairs.mono _ _ _ _ _ _ _)
   | (with_reducible exact laws_eqParty.mono _ _ _ _ _)
   | (with_reducible exact laws_heldParty.mono _ _ _ _)
   | (with_reducible exact laws_markParty.mono _ _ _ _)
   | (with_reducible exact laws_toParty.mono _ _ _)
   | (with_reducible exact spec_ExchangePairs.mono _ _ _ _ _ _ _)
   | (with_reducible exact LeO.refl _)
   | (with_reducible exact LeO.none _)
   | (with_reducible refine LeO.ite ?_ ?_)
   | (with_reducible refine LeO.bind ?_ (fun _=>?_))
   | exact ih0 _ _ _ _ _ _ _ _ _ _ _ _ _ _ _
   | exact ih1 _ _ _ _ _ _ _ _ _ _ _ _
   | exact ih2 _ _ _ _
   | exact impl_ExchangePairs.mono _ _ _ _ _ _ _
   | exact laws_eqParty.mono _ _ _ _ _
   | exact laws_heldParty.mono _ _ _ _
   | exact laws_markParty.mono _ _ _ _
   | exact laws_toParty.mono _ _ _
   | exact spec_ExchangePairs.mono _ _ _ _ _ _ _
   | exact LeO.none _
   | refine LeO.ite ?_ ?_
   | refine LeO.bind ?_ (fun _=>?_)
  ·intro y0 y1 y2 y3 y4 y5 y6 y7 y8 y9 y10 y11
   unfold laws_FnExactExchangePairs.j1
   repeat' first
   | (with_reducible exact ih0 _ _ _ _ _ _ _ _ _ _ _ _ _ _ _)
   | (with_reducible exact ih1 _ _ _ _ _ _ _ _ _ _ _ _)
   | (with_reducible exact ih2 _ _ _ _)
   | (with_reducible exact impl_ExchangePairs.mono _ _ _ _ _ _ _)
   | (with_reducible exact laws_eqParty.mono _ _ _ _ _)
   | (with_reducible exact laws_heldParty.mono _ _ _ _)
   | (with_reducible exact laws_markParty.mono _ _ _ _)
   | (with_reducible exact laws_toParty.mono _ _ _)
   | (with_reducible exact spec_ExchangePairs.mono _ _ _ _ _ _ _)
   | (with_reducible exact LeO.refl _)
   | (with_reducible exact LeO.none _)
   | (with_reducible refine LeO.ite ?_ ?_)
   | (with_reducible refine LeO.bind ?_ (fun _=>?_))
   | exact ih0 _ _ _ _ _ _ _ _ _ _ _ _ _ _ _
   | exact ih1 _ _ _ _ _ _ _ _ _ _ _ _
   | exact ih2 _ _ _ _
   | exact impl_ExchangePairs.mono _ _ _ _ _ _ _
   | exact laws_eqParty.mono _ _ _ _ _
   | exact laws_heldParty.mono _ _ _ _
   | exact laws_markParty.mono _ _ _ _
   | exact laws_toParty.mono _ _ _
   | exact spec_ExchangePairs.mono _ _ _ _ _ _ _
   | exact LeO.none _
   | refine LeO.ite ?_ ?_
   | refine LeO.bind ?_ (fun _=>?_)
  ·intro y0 y1 y2 y3
   unfold laws_FnExactExchangePairs.j2
   repeat' first
   | (with_reducible exact ih0 _ _ _ _ _ _ _ _ _ _ _ _ _ _ _)
   | (with_reducible exact ih1 _ _ _ _ _ _ _ _ _ _ _ _)
   | (with_reducible exact ih2 _ _ _ _)
   | (with_reducible exact impl_ExchangePairs.mono _ _ _ _ _ _ _)
   | (with_reducible exact laws_eqParty.mono _ _ _ _ _)
   | (with_reducible exact laws_heldParty.mono _ _ _ _)
   | (with_reducible exact laws_markParty.mono _ _ _ _)
   | (with_reducible exact laws_toParty.mono _ _ _)
   | (with_reducible exact spec_ExchangePairs.mono _ _ _ _ _ _ _)
   | (with_reducible exact LeO.refl _)
   | (with_reducible exact LeO.none _)
   | (with_reducible refine LeO.ite ?_ ?_)
   | (with_reducible refine LeO.bind ?_ (fun _=>?_))
   | exact ih0 _ _ _ _ _ _ _ _ _ _ _ _ _ _ _
   | exact ih1 _ _ _ _ _ _ _ _ _ _ _ _
   | exact ih2 _ _ _ _
   | exact impl_ExchangePairs.mono _ _ _ _ _ _ _
   | exact laws_eqParty.mono _ _ _ _ _
   | exact laws_heldParty.mono _ _ _ _
   | exact laws_markParty.mono _ _ _ _
   | exact laws_toParty.mono _ _ _
   | exact spec_ExchangePairs.mono _ _ _ _ _ _ _
   | exact LeO.none _
   | refine LeO.ite ?_ ?_
   | refine LeO.bind ?_ (fun _=>?_)
theorem laws_FnExactExchangePairs.mono:∀ a0 a1 a2 a3 a4 a5 k,LeO (laws_FnExactExchangePairs.f k a0 a1 a2 a3 a4 a5) (laws_FnExactExchangePairs.f (k+1) a0 a1 a2 a3 a4 a5):=by
 intro a0 a1 a2 a3 a4 a5 k
 obtain ⟨ih0,ih1,ih2⟩:=laws_FnExactExchangePairs.mono_l k
 unfold laws_FnExactExchangePairs.f
 repeat' first
   | (with_reducible exact ih0 _ _ _ _ _ _ _ _ _ _ _ _ _ _ _)
   | (with_reducible exact ih1 _ _ _ _ _ _ _ _ _ _ _ _)
   | (with_reducible exact ih2 _ _ _ _)
   | (with_reducible exact impl_ExchangePairs.mono _ _ _ _ _ _ _)
   | (with_reducible exact laws_eqParty.mono _ _ _ _ _)
   | (with_reducible exact laws_heldParty.mono _ _ _ _)
   | (with_reducible exact laws_markParty.mono _ _ _ _)
   | (with_reducible exact laws_toParty.mono _ _ _)
   | (with_reducible exact spec_ExchangePairs.mono _ _ _ _ _ _ _)
   | (with_reducible exact LeO.refl _)
   | (with_reducible exact LeO.none _)
   | (with_reducible refine LeO.ite ?_ ?_)
   | (with_reducible refine LeO.bind ?_ (fun _=>?_))
   | exact ih0 _ _ _ _ _ _ _ _ _ _ _ _ _ _ _
   | exact ih1 _ _ _ _ _ _ _ _ _ _ _ _
   | exact ih2 _ _ _ _
   | exact impl_ExchangePairs.mono _ _ _ _ _ _ _
   | exact laws_eqParty.mono _ _ _ _ _
   | exact laws_heldParty.mono _ _ _ _
   | exact laws_markParty.mono _ _ _ _
   | exact laws_toParty.mono _ _ _
   | exact spec_ExchangePairs.mono _ _ _ _ _ _ _
   | exact LeO.none _
   | refine LeO.ite ?_ ?_
   | refine LeO.bind ?_ (fun _=>?_)
set_option maxHeartbeats 8000000 in
set_option maxRecDepth 100000 in
theorem laws_FnExactExchangePairs.calls (k:Nat) (a0_0:Int) (A0_1:Option Addr) (c0_1:Nat) (l0_1:List (S94)) (a1:Int) (a2:Int) (a3:Int) (a4:Int) (r:Bool) (w:World) (hr0_1:Kd.C k94 w A0_1 l0_1.length l0_1) (hc0_1:l0_1.length≤c0_1) (h:laws_FnExactExchangePairs.f k a0_0 l0_1 a1 a2 a3 a4=some r) :
  Calls Try.prog 10 #[.agg #[.int .i64 a0_0,.slice A0_1 l0_1.length c0_1],.int .i64 a1,.int .i64 a2,.int .i64 a3,.int .i64 a4] w fun e w'=>e=.returned (.bool r)∧Below w.heap.size w w':=by
 have hu24:=Try.underlying24
 have hu30:=Try.underlying30
 have HR0_1:=zz31 hr0_1
 have HC0_1:=zz31 hc0_1
 clear hr0_1 hc0_1
 have HB:=zz31 (Below.refl w.heap.size w)
 have H:((laws_szParty.f a0_0 l0_1 1048576).bind fun t753=>(if t753 < 0 then (some true) else ((laws_toParty.f k a0_0 l0_1).bind fun bt754=>((spec_ExchangePairs.f k bt754.1 bt754.2 a1 a2 a3 a4).bind fun bt758=>((laws_toParty.f k a0_0 l0_1).bind fun bt764=>((impl_ExchangePairs.f k bt764.1 bt764.2 a1 a2 a3 a4).bind fun bt769=>((laws_eqParty.f k bt769.1 bt769.2.1 bt758.1 bt758.2.1).bind fun t775=>(if t775=true then (laws_FnExactExchangePairs.j0 k a1 a2 a3 a4 bt758.2.2 bt769.2.2 (bt769.2.2 != bt758.2.2) a0_0 l0_1 bt758.1 bt758.2.1 bt764.1 bt764.2 bt769.1 bt769.2.1) else (laws_FnExactExchangePairs.j0 k a1 a2 a3 a4 bt758.2.2 bt769.2.2 true a0_0 l0_1 bt758.1 bt758.2.1 bt764.1 bt764.2 bt769.1 bt769.2.1)))))))))=some r:=h
 clear h
 replace H:=zz30.mp H
 obtain ⟨t753,A60,H⟩:=H
 replace H:(if t753 < 0 then (some true) else ((laws_toParty.f k a0_0 l0_1).bind fun bt754=>((spec_ExchangePairs.f k bt754.1 bt754.2 a1 a2 a3 a4).bind fun bt758=>((laws_toParty.f k a0_0 l0_1).bind fun bt764=>((impl_ExchangePairs.f k bt764.1 bt764.2 a1 a2 a3 a4).bind fun bt769=>((laws_eqParty.f k bt769.1 bt769.2.1 bt758.1 bt758.2.1).bind fun t775=>(if t775=true then (laws_FnExactExchangePairs.j0 k a1 a2 a3 a4 bt758.2.2 bt769.2.2 (bt769.2.2 != bt758.2.2) a0_0 l0_1 bt758.1 bt758.2.1 bt764.1 bt764.2 bt769.1 bt769.2.1) else (laws_FnExactExchangePairs.j0 k a1 a2 a3 a4 bt758.2.2 bt769.2.2 true a0_0 l0_1 bt758.1 bt758.2.1 bt764.1 bt764.2 bt769.1 bt769.2.1))))))))=some r:=H
 have A6:=zz31 A60
 clear A60
 by_cases c7:t753 < 0
 ·rw [if_pos c7] at H
  have c7b0:decide (t753 < 0)=true:=decide_eq_true c7
  clear c7
  obtain rfl:=Option.some.inj H
  go_enter Try.func10,Try.ntmps10
  go_wp2_with (first | ((with_reducible refine gate_dst (N:=5) rfl ?_);refine box_event ?hg (N:=5) ?hd (cs:=#[.int .i64 a0_0,.slice A0_1 l0_1.length c0_1]) (t:=24) ?hr ?_;(case hd=>rfl);(case hg=>rfl);(case hr=>first | (go_simp;done) | (go_simp;rfl));intro gb752 hg w8 hbox hb;have n0_:=zz31 (zz4 (by repeat first | exact HB.out | apply zz2 | apply zz0 | apply zz1) hb);have n1_:=zz31 (hbox);have n2_:=zz31 ((by rw [hg];exact (zz5 (by repeat first | exact HB.out | apply zz2 | apply zz0 | apply zz1)):w.heap.size≤gb752));have n3_:=zz31 ((by rw [hg];exact (zz5 (by repeat first | exact HB.out | apply zz2 | apply zz0 | apply zz1)):w.heap.size≤gb752));clear HB;have HB:=n0_;have BK752:=n1_;have GW752:=n2_;have GE752:=n3_;clear n0_ n1_ n2_ n3_;clear hb hbox hg;have hcz9_0:w8.cell? ⟨gb752,0,none⟩=some (.int .i64 a0_0):=(zz9 BK752.out 0).trans rfl;have hcz9_1:w8.cell? ⟨gb752,1,none⟩=some (.slice A0_1 l0_1.length c0_1):=(zz9 BK752.out 1).trans rfl;have hfz9_0:=zz10 BK752.out 0;have hfz9_1:=zz10 BK752.out 1) | ((with_reducible refine gate_callee (f:=12) rfl ?_);refine goesL_ (some 24) rfl rfl Try.func12 (by kernel_rfl) rfl #[.agg #[.int .i64 a0_0,.slice A0_1 l0_1.length c0_1],.int .i64 1048576] rfl (by (try simp only [zz26,zz27,zz28]);first | done | rfl | (simp only [zz24,zz25];rfl)) ?_;(with_reducible refine (laws_szParty.calls a0_0 _ _ l0_1 1048576 t753 _ ?side1 ?side2 A6.out).mono ?_);(case side1=>repeat (first | exact (Kd.C_below HR0_1.out HB.out) | (with_reducible refine zz18 ?_ _) | (with_reducible refine zz19 ?_ _) | (with_reducible refine zz20 ?_)));(case side2=>exact HC0_1.out);rintro e w10 ⟨rfl,hb⟩;refine ⟨_,rfl,?_⟩;have n0_:=zz31 (zz11 (g:=gb752) (o:=.cells #[.int .i64 a0_0,.slice A0_1 l0_1.length c0_1] 24 (0,0)) (by (with_reducible repeat (first | refine zz6 ?_ _ | refine zz7 ?_ | refine zz8 ?_ _));exact BK752.out) hb);have n1_:=zz31 (zz4 (by repeat first | exact HB.out | apply zz2 | apply zz0 | apply zz1 | refine zz3 ?_ GE752.out) hb);clear BK752;clear HB;have BK752:=n0_;have HB:=n1_;clear n0_ n1_;(try clear hb);(try clear hb2);(try clear hk);(try clear hi)))
  go_ret
  exact ⟨by first | rfl | (simp [errW_none,errW_some] <;> rfl) | (simp [*,errW_none,errW_some] <;> rfl),by repeat first | exact HB.out | apply zz2 | apply zz0 | apply zz1 | refine zz3 ?_ GE752.out⟩
 ·rw [if_neg c7] at H
  have c7b0:decide (t753 < 0)=false:=decide_eq_false c7
  clear c7
  replace H:=zz30.mp H
  obtain ⟨⟨t754,t755⟩,A110,H⟩:=H
  replace H:((spec_ExchangePairs.f k t754 t755 a1 a2 a3 a4).bind fun bt758=>((laws_toParty.f k a0_0 l0_1).bind fun bt764=>((impl_ExchangePairs.f k bt764.1 bt764.2 a1 a2 a3 a4).bind fun bt769=>((laws_eqParty.f k bt769.1 bt769.2.1 bt758.1 bt758.2.1).bind fun t775=>(if t775=true then (laws_FnExactExchangePairs.j0 k a1 a2 a3 a4 bt758.2.2 bt769.2.2 (bt769.2.2 != bt758.2.2) a0_0 l0_1 bt758.1 bt758.2.1 bt764.1 bt764.2 bt769.1 bt769.2.1) else (laws_FnExactExchangePairs.j0 k a1 a2 a3 a4 bt758.2.2 bt769.2.2 true a0_0 l0_1 bt758.1 bt758.2.1 bt764.1 bt764.2 bt769.1 bt769.2.1))))))=some r:=H
  have A11:=zz31 A110
  clear A110
  replace H:=zz30.mp H
  obtain ⟨⟨t758,t759,t762⟩,A120,H⟩:=H
  replace H:((laws_toParty.f k a0_0 l0_1).bind fun bt764=>((impl_ExchangePairs.f k bt764.1 bt764.2 a1 a2 a3 a4).bind fun bt769=>((laws_eqParty.f k bt769.1 bt769.2.1 t758 t759).bind fun t775=>(if t775=true then (laws_FnExactExchangePairs.j0 k a1 a2 a3 a4 t762 bt769.2.2 (bt769.2.2 != t762) a0_0 l0_1 t758 t759 bt764.1 bt764.2 bt769.1 bt769.2.1) else (laws_FnExactExchangePairs.j0 k a1 a2 a3 a4 t762 bt769.2.2 true a0_0 l0_1 t758 t759 bt764.1 bt764.2 bt769.1 bt769.2.1)))))=some r:=H
  have A12:=zz31 A120
  clear A120
  replace H:=zz30.mp H
  obtain ⟨⟨t764,t765⟩,A130,H⟩:=H
  replace H:((impl_ExchangePairs.f k t764 t765 a1 a2 a3 a4).bind fun bt769=>((laws_eqParty.f k bt769.1 bt769.2.1 t758 t759).bind fun t775=>(if t775=true then (laws_FnExactExchangePairs.j0 k a1 a2 a3 a4 t762 bt769.2.2 (bt769.2.2 != t762) a0_0 l0_1 t758 t759 t764 t765 bt769.1 bt769.2.1) else (laws_FnExactExchangePairs.j0 k a1 a2 a3 a4 t762 bt769.2.2 true a0_0 l0_1 t758 t759 t764 t765 bt769.1 bt769.2.1))))=some r:=H
  have A13:=zz31 A130
  clear A130
  replace H:=zz30.mp H
  obtain ⟨⟨t769,t770,t773⟩,A140,H⟩:=H
  replace H:((laws_eqParty.f k t769 t770 t758 t759).bind fun t775=>(if t775=true then (laws_FnExactExchangePairs.j0 k a1 a2 a3 a4 t762 t773 (t773 != t762) a0_0 l0_1 t758 t759 t764 t765 t769 t770) else (laws_FnExactExchangePairs.j0 k a1 a2 a3 a4 t762 t773 true a0_0 l0_1 t758 t759 t764 t765 t769 t770)))=some r:=H
  have A14:=zz31 A140
  clear A140
  have HC15:=zz31 H
  clear H
  go_enter Try.func10,Try.ntmps10
  go_upto_region 8 with (first | ((with_reducible refine gate_dst (N:=5) rfl ?_);refine box_event ?hg (N:=5) ?hd (cs:=#[.int .i64 a0_0,.slice A0_1 l0_1.length c0_1]) (t:=24) ?hr ?_;(case hd=>rfl);(case hg=>rfl);(case hr=>first | (go_simp;done) | (go_simp;rfl));intro gb752 hg w16 hbox hb;have n0_:=zz31 (zz4 (by repeat first | exact HB.out | apply zz2 | apply zz0 | apply zz1) hb);have n1_:=zz31 (hbox);have n2_:=zz31 ((by rw [hg];exact (zz5 (by repeat first | exact HB.out | apply zz2 | apply zz0 | apply zz1)):w.heap.size≤gb752));have n3_:=zz31 ((by rw [hg];exact (zz5 (by repeat first | exact HB.out | apply zz2 | apply zz0 | apply zz1)):w.heap.size≤gb752));clear HB;have HB:=n0_;have BK752:=n1_;have GW752:=n2_;have GE752:=n3_;clear n0_ n1_ n2_ n3_;clear hb hbox hg;have hcz17_0:w16.cell? ⟨gb752,0,none⟩=some (.int .i64 a0_0):=(zz9 BK752.out 0).trans rfl;have hcz17_1:w16.cell? ⟨gb752,1,none⟩=some (.slice A0_1 l0_1.length c0_1):=(zz9 BK752.out 1).trans rfl;have hfz17_0:=zz10 BK752.out 0;have hfz17_1:=zz10 BK752.out 1) | ((with_reducible refine gate_callee (f:=12) rfl ?_);refine goesL_ (some 24) rfl rfl Try.func12 (by kernel_rfl) rfl #[.agg #[.int .i64 a0_0,.slice A0_1 l0_1.length c0_1],.int .i64 1048576] rfl (by (try simp only [zz26,zz27,zz28]);first | done | rfl | (simp only [zz24,zz25];rfl)) ?_;(with_reducible refine (laws_szParty.calls a0_0 _ _ l0_1 1048576 t753 _ ?side1 ?side2 A6.out).mono ?_);(case side1=>repeat (first | exact (Kd.C_below HR0_1.out HB.out) | (with_reducible refine zz18 ?_ _) | (with_reducible refine zz19 ?_ _) | (with_reducible refine zz20 ?_)));(case side2=>exact HC0_1.out);rintro e w18 ⟨rfl,hb⟩;refine ⟨_,rfl,?_⟩;have n0_:=zz31 (zz11 (g:=gb752) (o:=.cells #[.int .i64 a0_0,.slice A0_1 l0_1.length c0_1] 24 (0,0)) (by (with_reducible repeat (first | refine zz6 ?_ _ | refine zz7 ?_ | refine zz8 ?_ _));exact BK752.out) hb);have n1_:=zz31 (zz4 (by repeat first | exact HB.out | apply zz2 | apply zz0 | apply zz1 | refine zz3 ?_ GE752.out) hb);clear BK752;clear HB;have BK752:=n0_;have HB:=n1_;clear n0_ n1_;(try clear hb);(try clear hb2);(try clear hk);(try clear hi);have hcz19_0:w18.cell? ⟨gb752,0,none⟩=some (.int .i64 a0_0):=(zz9 BK752.out 0).trans rfl;have hcz19_1:w18.cell? ⟨gb752,1,none⟩=some (.slice A0_1 l0_1.length c0_1):=(zz9 BK752.out 1).trans rfl;have hfz19_0:=zz10 BK752.out 0;have hfz19_1:=zz10 BK752.out 1) | ((with_reducible refine gate_callee (f:=14) rfl ?_);refine goesL_ (some 29) rfl rfl Try.func14 (by kernel_rfl) rfl #[.agg #[.int .i64 a0_0,.slice A0_1 l0_1.length c0_1]] rfl (by (try simp only [zz26,zz27,zz28]);first | done | rfl | (simp only [zz24,zz25];rfl)) ?_;(with_reducible refine (laws_toParty.calls k a0_0 _ _ l0_1 t754 t755 _ ?side1 ?side2 A11.out).mono ?_);(case side1=>repeat (first | exact (Kd.C_below HR0_1.out HB.out) | (with_reducible refine zz18 ?_ _) | (with_reducible refine zz19 ?_ _) | (with_reducible refine zz20 ?_)));(case side2=>exact HC0_1.out);rintro e w20 ⟨v756,rfl,ho0,hb⟩;refine ⟨_,rfl,?_⟩;have n0_:=zz31 (Kd.R_lower ho0 (zz5 (by repeat first | exact HB.out | apply zz2 | apply zz0 | apply zz1 | refine zz3 ?_ GE752.out)));have n1_:=zz31 (zz11 (g:=gb752) (o:=.cells #[.int .i64 a0_0,.slice A0_1 l0_1.length c0_1] 24 (0,0)) (by (with_reducible repeat (first | refine zz6 ?_ _ | refine zz7 ?_ | refine zz8 ?_ _));exact BK752.out) hb);have n2_:=zz31 (zz4 (by repeat first | exact HB.out | apply zz2 | apply zz0 | apply zz1 | refine zz3 ?_ GE752.out) hb);clear BK752;clear HB;have HO757:=n0_;have BK752:=n1_;have HB:=n2_;clear n0_ n1_ n2_;(try clear hb);(try clear hb2);(try clear hk);(try clear hi);(try clear ho0);obtain ⟨Ao21,co21,eo21⟩:=Kd.R_slice HO757.out;subst eo21) | ((with_reducible refine gate_callee (f:=36) rfl ?_);refine goesL_ (some 34) rfl rfl Try.func36 (by kernel_rfl) rfl #[.agg #[.int .i64 t754,.slice Ao21 t755.length co21],.int .i64 a1,.int .i64 a2,.int .i64 a3,.int .i64 a4] rfl (by (try simp only [zz26,zz27,zz28]);first | done | rfl | (simp only [zz24,zz25];rfl)) ?_;(with_reducible refine (spec_ExchangePairs.calls k t754 _ _ t755 a1 a2 a3 a4 t758 t759 t762 _ ?side1 ?side2 A12.out).mono ?_);(case side1=>repeat (first | exact (Kd.R_reads' HO757.out).2.2 | (with_reducible refine zz18 ?_ _) | (with_reducible refine zz19 ?_ _) | (with_reducible refine zz20 ?_)));(case side2=>exact (Kd.R_reads' HO757.out).2.1);rintro e w22 ⟨v760,rfl,ho0,hb⟩;refine ⟨_,rfl,?_⟩;have n0_:=zz31 (Kd.R_elder' (by (with_reducible repeat (first | apply zz12 | apply zz13 | apply zz14));exact HO757.out) (Kd.R_base ho0) hb);have n1_:=zz31 (Kd.R_lower (Kd.R_new' ho0 (Kd.R_lt (by (with_reducible repeat (first | apply zz12 | apply zz13 | apply zz14));exact HO757.out))) (zz5 (by repeat first | exact HB.out | apply zz2 | apply zz0 | apply zz1 | refine zz3 ?_ GE752.out)));have n2_:=zz31 (zz11 (g:=gb752) (o:=.cells #[.int .i64 a0_0,.slice A0_1 l0_1.length c0_1] 24 (0,0)) (by (with_reducible repeat (first | refine zz6 ?_ _ | refine zz7 ?_ | refine zz8 ?_ _));exact BK752.out) hb);have n3_:=zz31 (zz4 (by repeat first | exact HB.out | apply zz2 | apply zz0 | apply zz1 | refine zz3 ?_ GE752.out) hb);clear HO757;clear BK752;clear HB;have HO757:=n0_;have HO761:=n1_;have BK752:=n2_;have HB:=n3_;clear n0_ n1_ n2_ n3_;(try clear hb);(try clear hb2);(try clear hk);(try clear hi);(try clear ho0)) | ((with_reducible refine gate_dst (N:=12) rfl ?_);refine box_event ?hg (N:=12) ?hd (cs:=#[.int .i64 0,.slice none 0 0]) (t:=30) ?hr ?_;(case hd=>rfl);(case hg=>rfl);(case hr=>first | (go_simp;done) | (go_simp;rfl));intro gb763 hg w23 hbox hb;have n0_:=zz31 (Kd.R_below (by (with_reducible repeat (first | apply zz12 | apply zz13 | apply zz14));exact HO757.out) hb);have n1_:=zz31 (Kd.R_below (by (with_reducible repeat (first | apply zz12 | apply zz13 | apply zz14));exact HO761.out) hb);have n2_:=zz31 (zz11 (g:=gb752) (o:=.cells #[.int .i64 a0_0,.slice A0_1 l0_1.length c0_1] 24 (0,0)) (by (with_reducible repeat (first | refine zz6 ?_ _ | refine zz7 ?_ | refine zz8 ?_ _));exact BK752.out) hb);have n3_:=zz31 (zz4 (by repeat first | exact HB.out | apply zz2 | apply zz0 | apply zz1 | refine zz3 ?_ GE752.out) hb);have n4_:=zz31 (hbox);have n5_:=zz31 ((by rw [hg];exact (zz5 (by repeat first | exact HB.out | apply zz2 | apply zz0 | apply zz1 | refine zz3 ?_ GE752.out)):w.heap.size≤gb763));have n6_:=zz31 ((by rw [hg];exact (zz5 (by repeat first | exact HB.out | apply zz2 | apply zz0 | apply zz1 | refine zz3 ?_ GE752.out)):w.heap.size≤gb763));have n7_:=zz31 ((by rw [hg];exact Nat.ne_of_lt (blk_lt (g:=gb752) (o:=.cells #[.int .i64 a0_0,.slice A0_1 l0_1.length c0_1] 24 (0,0)) (by (with_reducible repeat (first | refine zz6 ?_ _ | refine zz7 ?_ | refine zz8 ?_ _));exact BK752.out)):gb752 ≠ gb763));have n8_:=zz31 ((by rw [hg];exact Nat.ne_of_gt (blk_lt (g:=gb752) (o:=.cells #[.int .i64 a0_0,.slice A0_1 l0_1.length c0_1] 24 (0,0)) (by (with_reducible repeat (first | refine zz6 ?_ _ | refine zz7 ?_ | refine zz8 ?_ _));exact BK752.out)):gb763 ≠ gb752));clear HO757;clear HO761;clear BK752;clear HB;have HO757:=n0_;have HO761:=n1_;have BK752:=n2_;have HB:=n3_;have BK763:=n4_;have GW763:=n5_;have GE763:=n6_;have NB752_763:=n7_;have NB763_752:=n8_;clear n0_ n1_ n2_ n3_ n4_ n5_ n6_ n7_ n8_;clear hb hbox hg;have hnb24:=NB763_752.out;have hnc24:=NB752_763.out;have hcz25_0:w23.cell? ⟨gb763,0,none⟩=some (.int .i64 0):=(zz9 BK763.out 0).trans rfl;have hcz25_1:w23.cell? ⟨gb763,1,none⟩=some (.slice none 0 0):=(zz9 BK763.out 1).trans rfl;have hfz25_0:=zz10 BK763.out 0;have hfz25_1:=zz10 BK763.out 1;obtain ⟨Ao26,co26,eo26⟩:=Kd.R_slice HO761.out;subst eo26;have hcz27_0:w23.cell? ⟨gb752,0,none⟩=some (.int .i64 a0_0):=(zz9 BK752.out 0).trans rfl;have hcz27_1:w23.cell? ⟨gb752,1,none⟩=some (.slice A0_1 l0_1.length c0_1):=(zz9 BK752.out 1).trans rfl;have hfz27_0:=zz10 BK752.out 0;have hfz27_1:=zz10 BK752.out 1) | ((with_reducible refine gate_callee (f:=14) rfl ?_);refine goesL_ (some 38) rfl rfl Try.func14 (by kernel_rfl) rfl #[.agg #[.int .i64 a0_0,.slice A0_1 l0_1.length c0_1]] rfl (by (try simp only [zz26,zz27,zz28]);first | done | rfl | (simp only [zz24,zz25];rfl)) ?_;(with_reducible refine (laws_toParty.calls k a0_0 _ _ l0_1 t764 t765 _ ?side1 ?side2 A13.out).mono ?_);(case side1=>exact Kd.C_below HR0_1.out (by repeat first | exact HB.out | apply zz2 | apply zz0 | apply zz1 | refine zz3 ?_ GE752.out | refine zz3 ?_ GE763.out));(case side2=>exact HC0_1.out);rintro e w28 ⟨v766,rfl,ho0,hb⟩;refine ⟨_,rfl,?_⟩;have n0_:=zz31 (Kd.R_elder' (by (with_reducible repeat (first | apply zz12 | apply zz13 | apply zz14));exact (Kd.R_mono (Kd.R_far (p:=⟨gb763,1,none⟩) (Kd.R_far (p:=⟨gb763,0,none⟩) (Kd.R_types HO757.out BK763.out (by decide)) (fun _ hk=>hk.2) (.int .i64 t758)) (fun _ hk=>hk.2) (.slice Ao26 t759.length co26)) (fun _ h_=>h_.1))) (Kd.R_base ho0) hb);have n1_:=zz31 (Kd.R_elder' (by (with_reducible repeat (first | apply zz12 | apply zz13 | apply zz14));exact (Kd.R_mono (Kd.R_far (p:=⟨gb763,1,none⟩) (Kd.R_far (p:=⟨gb763,0,none⟩) (Kd.R_types HO761.out BK763.out (by decide)) (fun _ hk=>hk.2) (.int .i64 t758)) (fun _ hk=>hk.2) (.slice Ao26 t759.length co26)) (fun _ h_=>h_.1))) (Kd.R_base ho0) hb);have n2_:=zz31 (Kd.R_lower (Kd.R_new' (Kd.R_new' ho0 (Kd.R_lt (by (with_reducible repeat (first | apply zz12 | apply zz13 | apply zz14));exact (Kd.R_mono (Kd.R_far (p:=⟨gb763,1,none⟩) (Kd.R_far (p:=⟨gb763,0,none⟩) (Kd.R_types HO757.out BK763.out (by decide)) (fun _ hk=>hk.2) (.int .i64 t758)) (fun _ hk=>hk.2) (.slice Ao26 t759.length co26)) (fun _ h_=>h_.1))))) (Kd.R_lt (by (with_reducible repeat (first | apply zz12 | apply zz13 | apply zz14));exact (Kd.R_mono (Kd.R_far (p:=⟨gb763,1,none⟩) (Kd.R_far (p:=⟨gb763,0,none⟩) (Kd.R_types HO761.out BK763.out (by decide)) (fun _ hk=>hk.2) (.int .i64 t758)) (fun _ hk=>hk.2) (.slice Ao26 t759.length co26)) (fun _ h_=>h_.1))))) (zz5 (by repeat first | exact HB.out | apply zz2 | apply zz0 | apply zz1 | refine zz3 ?_ GE752.out | refine zz3 ?_ GE763.out)));have n3_:=zz31 (zz11 (g:=gb752) (o:=.cells #[.int .i64 a0_0,.slice A0_1 l0_1.length c0_1] 24 (0,0)) (by (with_reducible repeat (first | refine zz6 ?_ _ | refine zz7 ?_ | refine zz8 ?_ _));refine blk_far ?_ NB752_763.out _;(with_reducible repeat (first | refine zz6 ?_ _ | refine zz7 ?_ | refine zz8 ?_ _));refine blk_far ?_ NB752_763.out _;(with_reducible repeat (first | refine zz6 ?_ _ | refine zz7 ?_ | refine zz8 ?_ _));exact BK752.out) hb);have n4_:=zz31 (zz11 (g:=gb763) (o:=.cells #[.int .i64 t758,.slice Ao26 t759.length co26] 30 (0,0)) (by (with_reducible repeat (first | refine zz6 ?_ _ | refine zz7 ?_ | refine zz8 ?_ _));refine blk_put (cs:=#[.int .i64 t758,.slice none 0 0]) ?_ 1 _ rfl;(with_reducible repeat (first | refine zz6 ?_ _ | refine zz7 ?_ | refine zz8 ?_ _));refine blk_put (cs:=#[.int .i64 0,.slice none 0 0]) ?_ 0 _ rfl;(with_reducible repeat (first | refine zz6 ?_ _ | refine zz7 ?_ | refine zz8 ?_ _));exact BK763.out) hb);have n5_:=zz31 (zz4 (by repeat first | exact HB.out | apply zz2 | apply zz0 | apply zz1 | refine zz3 ?_ GE752.out | refine zz3 ?_ GE763.out) hb);clear HO757;clear HO761;clear BK752;clear BK763;clear HB;have HO757:=n0_;have HO761:=n1_;have HO767:=n2_;have BK752:=n3_;have BK763:=n4_;have HB:=n5_;clear n0_ n1_ n2_ n3_ n4_ n5_;(try clear hb);(try clear hb2);(try clear hk);(try clear hi);(try clear ho0)) | ((with_reducible refine gate_dst (N:=14) rfl ?_);refine box_event ?hg (N:=14) ?hd (cs:=#[.int .i64 0,.slice none 0 0]) (t:=30) ?hr ?_;(case hd=>rfl);(case hg=>rfl);(case hr=>first | (go_simp;done) | (go_simp;rfl));intro gb768 hg w29 hbox hb;have n0_:=zz31 (Kd.R_below (by (with_reducible repeat (first | apply zz12 | apply zz13 | apply zz14));exact HO757.out) hb);have n1_:=zz31 (Kd.R_below (by (with_reducible repeat (first | apply zz12 | apply zz13 | apply zz14));exact HO761.out) hb);have n2_:=zz31 (Kd.R_below (by (with_reducible repeat (first | apply zz12 | apply zz13 | apply zz14));exact HO767.out) hb);have n3_:=zz31 (zz11 (g:=gb752) (o:=.cells #[.int .i64 a0_0,.slice A0_1 l0_1.length c0_1] 24 (0,0)) (by (with_reducible repeat (first | refine zz6 ?_ _ | refine zz7 ?_ | refine zz8 ?_ _));exact BK752.out) hb);have n4_:=zz31 (zz11 (g:=gb763) (o:=.cells #[.int .i64 t758,.slice Ao26 t759.length co26] 30 (0,0)) (by (with_reducible repeat (first | refine zz6 ?_ _ | refine zz7 ?_ | refine zz8 ?_ _));exact BK763.out) hb);have n5_:=zz31 (zz4 (by repeat first | exact HB.out | apply zz2 | apply zz0 | apply zz1 | refine zz3 ?_ GE752.out | refine zz3 ?_ GE763.out) hb);have n6_:=zz31 (hbox);have n7_:=zz31 ((by rw [hg];exact (zz5 (by repeat first | exact HB.out | apply zz2 | apply zz0 | apply zz1 | refine zz3 ?_ GE752.out | refine zz3 ?_ GE763.out)):w.heap.size≤gb768));have n8_:=zz31 ((by rw [hg];exact (zz5 (by repeat first | exact HB.out | apply zz2 | apply zz0 | apply zz1 | refine zz3 ?_ GE752.out | refine zz3 ?_ GE763.out)):w.heap.size≤gb768));have n9_:=zz31 ((by rw [hg];exact Nat.ne_of_lt (blk_lt (g:=gb752) (o:=.cells #[.int .i64 a0_0,.slice A0_1 l0_1.length c0_1] 24 (0,0)) (by (with_reducible repeat (first | refine zz6 ?_ _ | refine zz7 ?_ | refine zz8 ?_ _));exact BK752.out)):gb752 ≠ gb768));have n10_:=zz31 ((by rw [hg];exact Nat.ne_of_gt (blk_lt (g:=gb752) (o:=.cells #[.int .i64 a0_0,.slice A0_1 l0_1.length c0_1] 24 (0,0)) (by (with_reducible repeat (first | refine zz6 ?_ _ | refine zz7 ?_ | refine zz8 ?_ _));exact BK752.out)):gb768 ≠ gb752));have n11_:=zz31 ((by rw [hg];exact Nat.ne_of_lt (blk_lt (g:=gb763) (o:=.cells #[.int .i64 t758,.slice Ao26 t759.length co26] 30 (0,0)) (by (with_reducible repeat (first | refine zz6 ?_ _ | refine zz7 ?_ | refine zz8 ?_ _));exact BK763.out)):gb763 ≠ gb768));have n12_:=zz31 ((by rw [hg];exact Nat.ne_of_gt (blk_lt (g:=gb763) (o:=.cells #[.int .i64 t758,.slice Ao26 t759.length co26] 30 (0,0)) (by (with_reducible repeat (first | refine zz6 ?_ _ | refine zz7 ?_ | refine zz8 ?_ _));exact BK763.out)):gb768 ≠ gb763));clear HO757;clear HO761;clear HO767;clear BK752;clear BK763;clear HB;have HO757:=n0_;have HO761:=n1_;have HO767:=n2_;have BK752:=n3_;have BK763:=n4_;have HB:=n5_;have BK768:=n6_;have GW768:=n7_;have GE768:=n8_;have NB752_768:=n9_;have NB768_752:=n10_;have NB763_768:=n11_;have NB768_763:=n12_;clear n0_ n1_ n2_ n3_ n4_ n5_ n6_ n7_ n8_ n9_ n10_ n11_ n12_;clear hb hbox hg;have hnb30:=NB768_752.out;have hnc30:=NB752_768.out;have hnb31:=NB768_763.out;have hnc31:=NB763_768.out;have hcz32_0:w29.cell? ⟨gb768,0,none⟩=some (.int .i64 0):=(zz9 BK768.out 0).trans rfl;have hcz32_1:w29.cell? ⟨gb768,1,none⟩=some (.slice none 0 0):=(zz9 BK768.out 1).trans rfl;have hfz32_0:=zz10 BK768.out 0;have hfz32_1:=zz10 BK768.out 1;obtain ⟨Ao33,co33,eo33⟩:=Kd.R_slice HO767.out;subst eo33) | ((with_reducible refine gate_callee (f:=37) rfl ?_);refine goesL_ (some 45) rfl rfl Try.func37 (by kernel_rfl) rfl #[.agg #[.int .i64 t764,.slice Ao33 t765.length co33],.int .i64 a1,.int .i64 a2,.int .i64 a3,.int .i64 a4] rfl (by (try simp only [zz26,zz27,zz28]);first | done | rfl | (simp only [zz24,zz25];rfl)) ?_;(with_reducible refine (impl_ExchangePairs.calls k t764 _ _ t765 a1 a2 a3 a4 t769 t770 t773 _ ?side1 ?side2 A14.out).mono ?_);(case side1=>refine (Kd.R_reads' (e:=80) (base:=w.heap.size) (ok:=fun k_=>((True∧some k_ ≠ (.slice Ao21 t755.length co21:Value).ownBlock)∧some k_ ≠ (.slice Ao26 t759.length co26:Value).ownBlock)) (n:=t765.length) (c:=co33) ?_).2.2;exact (by (with_reducible repeat (first | apply zz12 | apply zz13 | apply zz14));exact (Kd.R_mono (Kd.R_far (p:=⟨gb768,1,none⟩) (Kd.R_far (p:=⟨gb768,0,none⟩) (Kd.R_types HO767.out BK768.out (by decide)) (fun _ hk=>hk.2) (.int .i64 t764)) (fun _ hk=>hk.2) (.slice Ao33 t765.length co33)) (fun _ h_=>h_.1))));(case side2=>exact (Kd.R_reads' HO767.out).2.1);rintro e w34 ⟨v771,rfl,ho0,hb⟩;refine ⟨_,rfl,?_⟩;have n0_:=zz31 (Kd.R_elder' (by (with_reducible repeat (first | apply zz12 | apply zz13 | apply zz14));exact (Kd.R_mono (Kd.R_far (p:=⟨gb768,1,none⟩) (Kd.R_far (p:=⟨gb768,0,none⟩) (Kd.R_types HO757.out BK768.out (by decide)) (fun _ hk=>hk.2) (.int .i64 t764)) (fun _ hk=>hk.2) (.slice Ao33 t765.length co33)) (fun _ h_=>h_.1))) (Kd.R_base ho0) hb);have n1_:=zz31 (Kd.R_elder' (by (with_reducible repeat (first | apply zz12 | apply zz13 | apply zz14));exact (Kd.R_mono (Kd.R_far (p:=⟨gb768,1,none⟩) (Kd.R_far (p:=⟨gb768,0,none⟩) (Kd.R_types HO761.out BK768.out (by decide)) (fun _ hk=>hk.2) (.int .i64 t764)) (fun _ hk=>hk.2) (.slice Ao33 t765.length co33)) (fun _ h_=>h_.1))) (Kd.R_base ho0) hb);have n2_:=zz31 (Kd.R_elder' (by (with_reducible repeat (first | apply zz12 | apply zz13 | apply zz14));exact (Kd.R_mono (Kd.R_far (p:=⟨gb768,1,none⟩) (Kd.R_far (p:=⟨gb768,0,none⟩) (Kd.R_types HO767.out BK768.out (by decide)) (fun _ hk=>hk.2) (.int .i64 t764)) (fun _ hk=>hk.2) (.slice Ao33 t765.length co33)) (fun _ h_=>h_.1))) (Kd.R_base ho0) hb);have n3_:=zz31 (Kd.R_lower (Kd.R_new' (Kd.R_new' (Kd.R_new' ho0 (Kd.R_lt (by (with_reducible repeat (first | apply zz12 | apply zz13 | apply zz14));exact (Kd.R_mono (Kd.R_far (p:=⟨gb768,1,none⟩) (Kd.R_far (p:=⟨gb768,0,none⟩) (Kd.R_types HO757.out BK768.out (by decide)) (fun _ hk=>hk.2) (.int .i64 t764)) (fun _ hk=>hk.2) (.slice Ao33 t765.length co33)) (fun _ h_=>h_.1))))) (Kd.R_lt (by (with_reducible repeat (first | apply zz12 | apply zz13 | apply zz14));exact (Kd.R_mono (Kd.R_far (p:=⟨gb768,1,none⟩) (Kd.R_far (p:=⟨gb768,0,none⟩) (Kd.R_types HO761.out BK768.out (by decide)) (fun _ hk=>hk.2) (.int .i64 t764)) (fun _ hk=>hk.2) (.slice Ao33 t765.length co33)) (fun _ h_=>h_.1))))) (Kd.R_lt (by (with_reducible repeat (first | apply zz12 | apply zz13 | apply zz14));exact (Kd.R_mono (Kd.R_far (p:=⟨gb768,1,none⟩) (Kd.R_far (p:=⟨gb768,0,none⟩) (Kd.R_types HO767.out BK768.out (by decide)) (fun _ hk=>hk.2) (.int .i64 t764)) (fun _ hk=>hk.2) (.slice Ao33 t765.length co33)) (fun _ h_=>h_.1))))) (zz5 (by repeat first | exact HB.out | apply zz2 | apply zz0 | apply zz1 | refine zz3 ?_ GE752.out | refine zz3 ?_ GE763.out | refine zz3 ?_ GE768.out)));have n4_:=zz31 (zz11 (g:=gb752) (o:=.cells #[.int .i64 a0_0,.slice A0_1 l0_1.length c0_1] 24 (0,0)) (by (with_reducible repeat (first | refine zz6 ?_ _ | refine zz7 ?_ | refine zz8 ?_ _));refine blk_far ?_ NB752_768.out _;(with_reducible repeat (first | refine zz6 ?_ _ | refine zz7 ?_ | refine zz8 ?_ _));refine blk_far ?_ NB752_768.out _;(with_reducible repeat (first | refine zz6 ?_ _ | refine zz7 ?_ | refine zz8 ?_ _));exact BK752.out) hb);have n5_:=zz31 (zz11 (g:=gb763) (o:=.cells #[.int .i64 t758,.slice Ao26 t759.length co26] 30 (0,0)) (by (with_reducible repeat (first | refine zz6 ?_ _ | refine zz7 ?_ | refine zz8 ?_ _));refine blk_far ?_ NB763_768.out _;(with_reducible repeat (first | refine zz6 ?_ _ | refine zz7 ?_ | refine zz8 ?_ _));refine blk_far ?_ NB763_768.out _;(with_reducible repeat (first | refine zz6 ?_ _ | refine zz7 ?_ | refine zz8 ?_ _));exact BK763.out) hb);have n6_:=zz31 (zz11 (g:=gb768) (o:=.cells #[.int .i64 t764,.slice Ao33 t765.length co33] 30 (0,0)) (by (with_reducible repeat (first | refine zz6 ?_ _ | refine zz7 ?_ | refine zz8 ?_ _));refine blk_put (cs:=#[.int .i64 t764,.slice none 0 0]) ?_ 1 _ rfl;(with_reducible repeat (first | refine zz6 ?_ _ | refine zz7 ?_ | refine zz8 ?_ _));refine blk_put (cs:=#[.int .i64 0,.slice none 0 0]) ?_ 0 _ rfl;(with_reducible repeat (first | refine zz6 ?_ _ | refine zz7 ?_ | refine zz8 ?_ _));exact BK768.out) hb);have n7_:=zz31 (zz4 (by repeat first | exact HB.out | apply zz2 | apply zz0 | apply zz1 | refine zz3 ?_ GE752.out | refine zz3 ?_ GE763.out | refine zz3 ?_ GE768.out) hb);clear HO757;clear HO761;clear HO767;clear BK752;clear BK763;clear BK768;clear HB;have HO757:=n0_;have HO761:=n1_;have HO767:=n2_;have HO772:=n3_;have BK752:=n4_;have BK763:=n5_;have BK768:=n6_;have HB:=n7_;clear n0_ n1_ n2_ n3_ n4_ n5_ n6_ n7_;(try clear hb);(try clear hb2);(try clear hk);(try clear hi);(try clear ho0)) | ((with_reducible refine gate_dst (N:=15) rfl ?_);refine box_event ?hg (N:=15) ?hd (cs:=#[.int .i64 0,.slice none 0 0]) (t:=30) ?hr ?_;(case hd=>rfl);(case hg=>rfl);(case hr=>first | (go_simp;done) | (go_simp;rfl));intro gb774 hg w35 hbox hb;have n0_:=zz31 (Kd.R_below (by (with_reducible repeat (first | apply zz12 | apply zz13 | apply zz14));exact HO757.out) hb);have n1_:=zz31 (Kd.R_below (by (with_reducible repeat (first | apply zz12 | apply zz13 | apply zz14));exact HO761.out) hb);have n2_:=zz31 (Kd.R_below (by (with_reducible repeat (first | apply zz12 | apply zz13 | apply zz14));exact HO767.out) hb);have n3_:=zz31 (Kd.R_below (by (with_reducible repeat (first | apply zz12 | apply zz13 | apply zz14));exact HO772.out) hb);have n4_:=zz31 (zz11 (g:=gb752) (o:=.cells #[.int .i64 a0_0,.slice A0_1 l0_1.length c0_1] 24 (0,0)) (by (with_reducible repeat (first | refine zz6 ?_ _ | refine zz7 ?_ | refine zz8 ?_ _));exact BK752.out) hb);have n5_:=zz31 (zz11 (g:=gb763) (o:=.cells #[.int .i64 t758,.slice Ao26 t759.length co26] 30 (0,0)) (by (with_reducible repeat (first | refine zz6 ?_ _ | refine zz7 ?_ | refine zz8 ?_ _));exact BK763.out) hb);have n6_:=zz31 (zz11 (g:=gb768) (o:=.cells #[.int .i64 t764,.slice Ao33 t765.length co33] 30 (0,0)) (by (with_reducible repeat (first | refine zz6 ?_ _ | refine zz7 ?_ | refine zz8 ?_ _));exact BK768.out) hb);have n7_:=zz31 (zz4 (by repeat first | exact HB.out | apply zz2 | apply zz0 | apply zz1 | refine zz3 ?_ GE752.out | refine zz3 ?_ GE763.out | refine zz3 ?_ GE768.out) hb);have n8_:=zz31 (hbox);have n9_:=zz31 ((by rw [hg];exact (zz5 (by repeat first | exact HB.out | apply zz2 | apply zz0 | apply zz1 | refine zz3 ?_ GE752.out | refine zz3 ?_ GE763.out | refine zz3 ?_ GE768.out)):w.heap.size≤gb774));have n10_:=zz31 ((by rw [hg];exact (zz5 (by repeat first | exact HB.out | apply zz2 | apply zz0 | apply zz1 | refine zz3 ?_ GE752.out | refine zz3 ?_ GE763.out | refine zz3 ?_ GE768.out)):w.heap.size≤gb774));have n11_:=zz31 ((by rw [hg];exact Nat.ne_of_lt (blk_lt (g:=gb752) (o:=.cells #[.int .i64 a0_0,.slice A0_1 l0_1.length c0_1] 24 (0,0)) (by (with_reducible repeat (first | refine zz6 ?_ _ | refine zz7 ?_ | refine zz8 ?_ _));exact BK752.out)):gb752 ≠ gb774));have n12_:=zz31 ((by rw [hg];exact Nat.ne_of_gt (blk_lt (g:=gb752) (o:=.cells #[.int .i64 a0_0,.slice A0_1 l0_1.length c0_1] 24 (0,0)) (by (with_reducible repeat (first | refine zz6 ?_ _ | refine zz7 ?_ | refine zz8 ?_ _));exact BK752.out)):gb774 ≠ gb752));have n13_:=zz31 ((by rw [hg];exact Nat.ne_of_lt (blk_lt (g:=gb763) (o:=.cells #[.int .i64 t758,.slice Ao26 t759.length co26] 30 (0,0)) (by (with_reducible repeat (first | refine zz6 ?_ _ | refine zz7 ?_ | refine zz8 ?_ _));exact BK763.out)):gb763 ≠ gb774));have n14_:=zz31 ((by rw [hg];exact Nat.ne_of_gt (blk_lt (g:=gb763) (o:=.cells #[.int .i64 t758,.slice Ao26 t759.length co26] 30 (0,0)) (by (with_reducible repeat (first | refine zz6 ?_ _ | refine zz7 ?_ | refine zz8 ?_ _));exact BK763.out)):gb774 ≠ gb763));have n15_:=zz31 ((by rw [hg];exact Nat.ne_of_lt (blk_lt (g:=gb768) (o:=.cells #[.int .i64 t764,.slice Ao33 t765.length co33] 30 (0,0)) (by (with_reducible repeat (first | refine zz6 ?_ _ | refine zz7 ?_ | refine zz8 ?_ _));exact BK768.out)):gb768 ≠ gb774));have n16_:=zz31 ((by rw [hg];exact Nat.ne_of_gt (blk_lt (g:=gb768) (o:=.cells #[.int .i64 t764,.slice Ao33 t765.length co33] 30 (0,0)) (by (with_reducible repeat (first | refine zz6 ?_ _ | refine zz7 ?_ | refine zz8 ?_ _));exact BK768.out)):gb774 ≠ gb768));clear HO757;clear HO761;clear HO767;clear HO772;clear BK752;clear BK763;clear BK768;clear HB;have HO757:=n0_;have HO761:=n1_;have HO767:=n2_;have HO772:=n3_;have BK752:=n4_;have BK763:=n5_;have BK768:=n6_;have HB:=n7_;have BK774:=n8_;have GW774:=n9_;have GE774:=n10_;have NB752_774:=n11_;have NB774_752:=n12_;have NB763_774:=n13_;have NB774_763:=n14_;have NB768_774:=n15_;have NB774_768:=n16_;clear n0_ n1_ n2_ n3_ n4_ n5_ n6_ n7_ n8_ n9_ n10_ n11_ n12_ n13_ n14_ n15_ n16_;clear hb hbox hg;have hnb36:=NB774_752.out;have hnc36:=NB752_774.out;have hnb37:=NB774_763.out;have hnc37:=NB763_774.out;have hnb38:=NB774_768.out;have hnc38:=NB768_774.out;have hcz39_0:w35.cell? ⟨gb774,0,none⟩=some (.int .i64 0):=(zz9 BK774.out 0).trans rfl;have hcz39_1:w35.cell? ⟨gb774,1,none⟩=some (.slice none 0 0):=(zz9 BK774.out 1).trans rfl;have hfz39_0:=zz10 BK774.out 0;have hfz39_1:=zz10 BK774.out 1;obtain ⟨Ao40,co40,eo40⟩:=Kd.R_slice HO772.out;subst eo40))
  (try simp only [Act.put,zz21,zz22,zz23])
  go_cut [56] (fun v56 wc=>∃ (kq:Nat) (x56_14:Bool),v56=.bool x56_14∧Aside0 (laws_FnExactExchangePairs.j0 kq a1 a2 a3 a4 t762 t773 x56_14 a0_0 l0_1 t758 t759 t764 t765 t769 t770=some r)∧Aside0 (kq≤k)∧Aside0 (Kd.R k80 80 wc w.heap.size (fun k_=>some k_ ≠ ((.slice Ao33 t765.length co33):Value).ownBlock∧some k_ ≠ ((.slice Ao40 t770.length co40):Value).ownBlock) (.slice Ao26 t759.length co26) t759)∧Aside0 (Kd.R k80 80 wc w.heap.size (fun k_=>some k_ ≠ ((.slice Ao26 t759.length co26):Value).ownBlock∧some k_ ≠ ((.slice Ao40 t770.length co40):Value).ownBlock) (.slice Ao33 t765.length co33) t765)∧Aside0 (Kd.R k80 80 wc w.heap.size (fun k_=>some k_ ≠ ((.slice Ao26 t759.length co26):Value).ownBlock∧some k_ ≠ ((.slice Ao33 t765.length co33):Value).ownBlock) (.slice Ao40 t770.length co40) t770)∧Aside0 (wc.heap[gb752]?=some (.cells #[.int .i64 a0_0,(.slice A0_1 l0_1.length c0_1)] 24 (0,0)))∧Aside0 (wc.heap[gb763]?=some (.cells #[.int .i64 t758,(.slice Ao26 t759.length co26)] 30 (0,0)))∧Aside0 (wc.heap[gb768]?=some (.cells #[.int .i64 t764,(.slice Ao33 t765.length co33)] 30 (0,0)))∧Aside0 (wc.heap[gb774]?=some (.cells #[.int .i64 t769,(.slice Ao40 t770.length co40)] 30 (0,0)))∧Aside0 (Below w.heap.size w wc))
  case first =>
   have H:=HC15.out
   clear HC15
   replace H:=zz30.mp H
   obtain ⟨t775,A410,H⟩:=H
   replace H:(if t775=true then (laws_FnExactExchangePairs.j0 k a1 a2 a3 a4 t762 t773 (t773 != t762) a0_0 l0_1 t758 t759 t764 t765 t769 t770) else (laws_FnExactExchangePairs.j0 k a1 a2 a3 a4 t762 t773 true a0_0 l0_1 t758 t759 t764 t765 t769 t770))=some r:=H
   have A41:=zz31 A410
   clear A410
   by_cases c42:t775=true
   ·subst c42
    have H1:(laws_FnExactExchangePairs.j0 k a1 a2 a3 a4 t762 t773 (t773 != t762) a0_0 l0_1 t758 t759 t764 t765 t769 t770)=some r:=by rw [if_pos rfl] at H;exact H
    clear H
    have H:=H1
    clear H1
    have H':=zz31 H
    clear H
    have hnb43:=NB774_752.out
    have hnc43:=NB752_774.out
    have hnb44:=NB774_763.out
    have hnc44:=NB763_774.out
    have hnb45:=NB774_768.out
    have hnc45:=NB768_774.out
    have hcz46_0:w35.cell? ⟨gb774,0,none⟩=some (.int .i64 0):=(zz9 BK774.out 0).trans rfl
    have hcz46_1:w35.cell? ⟨gb774,1,none⟩=some (.slice none 0 0):=(zz9 BK774.out 1).trans rfl
    have hfz46_0:=zz10 BK774.out 0
    have hfz46_1:=zz10 BK774.out 1
    have hnb47:=NB763_752.out
    have hnc47:=NB752_763.out
    have hnb48:=NB763_768.out
    have hnc48:=NB768_763.out
    have hcz49_0:w35.cell? ⟨gb763,0,none⟩=some (.int .i64 t758):=(zz9 BK763.out 0).trans rfl
    have hcz49_1:w35.cell? ⟨gb763,1,none⟩=some (.slice Ao26 t759.length co26):=(zz9 BK763.out 1).trans rfl
    have hfz49_0:=zz10 BK763.out 0
    have hfz49_1:=zz10 BK763.out 1
    go_wp2_with (first | ((with_reducible refine gate_callee (f:=16) rfl ?_);refine goesL_ (some 50) rfl rfl Try.func16 (by kernel_rfl) rfl #[.agg #[.int .i64 t769,.slice Ao40 t770.length co40],.agg #[.int .i64 t758,.slice Ao26 t759.length co26]] rfl (by (try simp only [zz26,zz27,zz28]);first | done | rfl | (simp only [zz24,zz25];rfl)) ?_;(with_reducible refine (laws_eqParty.calls k t769 _ _ t770 t758 _ _ t759 true _ ?side1 ?side2 ?side3 ?side4 A41.out).mono ?_);(case side1=>refine (Kd.R_reads' (e:=80) (base:=w.heap.size) (ok:=fun k_=>(((True∧some k_ ≠ (.slice Ao21 t755.length co21:Value).ownBlock)∧some k_ ≠ (.slice Ao26 t759.length co26:Value).ownBlock)∧some k_ ≠ (.slice Ao33 t765.length co33:Value).ownBlock)) (n:=t770.length) (c:=co40) ?_).2.2;exact (by (with_reducible repeat (first | apply zz12 | apply zz13 | apply zz14));exact (Kd.R_mono (Kd.R_far (p:=⟨gb774,1,none⟩) (Kd.R_far (p:=⟨gb774,0,none⟩) (Kd.R_types HO772.out BK774.out (by decide)) (fun _ hk=>hk.2) (.int .i64 t769)) (fun _ hk=>hk.2) (.slice Ao40 t770.length co40)) (fun _ h_=>h_.1))));(case side2=>exact (Kd.R_reads' HO772.out).2.1);(case side3=>refine (Kd.R_reads' (e:=80) (base:=w.heap.size) (ok:=fun k_=>(((True∧some k_ ≠ (.slice Ao21 t755.length co21:Value).ownBlock)∧some k_ ≠ (.slice Ao33 t765.length co33:Value).ownBlock)∧some k_ ≠ (.slice Ao40 t770.length co40:Value).ownBlock)) (n:=t759.length) (c:=co26) ?_).2.2;exact (by (with_reducible repeat (first | apply zz12 | apply zz13 | apply zz14));exact (Kd.R_mono (Kd.R_far (p:=⟨gb774,1,none⟩) (Kd.R_far (p:=⟨gb774,0,none⟩) (Kd.R_types HO761.out BK774.out (by decide)) (fun _ hk=>hk.2) (.int .i64 t769)) (fun _ hk=>hk.2) (.slice Ao40 t770.length co40)) (fun _ h_=>h_.1))));(case side4=>exact (Kd.R_reads' HO761.out).2.1);rintro e w50 ⟨rfl,hb⟩;refine ⟨_,rfl,?_⟩;have n0_:=zz31 (Kd.R_below (by (with_reducible repeat (first | apply zz12 | apply zz13 | apply zz14));exact (Kd.R_mono (Kd.R_far (p:=⟨gb774,1,none⟩) (Kd.R_far (p:=⟨gb774,0,none⟩) (Kd.R_types HO757.out BK774.out (by decide)) (fun _ hk=>hk.2) (.int .i64 t769)) (fun _ hk=>hk.2) (.slice Ao40 t770.length co40)) (fun _ h_=>h_.1))) hb);have n1_:=zz31 (Kd.R_below (by (with_reducible repeat (first | apply zz12 | apply zz13 | apply zz14));exact (Kd.R_mono (Kd.R_far (p:=⟨gb774,1,none⟩) (Kd.R_far (p:=⟨gb774,0,none⟩) (Kd.R_types HO761.out BK774.out (by decide)) (fun _ hk=>hk.2) (.int .i64 t769)) (fun _ hk=>hk.2) (.slice Ao40 t770.length co40)) (fun _ h_=>h_.1))) hb);have n2_:=zz31 (Kd.R_below (by (with_reducible repeat (first | apply zz12 | apply zz13 | apply zz14));exact (Kd.R_mono (Kd.R_far (p:=⟨gb774,1,none⟩) (Kd.R_far (p:=⟨gb774,0,none⟩) (Kd.R_types HO767.out BK774.out (by decide)) (fun _ hk=>hk.2) (.int .i64 t769)) (fun _ hk=>hk.2) (.slice Ao40 t770.length co40)) (fun _ h_=>h_.1))) hb);have n3_:=zz31 (Kd.R_below (by (with_reducible repeat (first | apply zz12 | apply zz13 | apply zz14));exact (Kd.R_mono (Kd.R_far (p:=⟨gb774,1,none⟩) (Kd.R_far (p:=⟨gb774,0,none⟩) (Kd.R_types HO772.out BK774.out (by decide)) (fun _ hk=>hk.2) (.int .i64 t769)) (fun _ hk=>hk.2) (.slice Ao40 t770.length co40)) (fun _ h_=>h_.1))) hb);have n4_:=zz31 (zz11 (g:=gb752) (o:=.cells #[.int .i64 a0_0,.slice A0_1 l0_1.length c0_1] 24 (0,0)) (by (with_reducible repeat (first | refine zz6 ?_ _ | refine zz7 ?_ | refine zz8 ?_ _));refine blk_far ?_ NB752_774.out _;(with_reducible repeat (first | refine zz6 ?_ _ | refine zz7 ?_ | refine zz8 ?_ _));refine blk_far ?_ NB752_774.out _;(with_reducible repeat (first | refine zz6 ?_ _ | refine zz7 ?_ | refine zz8 ?_ _));exact BK752.out) hb);have n5_:=zz31 (zz11 (g:=gb763) (o:=.cells #[.int .i64 t758,.slice Ao26 t759.length co26] 30 (0,0)) (by (with_reducible repeat (first | refine zz6 ?_ _ | refine zz7 ?_ | refine zz8 ?_ _));refine blk_far ?_ NB763_774.out _;(with_reducible repeat (first | refine zz6 ?_ _ | refine zz7 ?_ | refine zz8 ?_ _));refine blk_far ?_ NB763_774.out _;(with_reducible repeat (first | refine zz6 ?_ _ | refine zz7 ?_ | refine zz8 ?_ _));exact BK763.out) hb);have n6_:=zz31 (zz11 (g:=gb768) (o:=.cells #[.int .i64 t764,.slice Ao33 t765.length co33] 30 (0,0)) (by (with_reducible repeat (first | refine zz6 ?_ _ | refine zz7 ?_ | refine zz8 ?_ _));refine blk_far ?_ NB768_774.out _;(with_reducible repeat (first | refine zz6 ?_ _ | refine zz7 ?_ | refine zz8 ?_ _));refine blk_far ?_ NB768_774.out _;(with_reducible repeat (first | refine zz6 ?_ _ | refine zz7 ?_ | refine zz8 ?_ _));exact BK768.out) hb);have n7_:=zz31 (zz11 (g:=gb774) (o:=.cells #[.int .i64 t769,.slice Ao40 t770.length co40] 30 (0,0)) (by (with_reducible repeat (first | refine zz6 ?_ _ | refine zz7 ?_ | refine zz8 ?_ _));refine blk_put (cs:=#[.int .i64 t769,.slice none 0 0]) ?_ 1 _ rfl;(with_reducible repeat (first | refine zz6 ?_ _ | refine zz7 ?_ | refine zz8 ?_ _));refine blk_put (cs:=#[.int .i64 0,.slice none 0 0]) ?_ 0 _ rfl;(with_reducible repeat (first | refine zz6 ?_ _ | refine zz7 ?_ | refine zz8 ?_ _));exact BK774.out) hb);have n8_:=zz31 (zz4 (by repeat first | exact HB.out | apply zz2 | apply zz0 | apply zz1 | refine zz3 ?_ GE752.out | refine zz3 ?_ GE763.out | refine zz3 ?_ GE768.out | refine zz3 ?_ GE774.out) hb);clear HO757;clear HO761;clear HO767;clear HO772;clear BK752;clear BK763;clear BK768;clear BK774;clear HB;have HO757:=n0_;have HO761:=n1_;have HO767:=n2_;have HO772:=n3_;have BK752:=n4_;have BK763:=n5_;have BK768:=n6_;have BK774:=n7_;have HB:=n8_;clear n0_ n1_ n2_ n3_ n4_ n5_ n6_ n7_ n8_;(try clear hb);(try clear hb2);(try clear hk);(try clear hi)))
    go_meet
    case rel=>exact ⟨_,((t773 != t762)),(by first | rfl | (simp;done) | (simp [*];done)),H',⟨by first | omega | exact Nat.le_refl _⟩,⟨by (with_reducible repeat (first | apply zz12 | apply zz13 | apply zz14));exact Kd.R_mono HO761.out (fun _ hk=>⟨hk.1.2,hk.2⟩)⟩,⟨by (with_reducible repeat (first | apply zz12 | apply zz13 | apply zz14));exact Kd.R_mono HO767.out (fun _ hk=>⟨hk.1.2,hk.2⟩)⟩,⟨by (with_reducible repeat (first | apply zz12 | apply zz13 | apply zz14));exact Kd.R_mono HO772.out (fun _ hk=>⟨hk.1.2,hk.2⟩)⟩,⟨by (with_reducible repeat (first | refine zz6 ?_ _ | refine zz7 ?_ | refine zz8 ?_ _));exact BK752.out⟩,⟨by (with_reducible repeat (first | refine zz6 ?_ _ | refine zz7 ?_ | refine zz8 ?_ _));exact BK763.out⟩,⟨by (with_reducible repeat (first | refine zz6 ?_ _ | refine zz7 ?_ | refine zz8 ?_ _));exact BK768.out⟩,⟨by (with_reducible repeat (first | refine zz6 ?_ _ | refine zz7 ?_ | refine zz8 ?_ _));exact BK774.out⟩,⟨by repeat first | exact HB.out | apply zz2 | apply zz0 | apply zz1 | refine zz3 ?_ GE752.out | refine zz3 ?_ GE763.out | refine zz3 ?_ GE768.out | refine zz3 ?_ GE774.out⟩⟩
   ·replace c42:=Bool.eq_false_iff.mpr c42
    subst c42
    have H1:(laws_FnExactExchangePairs.j0 k a1 a2 a3 a4 t762 t773 true a0_0 l0_1 t758 t759 t764 t765 t769 t770)=some r:=by rw [if_neg (show ¬ (false=true) by decide)] at H;exact H
    clear H
    have H:=H1
    clear H1
    have H':=zz31 H
    clear H
    have hnb51:=NB774_752.out
    have hnc51:=NB752_774.out
    have hnb52:=NB774_763.out
    have hnc52:=NB763_774.out
    have hnb53:=NB774_768.out
    have hnc53:=NB768_774.out
    have hcz54_0:w35.cell? ⟨gb774,0,none⟩=some (.int .i64 0):=(zz9 BK774.out 0).trans rfl
    have hcz54_1:w35.cell? ⟨gb774,1,none⟩=some (.slice none 0 0):=(zz9 BK774.out 1).trans rfl
    have hfz54_0:=zz10 BK774.out 0
    have hfz54_1:=zz10 BK774.out 1
    have hnb55:=NB763_752.out
    have hnc55:=NB752_763.out
    have hnb56:=NB763_768.out
    have hnc56:=NB768_763.out
    have hcz57_0:w35.cell? ⟨gb763,0,none⟩=some (.int .i64 t758):=(zz9 BK763.out 0).trans rfl
    have hcz57_1:w35.cell? ⟨gb763,1,none⟩=some (.slice Ao26 t759.length co26):=(zz9 BK763.out 1).trans rfl
    have hfz57_0:=zz10 BK763.out 0
    have hfz57_1:=zz10 BK763.out 1
    go_wp2_with (first | ((with_reducible refine gate_callee (f:=16) rfl ?_);refine goesL_ (some 50) rfl rfl Try.func16 (by kernel_rfl) rfl #[.agg #[.int .i64 t769,.slice Ao40 t770.length co40],.agg #[.int .i64 t758,.slice Ao26 t759.length co26]] rfl (by (try simp only [zz26,zz27,zz28]);first | done | rfl | (simp only [zz24,zz25];rfl)) ?_;(with_reducible refine (laws_eqParty.calls k t769 _ _ t770 t758 _ _ t759 false _ ?side1 ?side2 ?side3 ?side4 A41.out).mono ?_);(case side1=>refine (Kd.R_reads' (e:=80) (base:=w.heap.size) (ok:=fun k_=>(((True∧some k_ ≠ (.slice Ao21 t755.length co21:Value).ownBlock)∧some k_ ≠ (.slice Ao26 t759.length co26:Value).ownBlock)∧some k_ ≠ (.slice Ao33 t765.length co33:Value).ownBlock)) (n:=t770.length) (c:=co40) ?_).2.2;exact (by (with_reducible repeat (first | apply zz12 | apply zz13 | apply zz14));exact (Kd.R_mono (Kd.R_far (p:=⟨gb774,1,none⟩) (Kd.R_far (p:=⟨gb774,0,none⟩) (Kd.R_types HO772.out BK774.out (by decide)) (fun _ hk=>hk.2) (.int .i64 t769)) (fun _ hk=>hk.2) (.slice Ao40 t770.length co40)) (fun _ h_=>h_.1))));(case side2=>exact (Kd.R_reads' HO772.out).2.1);(case side3=>refine (Kd.R_reads' (e:=80) (base:=w.heap.size) (ok:=fun k_=>(((True∧some k_ ≠ (.slice Ao21 t755.length co21:Value).ownBlock)∧some k_ ≠ (.slice Ao33 t765.length co33:Value).ownBlock)∧some k_ ≠ (.slice Ao40 t770.length co40:Value).ownBlock)) (n:=t759.length) (c:=co26) ?_).2.2;exact (by (with_reducible repeat (first | apply zz12 | apply zz13 | apply zz14));exact (Kd.R_mono (Kd.R_far (p:=⟨gb774,1,none⟩) (Kd.R_far (p:=⟨gb774,0,none⟩) (Kd.R_types HO761.out BK774.out (by decide)) (fun _ hk=>hk.2) (.int .i64 t769)) (fun _ hk=>hk.2) (.slice Ao40 t770.length co40)) (fun _ h_=>h_.1))));(case side4=>exact (Kd.R_reads' HO761.out).2.1);rintro e w58 ⟨rfl,hb⟩;refine ⟨_,rfl,?_⟩;have n0_:=zz31 (Kd.R_below (by (with_reducible repeat (first | apply zz12 | apply zz13 | apply zz14));exact (Kd.R_mono (Kd.R_far (p:=⟨gb774,1,none⟩) (Kd.R_far (p:=⟨gb774,0,none⟩) (Kd.R_types HO757.out BK774.out (by decide)) (fun _ hk=>hk.2) (.int .i64 t769)) (fun _ hk=>hk.2) (.slice Ao40 t770.length co40)) (fun _ h_=>h_.1))) hb);have n1_:=zz31 (Kd.R_below (by (with_reducible repeat (first | apply zz12 | apply zz13 | apply zz14));exact (Kd.R_mono (Kd.R_far (p:=⟨gb774,1,none⟩) (Kd.R_far (p:=⟨gb774,0,none⟩) (Kd.R_types HO761.out BK774.out (by decide)) (fun _ hk=>hk.2) (.int .i64 t769)) (fun _ hk=>hk.2) (.slice Ao40 t770.length co40)) (fun _ h_=>h_.1))) hb);have n2_:=zz31 (Kd.R_below (by (with_reducible repeat (first | apply zz12 | apply zz13 | apply zz14));exact (Kd.R_mono (Kd.R_far (p:=⟨gb774,1,none⟩) (Kd.R_far (p:=⟨gb774,0,none⟩) (Kd.R_types HO767.out BK774.out (by decide)) (fun _ hk=>hk.2) (.int .i64 t769)) (fun _ hk=>hk.2) (.slice Ao40 t770.length co40)) (fun _ h_=>h_.1))) hb);have n3_:=zz31 (Kd.R_below (by (with_reducible repeat (first | apply zz12 | apply zz13 | apply zz14));exact (Kd.R_mono (Kd.R_far (p:=⟨gb774,1,none⟩) (Kd.R_far (p:=⟨gb774,0,none⟩) (Kd.R_types HO772.out BK774.out (by decide)) (fun _ hk=>hk.2) (.int .i64 t769)) (fun _ hk=>hk.2) (.slice Ao40 t770.length co40)) (fun _ h_=>h_.1))) hb);have n4_:=zz31 (zz11 (g:=gb752) (o:=.cells #[.int .i64 a0_0,.slice A0_1 l0_1.length c0_1] 24 (0,0)) (by (with_reducible repeat (first | refine zz6 ?_ _ | refine zz7 ?_ | refine zz8 ?_ _));refine blk_far ?_ NB752_774.out _;(with_reducible repeat (first | refine zz6 ?_ _ | refine zz7 ?_ | refine zz8 ?_ _));refine blk_far ?_ NB752_774.out _;(with_reducible repeat (first | refine zz6 ?_ _ | refine zz7 ?_ | refine zz8 ?_ _));exact BK752.out) hb);have n5_:=zz31 (zz11 (g:=gb763) (o:=.cells #[.int .i64 t758,.slice Ao26 t759.length co26] 30 (0,0)) (by (with_reducible repeat (first | refine zz6 ?_ _ | refine zz7 ?_ | refine zz8 ?_ _));refine blk_far ?_ NB763_774.out _;(with_reducible repeat (first | refine zz6 ?_ _ | refine zz7 ?_ | refine zz8 ?_ _));refine blk_far ?_ NB763_774.out _;(with_reducible repeat (first | refine zz6 ?_ _ | refine zz7 ?_ | refine zz8 ?_ _));exact BK763.out) hb);have n6_:=zz31 (zz11 (g:=gb768) (o:=.cells #[.int .i64 t764,.slice Ao33 t765.length co33] 30 (0,0)) (by (with_reducible repeat (first | refine zz6 ?_ _ | refine zz7 ?_ | refine zz8 ?_ _));refine blk_far ?_ NB768_774.out _;(with_reducible repeat (first | refine zz6 ?_ _ | refine zz7 ?_ | refine zz8 ?_ _));refine blk_far ?_ NB768_774.out _;(with_reducible repeat (first | refine zz6 ?_ _ | refine zz7 ?_ | refine zz8 ?_ _));exact BK768.out) hb);have n7_:=zz31 (zz11 (g:=gb774) (o:=.cells #[.int .i64 t769,.slice Ao40 t770.length co40] 30 (0,0)) (by (with_reducible repeat (first | refine zz6 ?_ _ | refine zz7 ?_ | refine zz8 ?_ _));refine blk_put (cs:=#[.int .i64 t769,.slice none 0 0]) ?_ 1 _ rfl;(with_reducible repeat (first | refine zz6 ?_ _ | refine zz7 ?_ | refine zz8 ?_ _));refine blk_put (cs:=#[.int .i64 0,.slice none 0 0]) ?_ 0 _ rfl;(with_reducible repeat (first | refine zz6 ?_ _ | refine zz7 ?_ | refine zz8 ?_ _));exact BK774.out) hb);have n8_:=zz31 (zz4 (by repeat first | exact HB.out | apply zz2 | apply zz0 | apply zz1 | refine zz3 ?_ GE752.out | refine zz3 ?_ GE763.out | refine zz3 ?_ GE768.out | refine zz3 ?_ GE774.out) hb);clear HO757;clear HO761;clear HO767;clear HO772;clear BK752;clear BK763;clear BK768;clear BK774;clear HB;have HO757:=n0_;have HO761:=n1_;have HO767:=n2_;have HO772:=n3_;have BK752:=n4_;have BK763:=n5_;have BK768:=n6_;have BK774:=n7_;have HB:=n8_;clear n0_ n1_ n2_ n3_ n4_ n5_ n6_ n7_ n8_;(try clear hb);(try clear hb2);(try clear hk);(try clear hi)))
    go_meet
    case rel=>exact ⟨_,(true),(by first | rfl | (simp;done) | (simp [*];done)),H',⟨by first | omega | exact Nat.le_refl _⟩,⟨by (with_reducible repeat (first | apply zz12 | apply zz13 | apply zz14));exact Kd.R_mono HO761.out (fun _ hk=>⟨hk.1.2,hk.2⟩)⟩,⟨by (with_reducible repeat (first | apply zz12 | apply zz13 | apply zz14));exact Kd.R_mono HO767.out (fun _ hk=>⟨hk.1.2,hk.2⟩)⟩,⟨by (with_reducible repeat (first | apply zz12 | apply zz13 | apply zz14));exact Kd.R_mono HO772.out (fun _ hk=>⟨hk.1.2,hk.2⟩)⟩,⟨by (with_reducible repeat (first | refine zz6 ?_ _ | refine zz7 ?_ | refine zz8 ?_ _));exact BK752.out⟩,⟨by (with_reducible repeat (first | refine zz6 ?_ _ | refine zz7 ?_ | refine zz8 ?_ _));exact BK763.out⟩,⟨by (with_reducible repeat (first | refine zz6 ?_ _ | refine zz7 ?_ | refine zz8 ?_ _));exact BK768.out⟩,⟨by (with_reducible repeat (first | refine zz6 ?_ _ | refine zz7 ?_ | refine zz8 ?_ _));exact BK774.out⟩,⟨by repeat first | exact HB.out | apply zz2 | apply zz0 | apply zz1 | refine zz3 ?_ GE752.out | refine zz3 ?_ GE763.out | refine zz3 ?_ GE768.out | refine zz3 ?_ GE774.out⟩⟩
  case rest =>
   clear HC15
   try clear c1
   try clear c2
   try clear p2
   try clear c3
   try clear c4
   try clear c5
   try clear c7
   try clear c7b0
   try clear c10
   try clear c12
   try clear c14
   try clear c16
   try clear c24
   try clear c30
   try clear c31
   try clear c36
   try clear c37
   try clear c38
   try clear c42
   try clear c43
   try clear c44
   try clear c45
   try clear c47
   try clear c48
   try clear c51
   try clear c52
   try clear c53
   try clear c55
   try clear c56
   try clear hcz17_0
   try clear hcz17_1
   try clear hcz19_0
   try clear hcz19_1
   try clear hcz25_0
   try clear hcz25_1
   try clear hcz27_0
   try clear hcz27_1
   try clear hcz32_0
   try clear hcz32_1
   try clear hcz39_0
   try clear hcz39_1
   try clear hcz46_0
   try clear hcz46_1
   try clear hcz49_0
   try clear hcz49_1
   try clear hcz54_0
   try clear hcz54_1
   try clear hcz57_0
   try clear hcz57_1
   try clear hcz9_0
   try clear hcz9_1
   try clear hfz17_0
   try clear hfz17_1
   try clear hfz19_0
   try clear hfz19_1
   try clear hfz25_0
   try clear hfz25_1
   try clear hfz27_0
   try clear hfz27_1
   try clear hfz32_0
   try clear hfz32_1
   try clear hfz39_0
   try clear hfz39_1
   try clear hfz46_0
   try clear hfz46_1
   try clear hfz49_0
   try clear hfz49_1
   try clear hfz54_0
   try clear hfz54_1
   try clear hfz57_0
   try clear hfz57_1
   try clear hfz9_0
   try clear hfz9_1
   obtain ⟨kq,x56_14,rfl,HA,HJ14,HO_764001,HO_769001,HO_775001,BK752,BK763,BK768,BK774,HB⟩:=hcut
   cases kq with
   | zero=>exact absurd HA.out (by simp [laws_FnExactExchangePairs.j0])
   | succ kj14 =>
    have H:=HA.out
    clear HA
    simp only [laws_FnExactExchangePairs.j0] at H
    by_cases c59:x56_14=true
    ·subst c59
     have H1:(some false)=some r:=by rw [if_pos rfl] at H;exact H
     clear H
     have H:=H1
     clear H1
     obtain rfl:=Option.some.inj H
     go_wp2
     go_ret
     exact ⟨by first | rfl | (simp [errW_none,errW_some] <;> rfl) | (simp [*,errW_none,errW_some] <;> rfl),by repeat first | exact HB.out | apply zz2 | apply zz0 | apply zz1 | refine zz3 ?_ GE752.out | refine zz3 ?_ GE763.out | refine zz3 ?_ GE768.out | refine zz3 ?_ GE774.out⟩
    ·replace c59:=Bool.eq_false_iff.mpr c59
     subst c59
     have H1:((laws_toParty.f kj14 a0_0 l0_1).bind fun bt776=>((laws_eqParty.f kj14 t764 t765 bt776.1 bt776.2).bind fun t780=>(if t780=true then ((laws_markParty.f kj14 t764 t765 1).bind fun bt781=>(if bt781.1 < 0 then (laws_FnExactExchangePairs.j1 kj14 a1 a2 a3 a4 t762 true a0_0 l0_1 t758 t759 t769 t770) else ((laws_eqParty.f kj14 t769 t770 t758 t759).bind fun t783=>(if t783=true then (laws_FnExactExchangePairs.j1 kj14 a1 a2 a3 a4 t762 (t773 != t762) a0_0 l0_1 t758 t759 t769 t770) else (laws_FnExactExchangePairs.j1 kj14 a1 a2 a3 a4 t762 true a0_0 l0_1 t758 t759 t769 t770))))) else (some false))))=some r:=by rw [if_neg (show ¬ (false=true) by decide)] at H;exact H
     clear H
     have H:=H1
     clear H1
     replace H:=zz30.mp H
     obtain ⟨⟨t776,t777⟩,A600,H⟩:=H
     replace H:((laws_eqParty.f kj14 t764 t765 t776 t777).bind fun t780=>(if t780=true then ((laws_markParty.f kj14 t764 t765 1).bind fun bt781=>(if bt781.1 < 0 then (laws_FnExactExchangePairs.j1 kj14 a1 a2 a3 a4 t762 true a0_0 l0_1 t758 t759 t769 t770) else ((laws_eqParty.f kj14 t769 t770 t758 t759).bind fun t783=>(if t783=true then (laws_FnExactExchangePairs.j1 kj14 a1 a2 a3 a4 t762 (t773 != t762) a0_0 l0_1 t758 t759 t769 t770) else (laws_FnExactExchangePairs.j1 kj14 a1 a2 a3 a4 t762 true a0_0 l0_1 t758 t759 t769 t770))))) else (some false)))=some r:=H
     have A60:=zz31 A600
     clear A600
     replace H:=zz30.mp H
     obtain ⟨t780,A610,H⟩:=H
     replace H:(if t780=true then ((laws_markParty.f kj14 t764 t765 1).bind fun bt781=>(if bt781.1 < 0 then (laws_FnExactExchangePairs.j1 kj14 a1 a2 a3 a4 t762 true a0_0 l0_1 t758 t759 t769 t770) else ((laws_eqParty.f kj14 t769 t770 t758 t759).bind fun t783=>(if t783=true then (laws_FnExactExchangePairs.j1 kj14 a1 a2 a3 a4 t762 (t773 != t762) a0_0 l0_1 t758 t759 t769 t770) else (laws_FnExactExchangePairs.j1 kj14 a1 a2 a3 a4 t762 true a0_0 l0_1 t758 t759 t769 t770))))) else (some false))=some r:=H
     have A61:=zz31 A610
     clear A610
     by_cases c62:t780=true
     ·subst c62
      have H1:((laws_markParty.f kj14 t764 t765 1).bind fun bt781=>(if bt781.1 < 0 then (laws_FnExactExchangePairs.j1 kj14 a1 a2 a3 a4 t762 true a0_0 l0_1 t758 t759 t769 t770) else ((laws_eqParty.f kj14 t769 t770 t758 t759).bind fun t783=>(if t783=true then (laws_FnExactExchangePairs.j1 kj14 a1 a2 a3 a4 t762 (t773 != t762) a0_0 l0_1 t758 t759 t769 t770) else (laws_FnExactExchangePairs.j1 kj14 a1 a2 a3 a4 t762 true a0_0 l0_1 t758 t759 t769 t770)))))=some r:=by rw [if_pos rfl] at H;exact H
      clear H
      have H:=H1
      clear H1
      replace H:=zz30.mp H
      obtain ⟨⟨t781,t782⟩,A630,H⟩:=H
      replace H:(if t781 < 0 then (laws_FnExactExchangePairs.j1 kj14 a1 a2 a3 a4 t762 true a0_0 l0_1 t758 t759 t769 t770) else ((laws_eqParty.f kj14 t769 t770 t758 t759).bind fun t783=>(if t783=true then (laws_FnExactExchangePairs.j1 kj14 a1 a2 a3 a4 t762 (t773 != t762) a0_0 l0_1 t758 t759 t769 t770) else (laws_FnExactExchangePairs.j1 kj14 a1 a2 a3 a4 t762 true a0_0 l0_1 t758 t759 t769 t770))))=some r:=H
      have A63:=zz31 A630
      clear A630
      have HC64:=zz31 H
      clear H
      try go_wp2
      have n0_:=zz31 (zz14 HO_764001.out)
      have n1_:=zz31 (zz14 HO_769001.out)
      have n2_:=zz31 (zz14 HO_775001.out)
      have n3_:=zz31 (zz7 BK752.out)
      have n4_:=zz31 (zz7 BK763.out)
      have n5_:=zz31 (zz7 BK768.out)
      have n6_:=zz31 (zz7 BK774.out)
      have n7_:=zz31 (zz1 HB.out)
      clear HO_764001
      clear HO_769001
      clear HO_775001
      clear BK752
      clear BK763
      clear BK768
      clear BK774
      clear HB
      have HO_764001:=n0_
      have HO_769001:=n1_
      have HO_775001:=n2_
      have BK752:=n3_
      have BK763:=n4_
      have BK768:=n5_
      have BK774:=n6_
      have HB:=n7_
      clear n0_ n1_ n2_ n3_ n4_ n5_ n6_ n7_
      refine start_ (n:=5) (S:=fun w'=>w'.cell? ⟨gb768,0,none⟩=some (.int .i64 t764)∧w'.cell? ⟨gb768,1,none⟩=some (.slice Ao33 t765.length co33)∧w'.cell? ⟨gb752,0,none⟩=some (.int .i64 a0_0)∧w'.cell? ⟨gb752,1,none⟩=some (.slice A0_1 l0_1.length c0_1)) (ds:=[]) #[F,F,F,F,F] (by kernel_rfl) rfl rfl ⟨(zz9 BK768.out 0).trans rfl,(zz9 BK768.out 1).trans rfl,(zz9 BK752.out 0).trans rfl,(zz9 BK752.out 1).trans rfl⟩ (fun hHeld=>?_)
      generalize wc.drew=w65 at HO_764001 HO_769001 HO_775001 BK752 BK763 BK768 BK774 HB hHeld ⊢
      refine take_ (i:=0) (N:=some 57) (v:=?_) (a':=?_) #[T,F,F,F,F] rfl rfl (by kernel_rfl) (fun _ _ _ h=>h) (Or.inl ⟨by rfl,?_⟩) hHeld ?_ ?_
      rotate_left
      ·rintro w' ⟨s0,s1,s2,s3⟩
       go_simp
       with_reducible rfl
      rotate_left
      ·simp only [Act.put,zz21,zz22,zz23,i64_w,i32_w]
       rfl
      refine take_ (i:=1) (N:=some 58) (v:=?_) (a':=?_) #[T,T,F,F,F] rfl rfl (by kernel_rfl) (fun _ _ _ h=>h) (Or.inl ⟨by rfl,?_⟩) hHeld ?_ ?_
      rotate_left
      ·rintro w' ⟨s0,s1,s2,s3⟩
       go_simp
       with_reducible rfl
      rotate_left
      ·simp only [Act.put,zz21,zz22,zz23,i64_w,i32_w]
       rfl
      refine one_ (i:=2) (N:=some 59) #[T,T,T,F,F] rfl rfl (by kernel_rfl) (by decide) (fun K hK=>?_)
      refine goes_ Try.func14 (by kernel_rfl) rfl #[.agg #[.int .i64 a0_0,.slice A0_1 l0_1.length c0_1]] (by rfl) rfl rfl (by (try simp only [zz26,zz27,zz28]);first | done | rfl | (simp only [zz24,zz25];rfl)) ?_
      with_reducible refine (laws_toParty.calls kj14 a0_0 _ _ l0_1 t776 t777 _ ?side1 ?side2 A60.out).mono ?_
      (case side1=>repeat (first | exact (Kd.C_below HR0_1.out HB.out) | (with_reducible refine zz18 ?_ _) | (with_reducible refine zz19 ?_ _) | (with_reducible refine zz20 ?_)))
      (case side2=>exact HC0_1.out)
      rintro e w66 ⟨v778,rfl,ho0,hb⟩
      refine ⟨_,rfl,?_⟩
      have n0_:=zz31 (Kd.R_elder' (by (with_reducible repeat (first | apply zz12 | apply zz13 | apply zz14));exact HO_764001.out) (Kd.R_base ho0) hb)
      have n1_:=zz31 (Kd.R_elder' (by (with_reducible repeat (first | apply zz12 | apply zz13 | apply zz14));exact HO_769001.out) (Kd.R_base ho0) hb)
      have n2_:=zz31 (Kd.R_elder' (by (with_reducible repeat (first | apply zz12 | apply zz13 | apply zz14));exact HO_775001.out) (Kd.R_base ho0) hb)
      have n3_:=zz31 (Kd.R_lower (Kd.R_new' (Kd.R_new' (Kd.R_new' ho0 (Kd.R_lt (by (with_reducible repeat (first | apply zz12 | apply zz13 | apply zz14));exact HO_764001.out))) (Kd.R_lt (by (with_reducible repeat (first | apply zz12 | apply zz13 | apply zz14));exact HO_769001.out))) (Kd.R_lt (by (with_reducible repeat (first | apply zz12 | apply zz13 | apply zz14));exact HO_775001.out))) (zz5 (by repeat first | exact HB.out | apply zz2 | apply zz0 | apply zz1 | refine zz3 ?_ GE752.out | refine zz3 ?_ GE763.out | refine zz3 ?_ GE768.out | refine zz3 ?_ GE774.out)))
      have n4_:=zz31 (zz11 (g:=gb752) (o:=.cells #[.int .i64 a0_0,.slice A0_1 l0_1.length c0_1] 24 (0,0)) (by (with_reducible repeat (first | refine zz6 ?_ _ | refine zz7 ?_ | refine zz8 ?_ _));exact BK752.out) hb)
      have n5_:=zz31 (zz11 (g:=gb763) (o:=.cells #[.int .i64 t758,.slice Ao26 t759.length co26] 30 (0,0)) (by (with_reducible repeat (first | refine zz6 ?_ _ | refine zz7 ?_ | refine zz8 ?_ _));exact BK763.out) hb)
      have n6_:=zz31 (zz11 (g:=gb768) (o:=.cells #[.int .i64 t764,.slice Ao33 t765.length co33] 30 (0,0)) (by (with_reducible repeat (first | refine zz6 ?_ _ | refine zz7 ?_ | refine zz8 ?_ _));exact BK768.out) hb)
      have n7_:=zz31 (zz11 (g:=gb774) (o:=.cells #[.int .i64 t769,.slice Ao40 t770.length co40] 30 (0,0)) (by (with_reducible repeat (first | refine zz6 ?_ _ | refine zz7 ?_ | refine zz8 ?_ _));exact BK774.out) hb)
      have n8_:=zz31 (zz4 (by repeat first | exact HB.out | apply zz2 | apply zz0 | apply zz1 | refine zz3 ?_ GE752.out | refine zz3 ?_ GE763.out | refine zz3 ?_ GE768.out | refine zz3 ?_ GE774.out) hb)
      clear HO_764001
      clear HO_769001
      clear HO_775001
      clear BK752
      clear BK763
      clear BK768
      clear BK774
      clear HB
      have HO_764001:=n0_
      have HO_769001:=n1_
      have HO_775001:=n2_
      have HO779:=n3_
      have BK752:=n4_
      have BK763:=n5_
      have BK768:=n6_
      have BK774:=n7_
      have HB:=n8_
      clear n0_ n1_ n2_ n3_ n4_ n5_ n6_ n7_ n8_
      (try clear hb)
      (try clear hb2)
      (try clear hk)
      (try clear hi)
      (try clear ho0)
      obtain ⟨Ao67,co67,eo67⟩:=Kd.R_slice HO779.out
      (first | subst eo67 | (injection eo67 with f1_ f2_ f3_;have f4_:=f1_.symm;have f5_:=f3_.symm;clear f1_ f2_ f3_;subst f4_;subst f5_))
      refine hK.out _ _ ⟨(zz9 BK768.out 0).trans rfl,(zz9 BK768.out 1).trans rfl,(zz9 BK752.out 0).trans rfl,(zz9 BK752.out 1).trans rfl⟩ (fun hHeld=>?_)
      clear hK K
      refine norm_ (a':=?_) ?_ ?_
      rotate_left
      ·show Act.put _ (some 59) _=_
       simp only [Act.put,zz21,zz22,zz23,i64_w,i32_w]
       rfl
      refine one_ (i:=3) (N:=some 60) #[T,T,T,T,F] rfl rfl (by kernel_rfl) (by decide) (fun K hK=>?_)
      refine goes_ Try.func16 (by kernel_rfl) rfl #[.agg #[.int .i64 t764,.slice Ao33 t765.length co33],.agg #[.int .i64 t776,.slice Ao67 t777.length co67]] (by rfl) rfl rfl (by (try simp only [zz26,zz27,zz28]);first | done | rfl | (simp only [zz24,zz25];rfl)) ?_
      with_reducible refine (laws_eqParty.calls kj14 t764 _ _ t765 t776 _ _ t777 true _ ?side1 ?side2 ?side3 ?side4 A61.out).mono ?_
      (case side1=>repeat (first | exact (Kd.R_reads' HO_769001.out).2.2 | (with_reducible refine zz18 ?_ _) | (with_reducible refine zz19 ?_ _) | (with_reducible refine zz20 ?_)))
      (case side2=>exact (Kd.R_reads' HO_769001.out).2.1)
      (case side3=>repeat (first | exact (Kd.R_reads' HO779.out).2.2 | (with_reducible refine zz18 ?_ _) | (with_reducible refine zz19 ?_ _) | (with_reducible refine zz20 ?_)))
      (case side4=>exact (Kd.R_reads' HO779.out).2.1)
      rintro e w68 ⟨rfl,hb⟩
      refine ⟨_,rfl,?_⟩
      have n0_:=zz31 (Kd.R_below (by (with_reducible repeat (first | apply zz12 | apply zz13 | apply zz14));exact HO_764001.out) hb)
      have n1_:=zz31 (Kd.R_below (by (with_reducible repeat (first | apply zz12 | apply zz13 | apply zz14));exact HO_769001.out) hb)
      have n2_:=zz31 (Kd.R_below (by (with_reducible repeat (first | apply zz12 | apply zz13 | apply zz14));exact HO_775001.out) hb)
      have n3_:=zz31 (Kd.R_below (by (with_reducible repeat (first | apply zz12 | apply zz13 | apply zz14));exact HO779.out) hb)
      have n4_:=zz31 (zz11 (g:=gb752) (o:=.cells #[.int .i64 a0_0,.slice A0_1 l0_1.length c0_1] 24 (0,0)) (by (with_reducible repeat (first | refine zz6 ?_ _ | refine zz7 ?_ | refine zz8 ?_ _));exact BK752.out) hb)
      have n5_:=zz31 (zz11 (g:=gb763) (o:=.cells #[.int .i64 t758,.slice Ao26 t759.length co26] 30 (0,0)) (by (with_reducible repeat (first | refine zz6 ?_ _ | refine zz7 ?_ | refine zz8 ?_ _));exact BK763.out) hb)
      have n6_:=zz31 (zz11 (g:=gb768) (o:=.cells #[.int .i64 t764,.slice Ao33 t765.length co33] 30 (0,0)) (by (with_reducible repeat (first | refine zz6 ?_ _ | refine zz7 ?_ | refine zz8 ?_ _));exact BK768.out) hb)
      have n7_:=zz31 (zz11 (g:=gb774) (o:=.cells #[.int .i64 t769,.slice Ao40 t770.length co40] 30 (0,0)) (by (with_reducible repeat (first | refine zz6 ?_ _ | refine zz7 ?_ | refine zz8 ?_ _));exact BK774.out) hb)
      have n8_:=zz31 (zz4 (by repeat first | exact HB.out | apply zz2 | apply zz0 | apply zz1 | refine zz3 ?_ GE752.out | refine zz3 ?_ GE763.out | refine zz3 ?_ GE768.out | refine zz3 ?_ GE774.out) hb)
      clear HO_764001
      clear HO_769001
      clear HO_775001
      clear HO779
      clear BK752
      clear BK763
      clear BK768
      clear BK774
      clear HB
      have HO_764001:=n0_
      have HO_769001:=n1_
      have HO_775001:=n2_
      have HO779:=n3_
      have BK752:=n4_
      have BK763:=n5_
      have BK768:=n6_
      have BK774:=n7_
      have HB:=n8_
      clear n0_ n1_ n2_ n3_ n4_ n5_ n6_ n7_ n8_
      (try clear hb)
      (try clear hb2)
      (try clear hk)
      (try clear hi)
      refine hK.out _ _ ⟨(zz9 BK768.out 0).trans rfl,(zz9 BK768.out 1).trans rfl,(zz9 BK752.out 0).trans rfl,(zz9 BK752.out 1).trans rfl⟩ (fun hHeld=>?_)
      clear hK K
      refine norm_ (a':=?_) ?_ ?_
      rotate_left
      ·show Act.put _ (some 60) _=_
       simp only [Act.put,zz21,zz22,zz23,i64_w,i32_w]
       rfl
      refine pure_ (i:=4) (N:=some 61) (v:=?_) (a':=?_) #[T,T,T,T,T] rfl rfl (by kernel_rfl) (fun _ _ _ h=>h) (Or.inl ⟨by rfl,?_⟩) ?_ ?_
      rotate_left
      ·intro w'
       go_simp
       with_reducible rfl
      rotate_left
      ·simp only [Act.put,zz21,zz22,zz23,i64_w,i32_w]
       rfl
      refine done_ (by kernel_rfl) ?_
      have hnb69:=NB768_752.out
      have hnc69:=NB752_768.out
      have hnb70:=NB768_763.out
      have hnc70:=NB763_768.out
      have hnb71:=NB768_774.out
      have hnc71:=NB774_768.out
      have hcz72_0:w68.cell? ⟨gb768,0,none⟩=some (.int .i64 t764):=(zz9 BK768.out 0).trans rfl
      have hcz72_1:w68.cell? ⟨gb768,1,none⟩=some (.slice Ao33 t765.length co33):=(zz9 BK768.out 1).trans rfl
      have hfz72_0:=zz10 BK768.out 0
      have hfz72_1:=zz10 BK768.out 1
      go_upto_region 14 with (first | ((with_reducible refine gate_callee (f:=20) rfl ?_);refine goesL_ (some 64) rfl rfl Try.func20 (by kernel_rfl) rfl #[.agg #[.int .i64 t764,.slice Ao33 t765.length co33],.int .i64 1] rfl (by (try simp only [zz26,zz27,zz28]);first | done | rfl | (simp only [zz24,zz25];rfl)) ?_;(with_reducible refine (laws_markParty.calls kj14 t764 (fun k_=>some k_=(.slice Ao33 t765.length co33:Value).ownBlock) (.slice Ao33 t765.length co33) t765 1 t781 t782 w _ ?side1 ?side2 A63.out).mono ?_);(case side1=>repeat first | exact HB.out | apply zz2 | apply zz0 | apply zz1 | refine zz3 ?_ GE752.out | refine zz3 ?_ GE763.out | refine zz3 ?_ GE768.out | refine zz3 ?_ GE774.out);(case side2=>exact Kd.R_tight rfl HO_769001.out);rintro e w73 ⟨rfl,hy0,hb,hkp⟩;refine ⟨_,rfl,?_⟩;have n0_:=zz31 (Kd.R_mono (ok':=fun k_=>some k_ ≠ (.slice Ao33 t765.length co33:Value).ownBlock∧some k_ ≠ (.slice Ao40 t770.length co40:Value).ownBlock∧some k_ ≠ (.slice Ao67 t777.length co67:Value).ownBlock) (Kd.R_keptB (HO_764001.out) hkp (fun k_ hk_ hs_=>(hk_.1.1) hs_)) (fun k_ hk_=>⟨hk_.1.1.1,hk_.1.1.2,hk_.1.2⟩));have n1_:=zz31 (Kd.R_reok rfl hy0 (fun k_ e_=>HO_769001.out.1 k_ e_));have n2_:=zz31 (Kd.R_mono (ok':=fun k_=>some k_ ≠ (.slice Ao26 t759.length co26:Value).ownBlock∧some k_ ≠ (.slice Ao33 t765.length co33:Value).ownBlock∧some k_ ≠ (.slice Ao67 t777.length co67:Value).ownBlock) (Kd.R_keptB (HO_775001.out) hkp (fun k_ hk_ hs_=>(hk_.1.2) hs_)) (fun k_ hk_=>⟨hk_.1.1.1,hk_.1.1.2,hk_.1.2⟩));(first | have n3_:=zz31 (blk_kept BK752.out hkp (fun hs_=>(fun e_=>(Kd.R_ne HO_769001.out BK752.out (by decide)) e_) hs_)) | have n3_:=zz31 (blk_kept (by (with_reducible repeat (first | refine zz6 ?_ _ | refine zz7 ?_ | refine zz8 ?_ _));exact BK752.out) hkp (fun hs_=>(fun e_=>(Kd.R_ne HO_769001.out BK752.out (by decide)) e_) hs_)));(first | have n4_:=zz31 (blk_kept BK763.out hkp (fun hs_=>(fun e_=>(Kd.R_ne HO_769001.out BK763.out (by decide)) e_) hs_)) | have n4_:=zz31 (blk_kept (by (with_reducible repeat (first | refine zz6 ?_ _ | refine zz7 ?_ | refine zz8 ?_ _));exact BK763.out) hkp (fun hs_=>(fun e_=>(Kd.R_ne HO_769001.out BK763.out (by decide)) e_) hs_)));(first | have n5_:=zz31 (blk_kept BK768.out hkp (fun hs_=>(fun e_=>(Kd.R_ne HO_769001.out BK768.out (by decide)) e_) hs_)) | have n5_:=zz31 (blk_kept (by (with_reducible repeat (first | refine zz6 ?_ _ | refine zz7 ?_ | refine zz8 ?_ _));exact BK768.out) hkp (fun hs_=>(fun e_=>(Kd.R_ne HO_769001.out BK768.out (by decide)) e_) hs_)));(first | have n6_:=zz31 (blk_kept BK774.out hkp (fun hs_=>(fun e_=>(Kd.R_ne HO_769001.out BK774.out (by decide)) e_) hs_)) | have n6_:=zz31 (blk_kept (by (with_reducible repeat (first | refine zz6 ?_ _ | refine zz7 ?_ | refine zz8 ?_ _));exact BK774.out) hkp (fun hs_=>(fun e_=>(Kd.R_ne HO_769001.out BK774.out (by decide)) e_) hs_)));have n7_:=zz31 (Kd.R_mono (ok':=fun k_=>some k_ ≠ (.slice Ao26 t759.length co26:Value).ownBlock∧some k_ ≠ (.slice Ao33 t765.length co33:Value).ownBlock∧some k_ ≠ (.slice Ao40 t770.length co40:Value).ownBlock) (Kd.R_keptB (HO779.out) hkp (fun k_ hk_ hs_=>(hk_.1.2) hs_)) (fun k_ hk_=>⟨hk_.1.1.1.2,hk_.1.1.2,hk_.1.2⟩));have n8_:=zz31 (hb);clear HO_764001;clear HO_769001;clear HO_775001;clear BK752;clear BK763;clear BK768;clear BK774;clear HO779;clear HB;have HO_764001:=n0_;have HO_769001:=n1_;have HO_775001:=n2_;have BK752:=n3_;have BK763:=n4_;have BK768:=n5_;have BK774:=n6_;have HO779:=n7_;have HB:=n8_;clear n0_ n1_ n2_ n3_ n4_ n5_ n6_ n7_ n8_;(try clear hb);(try clear hkp);(try clear hy0)))
      (try simp only [Act.put,zz21,zz22,zz23])
      go_cut [77] (fun v77 wc=>∃ (kq:Nat) (x77_63:Bool),v77=.bool x77_63∧Aside0 (laws_FnExactExchangePairs.j1 kq a1 a2 a3 a4 t762 x77_63 a0_0 l0_1 t758 t759 t769 t770=some r)∧Aside0 (kq≤kj14)∧Aside0 (Kd.R k80 80 wc w.heap.size (fun k_=>some k_ ≠ ((.slice Ao33 t765.length co33):Value).ownBlock∧some k_ ≠ ((.slice Ao40 t770.length co40):Value).ownBlock) (.slice Ao26 t759.length co26) t759)∧Aside0 (Kd.R k80 80 wc w.heap.size (fun k_=>some k_ ≠ ((.slice Ao26 t759.length co26):Value).ownBlock∧some k_ ≠ ((.slice Ao40 t770.length co40):Value).ownBlock) (.slice Ao33 t765.length co33) t782)∧Aside0 (Kd.R k80 80 wc w.heap.size (fun k_=>some k_ ≠ ((.slice Ao26 t759.length co26):Value).ownBlock∧some k_ ≠ ((.slice Ao33 t765.length co33):Value).ownBlock) (.slice Ao40 t770.length co40) t770)∧Aside0 (wc.heap[gb752]?=some (.cells #[.int .i64 a0_0,(.slice A0_1 l0_1.length c0_1)] 24 (0,0)))∧Aside0 (wc.heap[gb763]?=some (.cells #[.int .i64 t758,(.slice Ao26 t759.length co26)] 30 (0,0)))∧Aside0 (wc.heap[gb768]?=some (.cells #[.int .i64 t764,(.slice Ao33 t765.length co33)] 30 (0,0)))∧Aside0 (wc.heap[gb774]?=some (.cells #[.int .i64 t769,(.slice Ao40 t770.length co40)] 30 (0,0)))∧Aside0 (Below w.heap.size w wc))
      case first =>
       have H:=HC64.out
       clear HC64
       by_cases c74:t781 < 0
       ·rw [if_pos c74] at H
        have c74b0:decide (t781 < 0)=true:=decide_eq_true c74
        clear c74
        (first | rw [c74b0] | (simp only [i64_w,i32_w];rw [c74b0]) | skip)
        have H':=zz31 H
        clear H
        go_wp2
        go_meet
        case rel=>exact ⟨_,(true),(by first | rfl | (simp;done) | (simp [*];done)),H',⟨by have:=HJ14.out;first | omega | exact Nat.le_refl _⟩,⟨by (with_reducible repeat (first | apply zz12 | apply zz13 | apply zz14));exact Kd.R_mono HO_764001.out (fun _ hk=>⟨hk.1,hk.2.1⟩)⟩,⟨by (with_reducible repeat (first | apply zz12 | apply zz13 | apply zz14));exact Kd.R_mono HO_769001.out (fun _ hk=>⟨hk.1.1,hk.1.2⟩)⟩,⟨by (with_reducible repeat (first | apply zz12 | apply zz13 | apply zz14));exact Kd.R_mono HO_775001.out (fun _ hk=>⟨hk.1,hk.2.1⟩)⟩,⟨by (with_reducible repeat (first | refine zz6 ?_ _ | refine zz7 ?_ | refine zz8 ?_ _));exact BK752.out⟩,⟨by (with_reducible repeat (first | refine zz6 ?_ _ | refine zz7 ?_ | refine zz8 ?_ _));exact BK763.out⟩,⟨by (with_reducible repeat (first | refine zz6 ?_ _ | refine zz7 ?_ | refine zz8 ?_ _));exact BK768.out⟩,⟨by (with_reducible repeat (first | refine zz6 ?_ _ | refine zz7 ?_ | refine zz8 ?_ _));exact BK774.out⟩,⟨by repeat first | exact HB.out | apply zz2 | apply zz0 | apply zz1 | refine zz3 ?_ GE752.out | refine zz3 ?_ GE763.out | refine zz3 ?_ GE768.out | refine zz3 ?_ GE774.out⟩⟩
       ·rw [if_neg c74] at H
        have c74b0:decide (t781 < 0)=false:=decide_eq_false c74
        clear c74
        (first | rw [c74b0] | (simp only [i64_w,i32_w];rw [c74b0]) | skip)
        replace H:=zz30.mp H
        obtain ⟨t783,A750,H⟩:=H
        replace H:(if t783=true then (laws_FnExactExchangePairs.j1 kj14 a1 a2 a3 a4 t762 (t773 != t762) a0_0 l0_1 t758 t759 t769 t770) else (laws_FnExactExchangePairs.j1 kj14 a1 a2 a3 a4 t762 true a0_0 l0_1 t758 t759 t769 t770))=some r:=H
        have A75:=zz31 A750
        clear A750
        by_cases c76:t783=true
        ·subst c76
         have H1:(laws_FnExactExchangePairs.j1 kj14 a1 a2 a3 a4 t762 (t773 != t762) a0_0 l0_1 t758 t759 t769 t770)=some r:=by rw [if_pos rfl] at H;exact H
         clear H
         have H:=H1
         clear H1
         have H':=zz31 H
         clear H
         have hnb77:=NB774_752.out
         have hnc77:=NB752_774.out
         have hnb78:=NB774_763.out
         have hnc78:=NB763_774.out
         have hnb79:=NB774_768.out
         have hnc79:=NB768_774.out
         have hcz80_0:w73.cell? ⟨gb774,0,none⟩=some (.int .i64 t769):=(zz9 BK774.out 0).trans rfl
         have hcz80_1:w73.cell? ⟨gb774,1,none⟩=some (.slice Ao40 t770.length co40):=(zz9 BK774.out 1).trans rfl
         have hfz80_0:=zz10 BK774.out 0
         have hfz80_1:=zz10 BK774.out 1
         have hnb81:=NB763_752.out
         have hnc81:=NB752_763.out
         have hnb82:=NB763_768.out
         have hnc82:=NB768_763.out
         have hcz83_0:w73.cell? ⟨gb763,0,none⟩=some (.int .i64 t758):=(zz9 BK763.out 0).trans rfl
         have hcz83_1:w73.cell? ⟨gb763,1,none⟩=some (.slice Ao26 t759.length co26):=(zz9 BK763.out 1).trans rfl
         have hfz83_0:=zz10 BK763.out 0
         have hfz83_1:=zz10 BK763.out 1
         go_wp2_with (first | (go_at_call 16;(with_reducible refine (laws_eqParty.calls kj14 t769 _ _ t770 t758 _ _ t759 true _ ?side1 ?side2 ?side3 ?side4 A75.out).mono ?_);(case side1=>repeat (first | exact (Kd.R_reads' HO_775001.out).2.2 | (with_reducible refine zz18 ?_ _) | (with_reducible refine zz19 ?_ _) | (with_reducible refine zz20 ?_)));(case side2=>exact (Kd.R_reads' HO_775001.out).2.1);(case side3=>repeat (first | exact (Kd.R_reads' HO_764001.out).2.2 | (with_reducible refine zz18 ?_ _) | (with_reducible refine zz19 ?_ _) | (with_reducible refine zz20 ?_)));(case side4=>exact (Kd.R_reads' HO_764001.out).2.1);rintro e w84 ⟨rfl,hb⟩;have n0_:=zz31 (Kd.R_below (by (with_reducible repeat (first | apply zz12 | apply zz13 | apply zz14));exact HO_764001.out) hb);have n1_:=zz31 (Kd.R_below (by (with_reducible repeat (first | apply zz12 | apply zz13 | apply zz14));exact HO_769001.out) hb);have n2_:=zz31 (Kd.R_below (by (with_reducible repeat (first | apply zz12 | apply zz13 | apply zz14));exact HO_775001.out) hb);have n3_:=zz31 (Kd.R_below (by (with_reducible repeat (first | apply zz12 | apply zz13 | apply zz14));exact HO779.out) hb);have n4_:=zz31 (zz11 (g:=gb752) (o:=.cells #[.int .i64 a0_0,.slice A0_1 l0_1.length c0_1] 24 (0,0)) (by (with_reducible repeat (first | refine zz6 ?_ _ | refine zz7 ?_ | refine zz8 ?_ _));exact BK752.out) hb);have n5_:=zz31 (zz11 (g:=gb763) (o:=.cells #[.int .i64 t758,.slice Ao26 t759.length co26] 30 (0,0)) (by (with_reducible repeat (first | refine zz6 ?_ _ | refine zz7 ?_ | refine zz8 ?_ _));exact BK763.out) hb);have n6_:=zz31 (zz11 (g:=gb768) (o:=.cells #[.int .i64 t764,.slice Ao33 t765.length co33] 30 (0,0)) (by (with_reducible repeat (first | refine zz6 ?_ _ | refine zz7 ?_ | refine zz8 ?_ _));exact BK768.out) hb);have n7_:=zz31 (zz11 (g:=gb774) (o:=.cells #[.int .i64 t769,.slice Ao40 t770.length co40] 30 (0,0)) (by (with_reducible repeat (first | refine zz6 ?_ _ | refine zz7 ?_ | refine zz8 ?_ _));exact BK774.out) hb);have n8_:=zz31 (zz4 (by repeat first | exact HB.out | apply zz2 | apply zz0 | apply zz1 | refine zz3 ?_ GE752.out | refine zz3 ?_ GE763.out | refine zz3 ?_ GE768.out | refine zz3 ?_ GE774.out) hb);clear HO_764001;clear HO_769001;clear HO_775001;clear HO779;clear BK752;clear BK763;clear BK768;clear BK774;clear HB;have HO_764001:=n0_;have HO_769001:=n1_;have HO_775001:=n2_;have HO779:=n3_;have BK752:=n4_;have BK763:=n5_;have BK768:=n6_;have BK774:=n7_;have HB:=n8_;clear n0_ n1_ n2_ n3_ n4_ n5_ n6_ n7_ n8_;(try clear hb);(try clear hb2);(try clear hk);(try clear hi)))
         go_meet
         case rel=>exact ⟨_,((t773 != t762)),(by first | rfl | (simp;done) | (simp [*];done)),H',⟨by have:=HJ14.out;first | omega | exact Nat.le_refl _⟩,⟨by (with_reducible repeat (first | apply zz12 | apply zz13 | apply zz14));exact Kd.R_mono HO_764001.out (fun _ hk=>⟨hk.1,hk.2.1⟩)⟩,⟨by (with_reducible repeat (first | apply zz12 | apply zz13 | apply zz14));exact Kd.R_mono HO_769001.out (fun _ hk=>⟨hk.1.1,hk.1.2⟩)⟩,⟨by (with_reducible repeat (first | apply zz12 | apply zz13 | apply zz14));exact Kd.R_mono HO_775001.out (fun _ hk=>⟨hk.1,hk.2.1⟩)⟩,⟨by (with_reducible repeat (first | refine zz6 ?_ _ | refine zz7 ?_ | refine zz8 ?_ _));exact BK752.out⟩,⟨by (with_reducible repeat (first | refine zz6 ?_ _ | refine zz7 ?_ | refine zz8 ?_ _));exact BK763.out⟩,⟨by (with_reducible repeat (first | refine zz6 ?_ _ | refine zz7 ?_ | refine zz8 ?_ _));exact BK768.out⟩,⟨by (with_reducible repeat (first | refine zz6 ?_ _ | refine zz7 ?_ | refine zz8 ?_ _));exact BK774.out⟩,⟨by repeat first | exact HB.out | apply zz2 | apply zz0 | apply zz1 | refine zz3 ?_ GE752.out | refine zz3 ?_ GE763.out | refine zz3 ?_ GE768.out | refine zz3 ?_ GE774.out⟩⟩
        ·replace c76:=Bool.eq_false_iff.mpr c76
         subst c76
         have H1:(laws_FnExactExchangePairs.j1 kj14 a1 a2 a3 a4 t762 true a0_0 l0_1 t758 t759 t769 t770)=some r:=by rw [if_neg (show ¬ (false=true) by decide)] at H;exact H
         clear H
         have H:=H1
         clear H1
         have H':=zz31 H
         clear H
         have hnb85:=NB774_752.out
         have hnc85:=NB752_774.out
         have hnb86:=NB774_763.out
         have hnc86:=NB763_774.out
         have hnb87:=NB774_768.out
         have hnc87:=NB768_774.out
         have hcz88_0:w73.cell? ⟨gb774,0,none⟩=some (.int .i64 t769):=(zz9 BK774.out 0).trans rfl
         have hcz88_1:w73.cell? ⟨gb774,1,none⟩=some (.slice Ao40 t770.length co40):=(zz9 BK774.out 1).trans rfl
         have hfz88_0:=zz10 BK774.out 0
         have hfz88_1:=zz10 BK774.out 1
         have hnb89:=NB763_752.out
         have hnc89:=NB752_763.out
         have hnb90:=NB763_768.out
         have hnc90:=NB768_763.out
         have hcz91_0:w73.cell? ⟨gb763,0,none⟩=some (.int .i64 t758):=(zz9 BK763.out 0).trans rfl
         have hcz91_1:w73.cell? ⟨gb763,1,none⟩=some (.slice Ao26 t759.length co26):=(zz9 BK763.out 1).trans rfl
         have hfz91_0:=zz10 BK763.out 0
         have hfz91_1:=zz10 BK763.out 1
         go_wp2_with (first | (go_at_call 16;(with_reducible refine (laws_eqParty.calls kj14 t769 _ _ t770 t758 _ _ t759 false _ ?side1 ?side2 ?side3 ?side4 A75.out).mono ?_);(case side1=>repeat (first | exact (Kd.R_reads' HO_775001.out).2.2 | (with_reducible refine zz18 ?_ _) | (with_reducible refine zz19 ?_ _) | (with_reducible refine zz20 ?_)));(case side2=>exact (Kd.R_reads' HO_775001.out).2.1);(case side3=>repeat (first | exact (Kd.R_reads' HO_764001.out).2.2 | (with_reducible refine zz18 ?_ _) | (with_reducible refine zz19 ?_ _) | (with_reducible refine zz20 ?_)));(case side4=>exact (Kd.R_reads' HO_764001.out).2.1);rintro e w92 ⟨rfl,hb⟩;have n0_:=zz31 (Kd.R_below (by (with_reducible repeat (first | apply zz12 | apply zz13 | apply zz14));exact HO_764001.out) hb);have n1_:=zz31 (Kd.R_below (by (with_reducible repeat (first | apply zz12 | apply zz13 | apply zz14));exact HO_769001.out) hb);have n2_:=zz31 (Kd.R_below (by (with_reducible repeat (first | apply zz12 | apply zz13 | apply zz14));exact HO_775001.out) hb);have n3_:=zz31 (Kd.R_below (by (with_reducible repeat (first | apply zz12 | apply zz13 | apply zz14));exact HO779.out) hb);have n4_:=zz31 (zz11 (g:=gb752) (o:=.cells #[.int .i64 a0_0,.slice A0_1 l0_1.length c0_1] 24 (0,0)) (by (with_reducible repeat (first | refine zz6 ?_ _ | refine zz7 ?_ | refine zz8 ?_ _));exact BK752.out) hb);have n5_:=zz31 (zz11 (g:=gb763) (o:=.cells #[.int .i64 t758,.slice Ao26 t759.length co26] 30 (0,0)) (by (with_reducible repeat (first | refine zz6 ?_ _ | refine zz7 ?_ | refine zz8 ?_ _));exact BK763.out) hb);have n6_:=zz31 (zz11 (g:=gb768) (o:=.cells #[.int .i64 t764,.slice Ao33 t765.length co33] 30 (0,0)) (by (with_reducible repeat (first | refine zz6 ?_ _ | refine zz7 ?_ | refine zz8 ?_ _));exact BK768.out) hb);have n7_:=zz31 (zz11 (g:=gb774) (o:=.cells #[.int .i64 t769,.slice Ao40 t770.length co40] 30 (0,0)) (by (with_reducible repeat (first | refine zz6 ?_ _ | refine zz7 ?_ | refine zz8 ?_ _));exact BK774.out) hb);have n8_:=zz31 (zz4 (by repeat first | exact HB.out | apply zz2 | apply zz0 | apply zz1 | refine zz3 ?_ GE752.out | refine zz3 ?_ GE763.out | refine zz3 ?_ GE768.out | refine zz3 ?_ GE774.out) hb);clear HO_764001;clear HO_769001;clear HO_775001;clear HO779;clear BK752;clear BK763;clear BK768;clear BK774;clear HB;have HO_764001:=n0_;have HO_769001:=n1_;have HO_775001:=n2_;have HO779:=n3_;have BK752:=n4_;have BK763:=n5_;have BK768:=n6_;have BK774:=n7_;have HB:=n8_;clear n0_ n1_ n2_ n3_ n4_ n5_ n6_ n7_ n8_;(try clear hb);(try clear hb2);(try clear hk);(try clear hi)))
         go_meet
         case rel=>exact ⟨_,(true),(by first | rfl | (simp;done) | (simp [*];done)),H',⟨by have:=HJ14.out;first | omega | exact Nat.le_refl _⟩,⟨by (with_reducible repeat (first | apply zz12 | apply zz13 | apply zz14));exact Kd.R_mono HO_764001.out (fun _ hk=>⟨hk.1,hk.2.1⟩)⟩,⟨by (with_reducible repeat (first | apply zz12 | apply zz13 | apply zz14));exact Kd.R_mono HO_769001.out (fun _ hk=>⟨hk.1.1,hk.1.2⟩)⟩,⟨by (with_reducible repeat (first | apply zz12 | apply zz13 | apply zz14));exact Kd.R_mono HO_775001.out (fun _ hk=>⟨hk.1,hk.2.1⟩)⟩,⟨by (with_reducible repeat (first | refine zz6 ?_ _ | refine zz7 ?_ | refine zz8 ?_ _));exact BK752.out⟩,⟨by (with_reducible repeat (first | refine zz6 ?_ _ | refine zz7 ?_ | refine zz8 ?_ _));exact BK763.out⟩,⟨by (with_reducible repeat (first | refine zz6 ?_ _ | refine zz7 ?_ | refine zz8 ?_ _));exact BK768.out⟩,⟨by (with_reducible repeat (first | refine zz6 ?_ _ | refine zz7 ?_ | refine zz8 ?_ _));exact BK774.out⟩,⟨by repeat first | exact HB.out | apply zz2 | apply zz0 | apply zz1 | refine zz3 ?_ GE752.out | refine zz3 ?_ GE763.out | refine zz3 ?_ GE768.out | refine zz3 ?_ GE774.out⟩⟩
      case rest =>
       clear HC64
       try clear c1
       try clear c2
       try clear p2
       try clear c3
       try clear c4
       try clear c5
       try clear c6
       try clear c7
       try clear c7b0
       try clear c8
       try clear c9
       try clear c10
       try clear c12
       try clear c14
       try clear c16
       try clear c20
       try clear c24
       try clear c30
       try clear c31
       try clear c36
       try clear c37
       try clear c38
       try clear c42
       try clear c43
       try clear c44
       try clear c45
       try clear c47
       try clear c48
       try clear c51
       try clear c52
       try clear c53
       try clear c55
       try clear c56
       try clear c59
       try clear c62
       try clear c69
       try clear c70
       try clear c71
       try clear c74
       try clear c74b0
       try clear c76
       try clear c77
       try clear c78
       try clear c79
       try clear c81
       try clear c82
       try clear c85
       try clear c86
       try clear c87
       try clear c89
       try clear c90
       try clear hcz17_0
       try clear hcz17_1
       try clear hcz19_0
       try clear hcz19_1
       try clear hcz25_0
       try clear hcz25_1
       try clear hcz27_0
       try clear hcz27_1
       try clear hcz32_0
       try clear hcz32_1
       try clear hcz39_0
       try clear hcz39_1
       try clear hcz46_0
       try clear hcz46_1
       try clear hcz49_0
       try clear hcz49_1
       try clear hcz54_0
       try clear hcz54_1
       try clear hcz57_0
       try clear hcz57_1
       try clear hcz72_0
       try clear hcz72_1
       try clear hcz80_0
       try clear hcz80_1
       try clear hcz83_0
       try clear hcz83_1
       try clear hcz88_0
       try clear hcz88_1
       try clear hcz91_0
       try clear hcz91_1
       try clear hcz9_0
       try clear hcz9_1
       try clear hfz17_0
       try clear hfz17_1
       try clear hfz19_0
       try clear hfz19_1
       try clear hfz25_0
       try clear hfz25_1
       try clear hfz27_0
       try clear hfz27_1
       try clear hfz32_0
       try clear hfz32_1
       try clear hfz39_0
       try clear hfz39_1
       try clear hfz46_0
       try clear hfz46_1
       try clear hfz49_0
       try clear hfz49_1
       try clear hfz54_0
       try clear hfz54_1
       try clear hfz57_0
       try clear hfz57_1
       try clear hfz72_0
       try clear hfz72_1
       try clear hfz80_0
       try clear hfz80_1
       try clear hfz83_0
       try clear hfz83_1
       try clear hfz88_0
       try clear hfz88_1
       try clear hfz91_0
       try clear hfz91_1
       try clear hfz9_0
       try clear hfz9_1
       try clear p2
       obtain ⟨kq,x77_63,rfl,HA,HJ63,HO_764001,HO_769001,HO_775001,BK752,BK763,BK768,BK774,HB⟩:=hcut
       have hl769001_63:=(Kd.R_reads' HO_769001.out).1
       rw [hl769001_63] at HO_769001
       (try simp only [hl769001_63])
       (try simp only [hl769001_63] at BK752)
       (try simp only [hl769001_63] at BK763)
       (try simp only [hl769001_63] at BK768)
       (try simp only [hl769001_63] at BK774)
       (try simp only [hl769001_63] at HO_764001)
       (try simp only [hl769001_63] at HO_775001)
       cases kq with
       | zero=>exact absurd HA.out (by simp [laws_FnExactExchangePairs.j1])
       | succ kj63 =>
        have H:=HA.out
        clear HA
        simp only [laws_FnExactExchangePairs.j1] at H
        by_cases c93:x77_63=true
        ·subst c93
         have H1:(some false)=some r:=by rw [if_pos rfl] at H;exact H
         clear H
         have H:=H1
         clear H1
         obtain rfl:=Option.some.inj H
         go_wp2
         go_ret
         exact ⟨by first | rfl | (simp [errW_none,errW_some] <;> rfl) | (simp [*,errW_none,errW_some] <;> rfl),by repeat first | exact HB.out | apply zz2 | apply zz0 | apply zz1 | refine zz3 ?_ GE752.out | refine zz3 ?_ GE763.out | refine zz3 ?_ GE768.out | refine zz3 ?_ GE774.out⟩
        ·replace c93:=Bool.eq_false_iff.mpr c93
         subst c93
         have H1:((laws_markParty.f kj63 t769 t770 1).bind fun bt784=>((laws_heldParty.f kj63 t769 bt784.2 1).bind fun t786=>(if t786 < 0 then (some false) else (if t786=bt784.1 then ((laws_toParty.f kj63 a0_0 l0_1).bind fun bt787=>((impl_ExchangePairs.f kj63 bt787.1 bt787.2 a1 a2 a3 a4).bind fun bt791=>((laws_eqParty.f kj63 bt791.1 bt791.2.1 t758 t759).bind fun t797=>(if t797=true then (laws_FnExactExchangePairs.j2 kj63 bt784.1 (bt791.2.2 != t762) t769 bt784.2) else (laws_FnExactExchangePairs.j2 kj63 bt784.1 true t769 bt784.2))))) else (some false)))))=some r:=by rw [if_neg (show ¬ (false=true) by decide)] at H;exact H
         clear H
         have H:=H1
         clear H1
         replace H:=zz30.mp H
         obtain ⟨⟨t784,t785⟩,A940,H⟩:=H
         replace H:((laws_heldParty.f kj63 t769 t785 1).bind fun t786=>(if t786 < 0 then (some false) else (if t786=t784 then ((laws_toParty.f kj63 a0_0 l0_1).bind fun bt787=>((impl_ExchangePairs.f kj63 bt787.1 bt787.2 a1 a2 a3 a4).bind fun bt791=>((laws_eqParty.f kj63 bt791.1 bt791.2.1 t758 t759).bind fun t797=>(if t797=true then (laws_FnExactExchangePairs.j2 kj63 t784 (bt791.2.2 != t762) t769 t785) else (laws_FnExactExchangePairs.j2 kj63 t784 true t769 t785))))) else (some false))))=some r:=H
         have A94:=zz31 A940
         clear A940
         replace H:=zz30.mp H
         obtain ⟨t786,A950,H⟩:=H
         replace H:(if t786 < 0 then (some false) else (if t786=t784 then ((laws_toParty.f kj63 a0_0 l0_1).bind fun bt787=>((impl_ExchangePairs.f kj63 bt787.1 bt787.2 a1 a2 a3 a4).bind fun bt791=>((laws_eqParty.f kj63 bt791.1 bt791.2.1 t758 t759).bind fun t797=>(if t797=true then (laws_FnExactExchangePairs.j2 kj63 t784 (bt791.2.2 != t762) t769 t785) else (laws_FnExactExchangePairs.j2 kj63 t784 true t769 t785))))) else (some false)))=some r:=H
         have A95:=zz31 A950
         clear A950
         by_cases c96:t786 < 0
         ·rw [if_pos c96] at H
          have c96b0:decide (t786 < 0)=true:=decide_eq_true c96
          clear c96
          obtain rfl:=Option.some.inj H
          have hnb97:=NB774_752.out
          have hnc97:=NB752_774.out
          have hnb98:=NB774_763.out
          have hnc98:=NB763_774.out
          have hnb99:=NB774_768.out
          have hnc99:=NB768_774.out
          have hcz100_0:wc.cell? ⟨gb774,0,none⟩=some (.int .i64 t769):=(zz9 BK774.out 0).trans rfl
          have hcz100_1:wc.cell? ⟨gb774,1,none⟩=some (.slice Ao40 t770.length co40):=(zz9 BK774.out 1).trans rfl
          have hfz100_0:=zz10 BK774.out 0
          have hfz100_1:=zz10 BK774.out 1
          go_wp2_with (first | ((with_reducible refine gate_callee (f:=20) rfl ?_);refine goesL_ (some 80) rfl rfl Try.func20 (by kernel_rfl) rfl #[.agg #[.int .i64 t769,.slice Ao40 t770.length co40],.int .i64 1] rfl (by (try simp only [zz26,zz27,zz28]);first | done | rfl | (simp only [zz24,zz25];rfl)) ?_;(with_reducible refine (laws_markParty.calls kj63 t769 (fun k_=>some k_=(.slice Ao40 t770.length co40:Value).ownBlock) (.slice Ao40 t770.length co40) t770 1 t784 t785 w _ ?side1 ?side2 A94.out).mono ?_);(case side1=>repeat first | exact HB.out | apply zz2 | apply zz0 | apply zz1 | refine zz3 ?_ GE752.out | refine zz3 ?_ GE763.out | refine zz3 ?_ GE768.out | refine zz3 ?_ GE774.out);(case side2=>exact Kd.R_tight rfl HO_775001.out);rintro e w101 ⟨rfl,hy0,hb,hkp⟩;refine ⟨_,rfl,?_⟩;have n0_:=zz31 (Kd.R_mono (ok':=fun k_=>some k_ ≠ (.slice Ao33 t782.length co33:Value).ownBlock∧some k_ ≠ (.slice Ao40 t770.length co40:Value).ownBlock) (Kd.R_keptB (HO_764001.out) hkp (fun k_ hk_ hs_=>(hk_.2) hs_)) (fun k_ hk_=>⟨hk_.1.1,hk_.1.2⟩));have n1_:=zz31 (Kd.R_mono (ok':=fun k_=>some k_ ≠ (.slice Ao26 t759.length co26:Value).ownBlock∧some k_ ≠ (.slice Ao40 t770.length co40:Value).ownBlock) (Kd.R_keptB (HO_769001.out) hkp (fun k_ hk_ hs_=>(hk_.2) hs_)) (fun k_ hk_=>⟨hk_.1.1,hk_.1.2⟩));have n2_:=zz31 (Kd.R_reok rfl hy0 (fun k_ e_=>HO_775001.out.1 k_ e_));(first | have n3_:=zz31 (blk_kept BK752.out hkp (fun hs_=>(fun e_=>(Kd.R_ne HO_775001.out BK752.out (by decide)) e_) hs_)) | have n3_:=zz31 (blk_kept (by (with_reducible repeat (first | refine zz6 ?_ _ | refine zz7 ?_ | refine zz8 ?_ _));exact BK752.out) hkp (fun hs_=>(fun e_=>(Kd.R_ne HO_775001.out BK752.out (by decide)) e_) hs_)));(first | have n4_:=zz31 (blk_kept BK763.out hkp (fun hs_=>(fun e_=>(Kd.R_ne HO_775001.out BK763.out (by decide)) e_) hs_)) | have n4_:=zz31 (blk_kept (by (with_reducible repeat (first | refine zz6 ?_ _ | refine zz7 ?_ | refine zz8 ?_ _));exact BK763.out) hkp (fun hs_=>(fun e_=>(Kd.R_ne HO_775001.out BK763.out (by decide)) e_) hs_)));(first | have n5_:=zz31 (blk_kept BK768.out hkp (fun hs_=>(fun e_=>(Kd.R_ne HO_775001.out BK768.out (by decide)) e_) hs_)) | have n5_:=zz31 (blk_kept (by (with_reducible repeat (first | refine zz6 ?_ _ | refine zz7 ?_ | refine zz8 ?_ _));exact BK768.out) hkp (fun hs_=>(fun e_=>(Kd.R_ne HO_775001.out BK768.out (by decide)) e_) hs_)));(first | have n6_:=zz31 (blk_kept BK774.out hkp (fun hs_=>(fun e_=>(Kd.R_ne HO_775001.out BK774.out (by decide)) e_) hs_)) | have n6_:=zz31 (blk_kept (by (with_reducible repeat (first | refine zz6 ?_ _ | refine zz7 ?_ | refine zz8 ?_ _));exact BK774.out) hkp (fun hs_=>(fun e_=>(Kd.R_ne HO_775001.out BK774.out (by decide)) e_) hs_)));have n7_:=zz31 (hb);clear HO_764001;clear HO_769001;clear HO_775001;clear BK752;clear BK763;clear BK768;clear BK774;clear HB;have HO_764001:=n0_;have HO_769001:=n1_;have HO_775001:=n2_;have BK752:=n3_;have BK763:=n4_;have BK768:=n5_;have BK774:=n6_;have HB:=n7_;clear n0_ n1_ n2_ n3_ n4_ n5_ n6_ n7_;(try clear hb);(try clear hkp);(try clear hy0);have hcz102_0:w101.cell? ⟨gb774,0,none⟩=some (.int .i64 t769):=(zz9 BK774.out 0).trans rfl;have hcz102_1:w101.cell? ⟨gb774,1,none⟩=some (.slice Ao40 t770.length co40):=(zz9 BK774.out 1).trans rfl;have hfz102_0:=zz10 BK774.out 0;have hfz102_1:=zz10 BK774.out 1) | ((with_reducible refine gate_callee (f:=29) rfl ?_);refine goesL_ (some 83) rfl rfl Try.func29 (by kernel_rfl) rfl #[.agg #[.int .i64 t769,.slice Ao40 t785.length co40],.int .i64 1] rfl (by (try simp only [zz26,zz27,zz28]);first | done | (rw [show t785.length=t770.length from (Kd.R_reads' HO_775001.out).1.symm] <;> rfl) | rfl | (simp only [zz24,zz25];rfl)) ?_;(with_reducible refine (laws_heldParty.calls kj63 t769 _ _ t785 1 t786 _ ?side1 ?side2 A95.out).mono ?_);(case side1=>repeat (first | exact (Kd.R_reads' HO_775001.out).2.2 | (with_reducible refine zz18 ?_ _) | (with_reducible refine zz19 ?_ _) | (with_reducible refine zz20 ?_)));(case side2=>rw [show t785.length=t770.length from (Kd.R_reads' HO_775001.out).1.symm];exact (Kd.R_reads' HO_775001.out).2.1);rintro e w103 ⟨rfl,hb⟩;refine ⟨_,rfl,?_⟩;have n0_:=zz31 (Kd.R_below (by (with_reducible repeat (first | apply zz12 | apply zz13 | apply zz14));exact HO_764001.out) hb);have n1_:=zz31 (Kd.R_below (by (with_reducible repeat (first | apply zz12 | apply zz13 | apply zz14));exact HO_769001.out) hb);have n2_:=zz31 (Kd.R_below (by (with_reducible repeat (first | apply zz12 | apply zz13 | apply zz14));exact HO_775001.out) hb);have n3_:=zz31 (zz11 (g:=gb752) (o:=.cells #[.int .i64 a0_0,.slice A0_1 l0_1.length c0_1] 24 (0,0)) (by (with_reducible repeat (first | refine zz6 ?_ _ | refine zz7 ?_ | refine zz8 ?_ _));exact BK752.out) hb);have n4_:=zz31 (zz11 (g:=gb763) (o:=.cells #[.int .i64 t758,.slice Ao26 t759.length co26] 30 (0,0)) (by (with_reducible repeat (first | refine zz6 ?_ _ | refine zz7 ?_ | refine zz8 ?_ _));exact BK763.out) hb);have n5_:=zz31 (zz11 (g:=gb768) (o:=.cells #[.int .i64 t764,.slice Ao33 t782.length co33] 30 (0,0)) (by (with_reducible repeat (first | refine zz6 ?_ _ | refine zz7 ?_ | refine zz8 ?_ _));exact BK768.out) hb);have n6_:=zz31 (zz11 (g:=gb774) (o:=.cells #[.int .i64 t769,.slice Ao40 t770.length co40] 30 (0,0)) (by (with_reducible repeat (first | refine zz6 ?_ _ | refine zz7 ?_ | refine zz8 ?_ _));exact BK774.out) hb);have n7_:=zz31 (zz4 (by repeat first | exact HB.out | apply zz2 | apply zz0 | apply zz1 | refine zz3 ?_ GE752.out | refine zz3 ?_ GE763.out | refine zz3 ?_ GE768.out | refine zz3 ?_ GE774.out) hb);clear HO_764001;clear HO_769001;clear HO_775001;clear BK752;clear BK763;clear BK768;clear BK774;clear HB;have HO_764001:=n0_;have HO_769001:=n1_;have HO_775001:=n2_;have BK752:=n3_;have BK763:=n4_;have BK768:=n5_;have BK774:=n6_;have HB:=n7_;clear n0_ n1_ n2_ n3_ n4_ n5_ n6_ n7_;(try clear hb);(try clear hb2);(try clear hk);(try clear hi)))
          go_ret
          exact ⟨by first | rfl | (simp [errW_none,errW_some] <;> rfl) | (simp [*,errW_none,errW_some] <;> rfl),by repeat first | exact HB.out | apply zz2 | apply zz0 | apply zz1 | refine zz3 ?_ GE752.out | refine zz3 ?_ GE763.out | refine zz3 ?_ GE768.out | refine zz3 ?_ GE774.out⟩
         ·rw [if_neg c96] at H
          have c96b0:decide (t786 < 0)=false:=decide_eq_false c96
          clear c96
          by_cases c104:t786=t784
          ·rw [if_pos c104] at H
           have c104b0:(t786 == t784)=true:=beq_iff_eq.mpr c104
           have c104b1:(t786 != t784)=false:=bne_eq_false_iff_eq.mpr c104
           clear c104
           replace H:=zz30.mp H
           obtain ⟨⟨t787,t788⟩,A1050,H⟩:=H
           replace H:((impl_ExchangePairs.f kj63 t787 t788 a1 a2 a3 a4).bind fun bt791=>((laws_eqParty.f kj63 bt791.1 bt791.2.1 t758 t759).bind fun t797=>(if t797=true then (laws_FnExactExchangePairs.j2 kj63 t784 (bt791.2.2 != t762) t769 t785) else (laws_FnExactExchangePairs.j2 kj63 t784 true t769 t785))))=some r:=H
           have A105:=zz31 A1050
           clear A1050
           replace H:=zz30.mp H
           obtain ⟨⟨t791,t792,t795⟩,A1060,H⟩:=H
           replace H:((laws_eqParty.f kj63 t791 t792 t758 t759).bind fun t797=>(if t797=true then (laws_FnExactExchangePairs.j2 kj63 t784 (t795 != t762) t769 t785) else (laws_FnExactExchangePairs.j2 kj63 t784 true t769 t785)))=some r:=H
           have A106:=zz31 A1060
           clear A1060
           have HC107:=zz31 H
           clear H
           have hnb108:=NB774_752.out
           have hnc108:=NB752_774.out
           have hnb109:=NB774_763.out
           have hnc109:=NB763_774.out
           have hnb110:=NB774_768.out
           have hnc110:=NB768_774.out
           have hcz111_0:wc.cell? ⟨gb774,0,none⟩=some (.int .i64 t769):=(zz9 BK774.out 0).trans rfl
           have hcz111_1:wc.cell? ⟨gb774,1,none⟩=some (.slice Ao40 t770.length co40):=(zz9 BK774.out 1).trans rfl
           have hfz111_0:=zz10 BK774.out 0
           have hfz111_1:=zz10 BK774.out 1
           go_upto_region 25 with (first | ((with_reducible refine gate_callee (f:=20) rfl ?_);refine goesL_ (some 80) rfl rfl Try.func20 (by kernel_rfl) rfl #[.agg #[.int .i64 t769,.slice Ao40 t770.length co40],.int .i64 1] rfl (by (try simp only [zz26,zz27,zz28]);first | done | rfl | (simp only [zz24,zz25];rfl)) ?_;(with_reducible refine (laws_markParty.calls kj63 t769 (fun k_=>some k_=(.slice Ao40 t770.length co40:Value).ownBlock) (.slice Ao40 t770.length co40) t770 1 t784 t785 w _ ?side1 ?side2 A94.out).mono ?_);(case side1=>repeat first | exact HB.out | apply zz2 | apply zz0 | apply zz1 | refine zz3 ?_ GE752.out | refine zz3 ?_ GE763.out | refine zz3 ?_ GE768.out | refine zz3 ?_ GE774.out);(case side2=>exact Kd.R_tight rfl HO_775001.out);rintro e w112 ⟨rfl,hy0,hb,hkp⟩;refine ⟨_,rfl,?_⟩;have n0_:=zz31 (Kd.R_mono (ok':=fun k_=>some k_ ≠ (.slice Ao33 t782.length co33:Value).ownBlock∧some k_ ≠ (.slice Ao40 t770.length co40:Value).ownBlock) (Kd.R_keptB (HO_764001.out) hkp (fun k_ hk_ hs_=>(hk_.2) hs_)) (fun k_ hk_=>⟨hk_.1.1,hk_.1.2⟩));have n1_:=zz31 (Kd.R_mono (ok':=fun k_=>some k_ ≠ (.slice Ao26 t759.length co26:Value).ownBlock∧some k_ ≠ (.slice Ao40 t770.length co40:Value).ownBlock) (Kd.R_keptB (HO_769001.out) hkp (fun k_ hk_ hs_=>(hk_.2) hs_)) (fun k_ hk_=>⟨hk_.1.1,hk_.1.2⟩));have n2_:=zz31 (Kd.R_reok rfl hy0 (fun k_ e_=>HO_775001.out.1 k_ e_));(first | have n3_:=zz31 (blk_kept BK752.out hkp (fun hs_=>(fun e_=>(Kd.R_ne HO_775001.out BK752.out (by decide)) e_) hs_)) | have n3_:=zz31 (blk_kept (by (with_reducible repeat (first | refine zz6 ?_ _ | refine zz7 ?_ | refine zz8 ?_ _));exact BK752.out) hkp (fun hs_=>(fun e_=>(Kd.R_ne HO_775001.out BK752.out (by decide)) e_) hs_)));(first | have n4_:=zz31 (blk_kept BK763.out hkp (fun hs_=>(fun e_=>(Kd.R_ne HO_775001.out BK763.out (by decide)) e_) hs_)) | have n4_:=zz31 (blk_kept (by (with_reducible repeat (first | refine zz6 ?_ _ | refine zz7 ?_ | refine zz8 ?_ _));exact BK763.out) hkp (fun hs_=>(fun e_=>(Kd.R_ne HO_775001.out BK763.out (by decide)) e_) hs_)));(first | have n5_:=zz31 (blk_kept BK768.out hkp (fun hs_=>(fun e_=>(Kd.R_ne HO_775001.out BK768.out (by decide)) e_) hs_)) | have n5_:=zz31 (blk_kept (by (with_reducible repeat (first | refine zz6 ?_ _ | refine zz7 ?_ | refine zz8 ?_ _));exact BK768.out) hkp (fun hs_=>(fun e_=>(Kd.R_ne HO_775001.out BK768.out (by decide)) e_) hs_)));(first | have n6_:=zz31 (blk_kept BK774.out hkp (fun hs_=>(fun e_=>(Kd.R_ne HO_775001.out BK774.out (by decide)) e_) hs_)) | have n6_:=zz31 (blk_kept (by (with_reducible repeat (first | refine zz6 ?_ _ | refine zz7 ?_ | refine zz8 ?_ _));exact BK774.out) hkp (fun hs_=>(fun e_=>(Kd.R_ne HO_775001.out BK774.out (by decide)) e_) hs_)));have n7_:=zz31 (hb);clear HO_764001;clear HO_769001;clear HO_775001;clear BK752;clear BK763;clear BK768;clear BK774;clear HB;have HO_764001:=n0_;have HO_769001:=n1_;have HO_775001:=n2_;have BK752:=n3_;have BK763:=n4_;have BK768:=n5_;have BK774:=n6_;have HB:=n7_;clear n0_ n1_ n2_ n3_ n4_ n5_ n6_ n7_;(try clear hb);(try clear hkp);(try clear hy0);have hcz113_0:w112.cell? ⟨gb774,0,none⟩=some (.int .i64 t769):=(zz9 BK774.out 0).trans rfl;have hcz113_1:w112.cell? ⟨gb774,1,none⟩=some (.slice Ao40 t770.length co40):=(zz9 BK774.out 1).trans rfl;have hfz113_0:=zz10 BK774.out 0;have hfz113_1:=zz10 BK774.out 1) | ((with_reducible refine gate_callee (f:=29) rfl ?_);refine goesL_ (some 83) rfl rfl Try.func29 (by kernel_rfl) rfl #[.agg #[.int .i64 t769,.slice Ao40 t785.length co40],.int .i64 1] rfl (by (try simp only [zz26,zz27,zz28]);first | done | (rw [show t785.length=t770.length from (Kd.R_reads' HO_775001.out).1.symm] <;> rfl) | rfl | (simp only [zz24,zz25];rfl)) ?_;(with_reducible refine (laws_heldParty.calls kj63 t769 _ _ t785 1 t786 _ ?side1 ?side2 A95.out).mono ?_);(case side1=>repeat (first | exact (Kd.R_reads' HO_775001.out).2.2 | (with_reducible refine zz18 ?_ _) | (with_reducible refine zz19 ?_ _) | (with_reducible refine zz20 ?_)));(case side2=>rw [show t785.length=t770.length from (Kd.R_reads' HO_775001.out).1.symm];exact (Kd.R_reads' HO_775001.out).2.1);rintro e w114 ⟨rfl,hb⟩;refine ⟨_,rfl,?_⟩;have n0_:=zz31 (Kd.R_below (by (with_reducible repeat (first | apply zz12 | apply zz13 | apply zz14));exact HO_764001.out) hb);have n1_:=zz31 (Kd.R_below (by (with_reducible repeat (first | apply zz12 | apply zz13 | apply zz14));exact HO_769001.out) hb);have n2_:=zz31 (Kd.R_below (by (with_reducible repeat (first | apply zz12 | apply zz13 | apply zz14));exact HO_775001.out) hb);have n3_:=zz31 (zz11 (g:=gb752) (o:=.cells #[.int .i64 a0_0,.slice A0_1 l0_1.length c0_1] 24 (0,0)) (by (with_reducible repeat (first | refine zz6 ?_ _ | refine zz7 ?_ | refine zz8 ?_ _));exact BK752.out) hb);have n4_:=zz31 (zz11 (g:=gb763) (o:=.cells #[.int .i64 t758,.slice Ao26 t759.length co26] 30 (0,0)) (by (with_reducible repeat (first | refine zz6 ?_ _ | refine zz7 ?_ | refine zz8 ?_ _));exact BK763.out) hb);have n5_:=zz31 (zz11 (g:=gb768) (o:=.cells #[.int .i64 t764,.slice Ao33 t782.length co33] 30 (0,0)) (by (with_reducible repeat (first | refine zz6 ?_ _ | refine zz7 ?_ | refine zz8 ?_ _));exact BK768.out) hb);have n6_:=zz31 (zz11 (g:=gb774) (o:=.cells #[.int .i64 t769,.slice Ao40 t770.length co40] 30 (0,0)) (by (with_reducible repeat (first | refine zz6 ?_ _ | refine zz7 ?_ | refine zz8 ?_ _));exact BK774.out) hb);have n7_:=zz31 (zz4 (by repeat first | exact HB.out | apply zz2 | apply zz0 | apply zz1 | refine zz3 ?_ GE752.out | refine zz3 ?_ GE763.out | refine zz3 ?_ GE768.out | refine zz3 ?_ GE774.out) hb);clear HO_764001;clear HO_769001;clear HO_775001;clear BK752;clear BK763;clear BK768;clear BK774;clear HB;have HO_764001:=n0_;have HO_769001:=n1_;have HO_775001:=n2_;have BK752:=n3_;have BK763:=n4_;have BK768:=n5_;have BK774:=n6_;have HB:=n7_;clear n0_ n1_ n2_ n3_ n4_ n5_ n6_ n7_;(try clear hb);(try clear hb2);(try clear hk);(try clear hi);have hnb115:=NB752_763.out;have hnc115:=NB763_752.out;have hnb116:=NB752_768.out;have hnc116:=NB768_752.out;have hcz117_0:w114.cell? ⟨gb752,0,none⟩=some (.int .i64 a0_0):=(zz9 BK752.out 0).trans rfl;have hcz117_1:w114.cell? ⟨gb752,1,none⟩=some (.slice A0_1 l0_1.length c0_1):=(zz9 BK752.out 1).trans rfl;have hfz117_0:=zz10 BK752.out 0;have hfz117_1:=zz10 BK752.out 1) | ((with_reducible refine gate_callee (f:=14) rfl ?_);refine goesL_ (some 91) rfl rfl Try.func14 (by kernel_rfl) rfl #[.agg #[.int .i64 a0_0,.slice A0_1 l0_1.length c0_1]] rfl (by (try simp only [zz26,zz27,zz28]);first | done | rfl | (simp only [zz24,zz25];rfl)) ?_;(with_reducible refine (laws_toParty.calls kj63 a0_0 _ _ l0_1 t787 t788 _ ?side1 ?side2 A105.out).mono ?_);(case side1=>repeat (first | exact (Kd.C_below HR0_1.out HB.out) | (with_reducible refine zz18 ?_ _) | (with_reducible refine zz19 ?_ _) | (with_reducible refine zz20 ?_)));(case side2=>exact HC0_1.out);rintro e w118 ⟨v789,rfl,ho0,hb⟩;refine ⟨_,rfl,?_⟩;have n0_:=zz31 (Kd.R_elder' (by (with_reducible repeat (first | apply zz12 | apply zz13 | apply zz14));exact HO_764001.out) (Kd.R_base ho0) hb);have n1_:=zz31 (Kd.R_elder' (by (with_reducible repeat (first | apply zz12 | apply zz13 | apply zz14));exact HO_769001.out) (Kd.R_base ho0) hb);have n2_:=zz31 (Kd.R_elder' (by (with_reducible repeat (first | apply zz12 | apply zz13 | apply zz14));exact HO_775001.out) (Kd.R_base ho0) hb);have n3_:=zz31 (Kd.R_lower (Kd.R_new' (Kd.R_new' (Kd.R_new' ho0 (Kd.R_lt (by (with_reducible repeat (first | apply zz12 | apply zz13 | apply zz14));exact HO_764001.out))) (Kd.R_lt (by (with_reducible repeat (first | apply zz12 | apply zz13 | apply zz14));exact HO_769001.out))) (Kd.R_lt (by (with_reducible repeat (first | apply zz12 | apply zz13 | apply zz14));exact HO_775001.out))) (zz5 (by repeat first | exact HB.out | apply zz2 | apply zz0 | apply zz1 | refine zz3 ?_ GE752.out | refine zz3 ?_ GE763.out | refine zz3 ?_ GE768.out | refine zz3 ?_ GE774.out)));have n4_:=zz31 (zz11 (g:=gb752) (o:=.cells #[.int .i64 a0_0,.slice A0_1 l0_1.length c0_1] 24 (0,0)) (by (with_reducible repeat (first | refine zz6 ?_ _ | refine zz7 ?_ | refine zz8 ?_ _));exact BK752.out) hb);have n5_:=zz31 (zz11 (g:=gb763) (o:=.cells #[.int .i64 t758,.slice Ao26 t759.length co26] 30 (0,0)) (by (with_reducible repeat (first | refine zz6 ?_ _ | refine zz7 ?_ | refine zz8 ?_ _));exact BK763.out) hb);have n6_:=zz31 (zz11 (g:=gb768) (o:=.cells #[.int .i64 t764,.slice Ao33 t782.length co33] 30 (0,0)) (by (with_reducible repeat (first | refine zz6 ?_ _ | refine zz7 ?_ | refine zz8 ?_ _));exact BK768.out) hb);have n7_:=zz31 (zz11 (g:=gb774) (o:=.cells #[.int .i64 t769,.slice Ao40 t770.length co40] 30 (0,0)) (by (with_reducible repeat (first | refine zz6 ?_ _ | refine zz7 ?_ | refine zz8 ?_ _));exact BK774.out) hb);have n8_:=zz31 (zz4 (by repeat first | exact HB.out | apply zz2 | apply zz0 | apply zz1 | refine zz3 ?_ GE752.out | refine zz3 ?_ GE763.out | refine zz3 ?_ GE768.out | refine zz3 ?_ GE774.out) hb);clear HO_764001;clear HO_769001;clear HO_775001;clear BK752;clear BK763;clear BK768;clear BK774;clear HB;have HO_764001:=n0_;have HO_769001:=n1_;have HO_775001:=n2_;have HO790:=n3_;have BK752:=n4_;have BK763:=n5_;have BK768:=n6_;have BK774:=n7_;have HB:=n8_;clear n0_ n1_ n2_ n3_ n4_ n5_ n6_ n7_ n8_;(try clear hb);(try clear hb2);(try clear hk);(try clear hi);(try clear ho0);obtain ⟨Ao119,co119,eo119⟩:=Kd.R_slice HO790.out;subst eo119) | ((with_reducible refine gate_callee (f:=37) rfl ?_);refine goesL_ (some 96) rfl rfl Try.func37 (by kernel_rfl) rfl #[.agg #[.int .i64 t787,.slice Ao119 t788.length co119],.int .i64 a1,.int .i64 a2,.int .i64 a3,.int .i64 a4] rfl (by (try simp only [zz26,zz27,zz28]);first | done | rfl | (simp only [zz24,zz25];rfl)) ?_;(with_reducible refine (impl_ExchangePairs.calls kj63 t787 _ _ t788 a1 a2 a3 a4 t791 t792 t795 _ ?side1 ?side2 A106.out).mono ?_);(case side1=>repeat (first | exact (Kd.R_reads' HO790.out).2.2 | (with_reducible refine zz18 ?_ _) | (with_reducible refine zz19 ?_ _) | (with_reducible refine zz20 ?_)));(case side2=>exact (Kd.R_reads' HO790.out).2.1);rintro e w120 ⟨v793,rfl,ho0,hb⟩;refine ⟨_,rfl,?_⟩;have n0_:=zz31 (Kd.R_elder' (by (with_reducible repeat (first | apply zz12 | apply zz13 | apply zz14));exact HO_764001.out) (Kd.R_base ho0) hb);have n1_:=zz31 (Kd.R_elder' (by (with_reducible repeat (first | apply zz12 | apply zz13 | apply zz14));exact HO_769001.out) (Kd.R_base ho0) hb);have n2_:=zz31 (Kd.R_elder' (by (with_reducible repeat (first | apply zz12 | apply zz13 | apply zz14));exact HO_775001.out) (Kd.R_base ho0) hb);have n3_:=zz31 (Kd.R_elder' (by (with_reducible repeat (first | apply zz12 | apply zz13 | apply zz14));exact HO790.out) (Kd.R_base ho0) hb);have n4_:=zz31 (Kd.R_lower (Kd.R_new' (Kd.R_new' (Kd.R_new' (Kd.R_new' ho0 (Kd.R_lt (by (with_reducible repeat (first | apply zz12 | apply zz13 | apply zz14));exact HO_764001.out))) (Kd.R_lt (by (with_reducible repeat (first | apply zz12 | apply zz13 | apply zz14));exact HO_769001.out))) (Kd.R_lt (by (with_reducible repeat (first | apply zz12 | apply zz13 | apply zz14));exact HO_775001.out))) (Kd.R_lt (by (with_reducible repeat (first | apply zz12 | apply zz13 | apply zz14));exact HO790.out))) (zz5 (by repeat first | exact HB.out | apply zz2 | apply zz0 | apply zz1 | refine zz3 ?_ GE752.out | refine zz3 ?_ GE763.out | refine zz3 ?_ GE768.out | refine zz3 ?_ GE774.out)));have n5_:=zz31 (zz11 (g:=gb752) (o:=.cells #[.int .i64 a0_0,.slice A0_1 l0_1.length c0_1] 24 (0,0)) (by (with_reducible repeat (first | refine zz6 ?_ _ | refine zz7 ?_ | refine zz8 ?_ _));exact BK752.out) hb);have n6_:=zz31 (zz11 (g:=gb763) (o:=.cells #[.int .i64 t758,.slice Ao26 t759.length co26] 30 (0,0)) (by (with_reducible repeat (first | refine zz6 ?_ _ | refine zz7 ?_ | refine zz8 ?_ _));exact BK763.out) hb);have n7_:=zz31 (zz11 (g:=gb768) (o:=.cells #[.int .i64 t764,.slice Ao33 t782.length co33] 30 (0,0)) (by (with_reducible repeat (first | refine zz6 ?_ _ | refine zz7 ?_ | refine zz8 ?_ _));exact BK768.out) hb);have n8_:=zz31 (zz11 (g:=gb774) (o:=.cells #[.int .i64 t769,.slice Ao40 t770.length co40] 30 (0,0)) (by (with_reducible repeat (first | refine zz6 ?_ _ | refine zz7 ?_ | refine zz8 ?_ _));exact BK774.out) hb);have n9_:=zz31 (zz4 (by repeat first | exact HB.out | apply zz2 | apply zz0 | apply zz1 | refine zz3 ?_ GE752.out | refine zz3 ?_ GE763.out | refine zz3 ?_ GE768.out | refine zz3 ?_ GE774.out) hb);clear HO_764001;clear HO_769001;clear HO_775001;clear HO790;clear BK752;clear BK763;clear BK768;clear BK774;clear HB;have HO_764001:=n0_;have HO_769001:=n1_;have HO_775001:=n2_;have HO790:=n3_;have HO794:=n4_;have BK752:=n5_;have BK763:=n6_;have BK768:=n7_;have BK774:=n8_;have HB:=n9_;clear n0_ n1_ n2_ n3_ n4_ n5_ n6_ n7_ n8_ n9_;(try clear hb);(try clear hb2);(try clear hk);(try clear hi);(try clear ho0)) | ((with_reducible refine gate_dst (N:=20) rfl ?_);refine box_event ?hg (N:=20) ?hd (cs:=#[.int .i64 0,.slice none 0 0]) (t:=30) ?hr ?_;(case hd=>rfl);(case hg=>rfl);(case hr=>first | (go_simp;done) | (go_simp;rfl));intro gb796 hg w121 hbox hb;have n0_:=zz31 (Kd.R_below (by (with_reducible repeat (first | apply zz12 | apply zz13 | apply zz14));exact HO_764001.out) hb);have n1_:=zz31 (Kd.R_below (by (with_reducible repeat (first | apply zz12 | apply zz13 | apply zz14));exact HO_769001.out) hb);have n2_:=zz31 (Kd.R_below (by (with_reducible repeat (first | apply zz12 | apply zz13 | apply zz14));exact HO_775001.out) hb);have n3_:=zz31 (Kd.R_below (by (with_reducible repeat (first | apply zz12 | apply zz13 | apply zz14));exact HO790.out) hb);have n4_:=zz31 (Kd.R_below (by (with_reducible repeat (first | apply zz12 | apply zz13 | apply zz14));exact HO794.out) hb);have n5_:=zz31 (zz11 (g:=gb752) (o:=.cells #[.int .i64 a0_0,.slice A0_1 l0_1.length c0_1] 24 (0,0)) (by (with_reducible repeat (first | refine zz6 ?_ _ | refine zz7 ?_ | refine zz8 ?_ _));exact BK752.out) hb);have n6_:=zz31 (zz11 (g:=gb763) (o:=.cells #[.int .i64 t758,.slice Ao26 t759.length co26] 30 (0,0)) (by (with_reducible repeat (first | refine zz6 ?_ _ | refine zz7 ?_ | refine zz8 ?_ _));exact BK763.out) hb);have n7_:=zz31 (zz11 (g:=gb768) (o:=.cells #[.int .i64 t764,.slice Ao33 t782.length co33] 30 (0,0)) (by (with_reducible repeat (first | refine zz6 ?_ _ | refine zz7 ?_ | refine zz8 ?_ _));exact BK768.out) hb);have n8_:=zz31 (zz11 (g:=gb774) (o:=.cells #[.int .i64 t769,.slice Ao40 t770.length co40] 30 (0,0)) (by (with_reducible repeat (first | refine zz6 ?_ _ | refine zz7 ?_ | refine zz8 ?_ _));exact BK774.out) hb);have n9_:=zz31 (zz4 (by repeat first | exact HB.out | apply zz2 | apply zz0 | apply zz1 | refine zz3 ?_ GE752.out | refine zz3 ?_ GE763.out | refine zz3 ?_ GE768.out | refine zz3 ?_ GE774.out) hb);have n10_:=zz31 (hbox);have n11_:=zz31 ((by rw [hg];exact (zz5 (by repeat first | exact HB.out | apply zz2 | apply zz0 | apply zz1 | refine zz3 ?_ GE752.out | refine zz3 ?_ GE763.out | refine zz3 ?_ GE768.out | refine zz3 ?_ GE774.out)):w.heap.size≤gb796));have n12_:=zz31 ((by rw [hg];exact (zz5 (by repeat first | exact HB.out | apply zz2 | apply zz0 | apply zz1 | refine zz3 ?_ GE752.out | refine zz3 ?_ GE763.out | refine zz3 ?_ GE768.out | refine zz3 ?_ GE774.out)):w.heap.size≤gb796));have n13_:=zz31 ((by rw [hg];exact Nat.ne_of_lt (blk_lt (g:=gb752) (o:=.cells #[.int .i64 a0_0,.slice A0_1 l0_1.length c0_1] 24 (0,0)) (by (with_reducible repeat (first | refine zz6 ?_ _ | refine zz7 ?_ | refine zz8 ?_ _));exact BK752.out)):gb752 ≠ gb796));have n14_:=zz31 ((by rw [hg];exact Nat.ne_of_gt (blk_lt (g:=gb752) (o:=.cells #[.int .i64 a0_0,.slice A0_1 l0_1.length c0_1] 24 (0,0)) (by (with_reducible repeat (first | refine zz6 ?_ _ | refine zz7 ?_ | refine zz8 ?_ _));exact BK752.out)):gb796 ≠ gb752));have n15_:=zz31 ((by rw [hg];exact Nat.ne_of_lt (blk_lt (g:=gb763) (o:=.cells #[.int .i64 t758,.slice Ao26 t759.length co26] 30 (0,0)) (by (with_reducible repeat (first | refine zz6 ?_ _ | refine zz7 ?_ | refine zz8 ?_ _));exact BK763.out)):gb763 ≠ gb796));have n16_:=zz31 ((by rw [hg];exact Nat.ne_of_gt (blk_lt (g:=gb763) (o:=.cells #[.int .i64 t758,.slice Ao26 t759.length co26] 30 (0,0)) (by (with_reducible repeat (first | refine zz6 ?_ _ | refine zz7 ?_ | refine zz8 ?_ _));exact BK763.out)):gb796 ≠ gb763));have n17_:=zz31 ((by rw [hg];exact Nat.ne_of_lt (blk_lt (g:=gb768) (o:=.cells #[.int .i64 t764,.slice Ao33 t782.length co33] 30 (0,0)) (by (with_reducible repeat (first | refine zz6 ?_ _ | refine zz7 ?_ | refine zz8 ?_ _));exact BK768.out)):gb768 ≠ gb796));have n18_:=zz31 ((by rw [hg];exact Nat.ne_of_gt (blk_lt (g:=gb768) (o:=.cells #[.int .i64 t764,.slice Ao33 t782.length co33] 30 (0,0)) (by (with_reducible repeat (first | refine zz6 ?_ _ | refine zz7 ?_ | refine zz8 ?_ _));exact BK768.out)):gb796 ≠ gb768));have n19_:=zz31 ((by rw [hg];exact Nat.ne_of_lt (blk_lt (g:=gb774) (o:=.cells #[.int .i64 t769,.slice Ao40 t770.length co40] 30 (0,0)) (by (with_reducible repeat (first | refine zz6 ?_ _ | refine zz7 ?_ | refine zz8 ?_ _));exact BK774.out)):gb774 ≠ gb796));have n20_:=zz31 ((by rw [hg];exact Nat.ne_of_gt (blk_lt (g:=gb774) (o:=.cells #[.int .i64 t769,.slice Ao40 t770.length co40] 30 (0,0)) (by (with_reducible repeat (first | refine zz6 ?_ _ | refine zz7 ?_ | refine zz8 ?_ _));exact BK774.out)):gb796 ≠ gb774));clear HO_764001;clear HO_769001;clear HO_775001;clear HO790;clear HO794;clear BK752;clear BK763;clear BK768;clear BK774;clear HB;have HO_764001:=n0_;have HO_769001:=n1_;have HO_775001:=n2_;have HO790:=n3_;have HO794:=n4_;have BK752:=n5_;have BK763:=n6_;have BK768:=n7_;have BK774:=n8_;have HB:=n9_;have BK796:=n10_;have GW796:=n11_;have GE796:=n12_;have NB752_796:=n13_;have NB796_752:=n14_;have NB763_796:=n15_;have NB796_763:=n16_;have NB768_796:=n17_;have NB796_768:=n18_;have NB774_796:=n19_;have NB796_774:=n20_;clear n0_ n1_ n2_ n3_ n4_ n5_ n6_ n7_ n8_ n9_ n10_ n11_ n12_ n13_ n14_ n15_ n16_ n17_ n18_ n19_ n20_;clear hb hbox hg;have hnb122:=NB796_752.out;have hnc122:=NB752_796.out;have hnb123:=NB796_763.out;have hnc123:=NB763_796.out;have hnb124:=NB796_768.out;have hnc124:=NB768_796.out;have hnb125:=NB796_774.out;have hnc125:=NB774_796.out;have hcz126_0:w121.cell? ⟨gb796,0,none⟩=some (.int .i64 0):=(zz9 BK796.out 0).trans rfl;have hcz126_1:w121.cell? ⟨gb796,1,none⟩=some (.slice none 0 0):=(zz9 BK796.out 1).trans rfl;have hfz126_0:=zz10 BK796.out 0;have hfz126_1:=zz10 BK796.out 1;obtain ⟨Ao127,co127,eo127⟩:=Kd.R_slice HO794.out;subst eo127))
           (try simp only [Act.put,zz21,zz22,zz23])
           go_cut [107] (fun v107 wc=>∃ (kq:Nat) (x107_106:Bool),v107=.bool x107_106∧Aside0 (laws_FnExactExchangePairs.j2 kq t784 x107_106 t769 t785=some r)∧Aside0 (kq≤kj63)∧Aside0 (Kd.R k80 80 wc w.heap.size (fun k_=>some k_ ≠ ((.slice Ao33 t782.length co33):Value).ownBlock∧some k_ ≠ ((.slice Ao40 t770.length co40):Value).ownBlock∧some k_ ≠ ((.slice Ao127 t792.length co127):Value).ownBlock) (.slice Ao26 t759.length co26) t759)∧Aside0 (Kd.R k80 80 wc w.heap.size (fun k_=>some k_ ≠ ((.slice Ao26 t759.length co26):Value).ownBlock∧some k_ ≠ ((.slice Ao40 t770.length co40):Value).ownBlock∧some k_ ≠ ((.slice Ao127 t792.length co127):Value).ownBlock) (.slice Ao33 t782.length co33) t782)∧Aside0 (Kd.R k80 80 wc w.heap.size (fun k_=>some k_ ≠ ((.slice Ao26 t759.length co26):Value).ownBlock∧some k_ ≠ ((.slice Ao33 t782.length co33):Value).ownBlock∧some k_ ≠ ((.slice Ao127 t792.length co127):Value).ownBlock) (.slice Ao40 t770.length co40) t785)∧Aside0 (Kd.R k80 80 wc w.heap.size (fun k_=>some k_ ≠ ((.slice Ao26 t759.length co26):Value).ownBlock∧some k_ ≠ ((.slice Ao33 t782.length co33):Value).ownBlock∧some k_ ≠ ((.slice Ao40 t770.length co40):Value).ownBlock) (.slice Ao127 t792.length co127) t792)∧Aside0 (wc.heap[gb752]?=some (.cells #[.int .i64 a0_0,(.slice A0_1 l0_1.length c0_1)] 24 (0,0)))∧Aside0 (wc.heap[gb763]?=some (.cells #[.int .i64 t758,(.slice Ao26 t759.length co26)] 30 (0,0)))∧Aside0 (wc.heap[gb768]?=some (.cells #[.int .i64 t764,(.slice Ao33 t782.length co33)] 30 (0,0)))∧Aside0 (wc.heap[gb774]?=some (.cells #[.int .i64 t769,(.slice Ao40 t770.length co40)] 30 (0,0)))∧Aside0 (wc.heap[gb796]?=some (.cells #[.int .i64 t791,(.slice Ao127 t792.length co127)] 30 (0,0)))∧Aside0 (Below w.heap.size w wc))
           case first =>
            have H:=HC107.out
            clear HC107
            replace H:=zz30.mp H
            obtain ⟨t797,A1280,H⟩:=H
            replace H:(if t797=true then (laws_FnExactExchangePairs.j2 kj63 t784 (t795 != t762) t769 t785) else (laws_FnExactExchangePairs.j2 kj63 t784 true t769 t785))=some r:=H
            have A128:=zz31 A1280
            clear A1280
            by_cases c129:t797=true
            ·subst c129
             have H1:(laws_FnExactExchangePairs.j2 kj63 t784 (t795 != t762) t769 t785)=some r:=by rw [if_pos rfl] at H;exact H
             clear H
             have H:=H1
             clear H1
             have H':=zz31 H
             clear H
             have hnb130:=NB796_752.out
             have hnc130:=NB752_796.out
             have hnb131:=NB796_763.out
             have hnc131:=NB763_796.out
             have hnb132:=NB796_768.out
             have hnc132:=NB768_796.out
             have hnb133:=NB796_774.out
             have hnc133:=NB774_796.out
             have hcz134_0:w121.cell? ⟨gb796,0,none⟩=some (.int .i64 0):=(zz9 BK796.out 0).trans rfl
             have hcz134_1:w121.cell? ⟨gb796,1,none⟩=some (.slice none 0 0):=(zz9 BK796.out 1).trans rfl
             have hfz134_0:=zz10 BK796.out 0
             have hfz134_1:=zz10 BK796.out 1
             have hnb135:=NB763_752.out
             have hnc135:=NB752_763.out
             have hnb136:=NB763_768.out
             have hnc136:=NB768_763.out
             have hnb137:=NB763_774.out
             have hnc137:=NB774_763.out
             have hcz138_0:w121.cell? ⟨gb763,0,none⟩=some (.int .i64 t758):=(zz9 BK763.out 0).trans rfl
             have hcz138_1:w121.cell? ⟨gb763,1,none⟩=some (.slice Ao26 t759.length co26):=(zz9 BK763.out 1).trans rfl
             have hfz138_0:=zz10 BK763.out 0
             have hfz138_1:=zz10 BK763.out 1
             go_wp2_with (first | ((with_reducible refine gate_callee (f:=16) rfl ?_);refine goesL_ (some 101) rfl rfl Try.func16 (by kernel_rfl) rfl #[.agg #[.int .i64 t791,.slice Ao127 t792.length co127],.agg #[.int .i64 t758,.slice Ao26 t759.length co26]] rfl (by (try simp only [zz26,zz27,zz28]);first | done | rfl | (simp only [zz24,zz25];rfl)) ?_;(with_reducible refine (laws_eqParty.calls kj63 t791 _ _ t792 t758 _ _ t759 true _ ?side1 ?side2 ?side3 ?side4 A128.out).mono ?_);(case side1=>refine (Kd.R_reads' (e:=80) (base:=w.heap.size) (ok:=fun k_=>((((True∧some k_ ≠ (.slice Ao26 t759.length co26:Value).ownBlock)∧some k_ ≠ (.slice Ao33 t782.length co33:Value).ownBlock)∧some k_ ≠ (.slice Ao40 t770.length co40:Value).ownBlock)∧some k_ ≠ (.slice Ao119 t788.length co119:Value).ownBlock)) (n:=t792.length) (c:=co127) ?_).2.2;exact (by (with_reducible repeat (first | apply zz12 | apply zz13 | apply zz14));exact (Kd.R_mono (Kd.R_far (p:=⟨gb796,1,none⟩) (Kd.R_far (p:=⟨gb796,0,none⟩) (Kd.R_types HO794.out BK796.out (by decide)) (fun _ hk=>hk.2) (.int .i64 t791)) (fun _ hk=>hk.2) (.slice Ao127 t792.length co127)) (fun _ h_=>h_.1))));(case side2=>exact (Kd.R_reads' HO794.out).2.1);(case side3=>refine (Kd.R_reads' (e:=80) (base:=w.heap.size) (ok:=fun k_=>(((some k_ ≠ (.slice Ao33 t782.length co33:Value).ownBlock∧some k_ ≠ (.slice Ao40 t770.length co40:Value).ownBlock)∧some k_ ≠ (.slice Ao119 t788.length co119:Value).ownBlock)∧some k_ ≠ (.slice Ao127 t792.length co127:Value).ownBlock)) (n:=t759.length) (c:=co26) ?_).2.2;exact (by (with_reducible repeat (first | apply zz12 | apply zz13 | apply zz14));exact (Kd.R_mono (Kd.R_far (p:=⟨gb796,1,none⟩) (Kd.R_far (p:=⟨gb796,0,none⟩) (Kd.R_types HO_764001.out BK796.out (by decide)) (fun _ hk=>hk.2) (.int .i64 t791)) (fun _ hk=>hk.2) (.slice Ao127 t792.length co127)) (fun _ h_=>h_.1))));(case side4=>exact (Kd.R_reads' HO_764001.out).2.1);rintro e w139 ⟨rfl,hb⟩;refine ⟨_,rfl,?_⟩;have n0_:=zz31 (Kd.R_below (by (with_reducible repeat (first | apply zz12 | apply zz13 | apply zz14));exact (Kd.R_mono (Kd.R_far (p:=⟨gb796,1,none⟩) (Kd.R_far (p:=⟨gb796,0,none⟩) (Kd.R_types HO_764001.out BK796.out (by decide)) (fun _ hk=>hk.2) (.int .i64 t791)) (fun _ hk=>hk.2) (.slice Ao127 t792.length co127)) (fun _ h_=>h_.1))) hb);have n1_:=zz31 (Kd.R_below (by (with_reducible repeat (first | apply zz12 | apply zz13 | apply zz14));exact (Kd.R_mono (Kd.R_far (p:=⟨gb796,1,none⟩) (Kd.R_far (p:=⟨gb796,0,none⟩) (Kd.R_types HO_769001.out BK796.out (by decide)) (fun _ hk=>hk.2) (.int .i64 t791)) (fun _ hk=>hk.2) (.slice Ao127 t792.length co127)) (fun _ h_=>h_.1))) hb);have n2_:=zz31 (Kd.R_below (by (with_reducible repeat (first | apply zz12 | apply zz13 | apply zz14));exact (Kd.R_mono (Kd.R_far (p:=⟨gb796,1,none⟩) (Kd.R_far (p:=⟨gb796,0,none⟩) (Kd.R_types HO_775001.out BK796.out (by decide)) (fun _ hk=>hk.2) (.int .i64 t791)) (fun _ hk=>hk.2) (.slice Ao127 t792.length co127)) (fun _ h_=>h_.1))) hb);have n3_:=zz31 (Kd.R_below (by (with_reducible repeat (first | apply zz12 | apply zz13 | apply zz14));exact (Kd.R_mono (Kd.R_far (p:=⟨gb796,1,none⟩) (Kd.R_far (p:=⟨gb796,0,none⟩) (Kd.R_types HO790.out BK796.out (by decide)) (fun _ hk=>hk.2) (.int .i64 t791)) (fun _ hk=>hk.2) (.slice Ao127 t792.length co127)) (fun _ h_=>h_.1))) hb);have n4_:=zz31 (Kd.R_below (by (with_reducible repeat (first | apply zz12 | apply zz13 | apply zz14));exact (Kd.R_mono (Kd.R_far (p:=⟨gb796,1,none⟩) (Kd.R_far (p:=⟨gb796,0,none⟩) (Kd.R_types HO794.out BK796.out (by decide)) (fun _ hk=>hk.2) (.int .i64 t791)) (fun _ hk=>hk.2) (.slice Ao127 t792.length co127)) (fun _ h_=>h_.1))) hb);have n5_:=zz31 (zz11 (g:=gb752) (o:=.cells #[.int .i64 a0_0,.slice A0_1 l0_1.length c0_1] 24 (0,0)) (by (with_reducible repeat (first | refine zz6 ?_ _ | refine zz7 ?_ | refine zz8 ?_ _));refine blk_far ?_ NB752_796.out _;(with_reducible repeat (first | refine zz6 ?_ _ | refine zz7 ?_ | refine zz8 ?_ _));refine blk_far ?_ NB752_796.out _;(with_reducible repeat (first | refine zz6 ?_ _ | refine zz7 ?_ | refine zz8 ?_ _));exact BK752.out) hb);have n6_:=zz31 (zz11 (g:=gb763) (o:=.cells #[.int .i64 t758,.slice Ao26 t759.length co26] 30 (0,0)) (by (with_reducible repeat (first | refine zz6 ?_ _ | refine zz7 ?_ | refine zz8 ?_ _));refine blk_far ?_ NB763_796.out _;(with_reducible repeat (first | refine zz6 ?_ _ | refine zz7 ?_ | refine zz8 ?_ _));refine blk_far ?_ NB763_796.out _;(with_reducible repeat (first | refine zz6 ?_ _ | refine zz7 ?_ | refine zz8 ?_ _));exact BK763.out) hb);have n7_:=zz31 (zz11 (g:=gb768) (o:=.cells #[.int .i64 t764,.slice Ao33 t782.length co33] 30 (0,0)) (by (with_reducible repeat (first | refine zz6 ?_ _ | refine zz7 ?_ | refine zz8 ?_ _));refine blk_far ?_ NB768_796.out _;(with_reducible repeat (first | refine zz6 ?_ _ | refine zz7 ?_ | refine zz8 ?_ _));refine blk_far ?_ NB768_796.out _;(with_reducible repeat (first | refine zz6 ?_ _ | refine zz7 ?_ | refine zz8 ?_ _));exact BK768.out) hb);have n8_:=zz31 (zz11 (g:=gb774) (o:=.cells #[.int .i64 t769,.slice Ao40 t770.length co40] 30 (0,0)) (by (with_reducible repeat (first | refine zz6 ?_ _ | refine zz7 ?_ | refine zz8 ?_ _));refine blk_far ?_ NB774_796.out _;(with_reducible repeat (first | refine zz6 ?_ _ | refine zz7 ?_ | refine zz8 ?_ _));refine blk_far ?_ NB774_796.out _;(with_reducible repeat (first | refine zz6 ?_ _ | refine zz7 ?_ | refine zz8 ?_ _));exact BK774.out) hb);have n9_:=zz31 (zz11 (g:=gb796) (o:=.cells #[.int .i64 t791,.slice Ao127 t792.length co127] 30 (0,0)) (by (with_reducible repeat (first | refine zz6 ?_ _ | refine zz7 ?_ | refine zz8 ?_ _));refine blk_put (cs:=#[.int .i64 t791,.slice none 0 0]) ?_ 1 _ rfl;(with_reducible repeat (first | refine zz6 ?_ _ | refine zz7 ?_ | refine zz8 ?_ _));refine blk_put (cs:=#[.int .i64 0,.slice none 0 0]) ?_ 0 _ rfl;(with_reducible repeat (first | refine zz6 ?_ _ | refine zz7 ?_ | refine zz8 ?_ _));exact BK796.out) hb);have n10_:=zz31 (zz4 (by repeat first | exact HB.out | apply zz2 | apply zz0 | apply zz1 | refine zz3 ?_ GE752.out | refine zz3 ?_ GE763.out | refine zz3 ?_ GE768.out | refine zz3 ?_ GE774.out | refine zz3 ?_ GE796.out) hb);clear HO_764001;clear HO_769001;clear HO_775001;clear HO790;clear HO794;clear BK752;clear BK763;clear BK768;clear BK774;clear BK796;clear HB;have HO_764001:=n0_;have HO_769001:=n1_;have HO_775001:=n2_;have HO790:=n3_;have HO794:=n4_;have BK752:=n5_;have BK763:=n6_;have BK768:=n7_;have BK774:=n8_;have BK796:=n9_;have HB:=n10_;clear n0_ n1_ n2_ n3_ n4_ n5_ n6_ n7_ n8_ n9_ n10_;(try clear hb);(try clear hb2);(try clear hk);(try clear hi)))
             go_meet
             case rel=>exact ⟨_,((t795 != t762)),(by first | rfl | (simp;done) | (simp [*];done)),H',⟨by have:=HJ14.out;have:=HJ63.out;first | omega | exact Nat.le_refl _⟩,⟨by (try simp only [hl769001_63]);(with_reducible repeat (first | apply zz12 | apply zz13 | apply zz14));exact Kd.R_mono HO_764001.out (fun _ hk=>⟨hk.1.1.1,⟨hk.1.1.2,hk.2⟩⟩)⟩,⟨by (try simp only [hl769001_63]);(with_reducible repeat (first | apply zz12 | apply zz13 | apply zz14));exact Kd.R_mono HO_769001.out (fun _ hk=>⟨hk.1.1.1,⟨hk.1.1.2,hk.2⟩⟩)⟩,⟨by (try simp only [hl769001_63]);(with_reducible repeat (first | apply zz12 | apply zz13 | apply zz14));exact Kd.R_mono HO_775001.out (fun _ hk=>⟨hk.1.1.1,⟨hk.1.1.2,hk.2⟩⟩)⟩,⟨by (try simp only [hl769001_63]);(with_reducible repeat (first | apply zz12 | apply zz13 | apply zz14));exact Kd.R_mono HO794.out (fun _ hk=>⟨hk.1.1.1.2,⟨hk.1.1.2,hk.1.2⟩⟩)⟩,⟨by (try simp only [hl769001_63]);(with_reducible repeat (first | refine zz6 ?_ _ | refine zz7 ?_ | refine zz8 ?_ _));exact BK752.out⟩,⟨by (try simp only [hl769001_63]);(with_reducible repeat (first | refine zz6 ?_ _ | refine zz7 ?_ | refine zz8 ?_ _));exact BK763.out⟩,⟨by (try simp only [hl769001_63]);(with_reducible repeat (first | refine zz6 ?_ _ | refine zz7 ?_ | refine zz8 ?_ _));exact BK768.out⟩,⟨by (try simp only [hl769001_63]);(with_reducible repeat (first | refine zz6 ?_ _ | refine zz7 ?_ | refine zz8 ?_ _));exact BK774.out⟩,⟨by (try simp only [hl769001_63]);(with_reducible repeat (first | refine zz6 ?_ _ | refine zz7 ?_ | refine zz8 ?_ _));exact BK796.out⟩,⟨by repeat first | exact HB.out | apply zz2 | apply zz0 | apply zz1 | refine zz3 ?_ GE752.out | refine zz3 ?_ GE763.out | refine zz3 ?_ GE768.out | refine zz3 ?_ GE774.out | refine zz3 ?_ GE796.out⟩⟩
            ·replace c129:=Bool.eq_false_iff.mpr c129
             subst c129
             have H1:(laws_FnExactExchangePairs.j2 kj63 t784 true t769 t785)=some r:=by rw [if_neg (show ¬ (false=true) by decide)] at H;exact H
             clear H
             have H:=H1
             clear H1
             have H':=zz31 H
             clear H
             have hnb140:=NB796_752.out
             have hnc140:=NB752_796.out
             have hnb141:=NB796_763.out
             have hnc141:=NB763_796.out
             have hnb142:=NB796_768.out
             have hnc142:=NB768_796.out
             have hnb143:=NB796_774.out
             have hnc143:=NB774_796.out
             have hcz144_0:w121.cell? ⟨gb796,0,none⟩=some (.int .i64 0):=(zz9 BK796.out 0).trans rfl
             have hcz144_1:w121.cell? ⟨gb796,1,none⟩=some (.slice none 0 0):=(zz9 BK796.out 1).trans rfl
             have hfz144_0:=zz10 BK796.out 0
             have hfz144_1:=zz10 BK796.out 1
             have hnb145:=NB763_752.out
             have hnc145:=NB752_763.out
             have hnb146:=NB763_768.out
             have hnc146:=NB768_763.out
             have hnb147:=NB763_774.out
             have hnc147:=NB774_763.out
             have hcz148_0:w121.cell? ⟨gb763,0,none⟩=some (.int .i64 t758):=(zz9 BK763.out 0).trans rfl
             have hcz148_1:w121.cell? ⟨gb763,1,none⟩=some (.slice Ao26 t759.length co26):=(zz9 BK763.out 1).trans rfl
             have hfz148_0:=zz10 BK763.out 0
             have hfz148_1:=zz10 BK763.out 1
             go_wp2_with (first | ((with_reducible refine gate_callee (f:=16) rfl ?_);refine goesL_ (some 101) rfl rfl Try.func16 (by kernel_rfl) rfl #[.agg #[.int .i64 t791,.slice Ao127 t792.length co127],.agg #[.int .i64 t758,.slice Ao26 t759.length co26]] rfl (by (try simp only [zz26,zz27,zz28]);first | done | rfl | (simp only [zz24,zz25];rfl)) ?_;(with_reducible refine (laws_eqParty.calls kj63 t791 _ _ t792 t758 _ _ t759 false _ ?side1 ?side2 ?side3 ?side4 A128.out).mono ?_);(case side1=>refine (Kd.R_reads' (e:=80) (base:=w.heap.size) (ok:=fun k_=>((((True∧some k_ ≠ (.slice Ao26 t759.length co26:Value).ownBlock)∧some k_ ≠ (.slice Ao33 t782.length co33:Value).ownBlock)∧some k_ ≠ (.slice Ao40 t770.length co40:Value).ownBlock)∧some k_ ≠ (.slice Ao119 t788.length co119:Value).ownBlock)) (n:=t792.length) (c:=co127) ?_).2.2;exact (by (with_reducible repeat (first | apply zz12 | apply zz13 | apply zz14));exact (Kd.R_mono (Kd.R_far (p:=⟨gb796,1,none⟩) (Kd.R_far (p:=⟨gb796,0,none⟩) (Kd.R_types HO794.out BK796.out (by decide)) (fun _ hk=>hk.2) (.int .i64 t791)) (fun _ hk=>hk.2) (.slice Ao127 t792.length co127)) (fun _ h_=>h_.1))));(case side2=>exact (Kd.R_reads' HO794.out).2.1);(case side3=>refine (Kd.R_reads' (e:=80) (base:=w.heap.size) (ok:=fun k_=>(((some k_ ≠ (.slice Ao33 t782.length co33:Value).ownBlock∧some k_ ≠ (.slice Ao40 t770.length co40:Value).ownBlock)∧some k_ ≠ (.slice Ao119 t788.length co119:Value).ownBlock)∧some k_ ≠ (.slice Ao127 t792.length co127:Value).ownBlock)) (n:=t759.length) (c:=co26) ?_).2.2;exact (by (with_reducible repeat (first | apply zz12 | apply zz13 | apply zz14));exact (Kd.R_mono (Kd.R_far (p:=⟨gb796,1,none⟩) (Kd.R_far (p:=⟨gb796,0,none⟩) (Kd.R_types HO_764001.out BK796.out (by decide)) (fun _ hk=>hk.2) (.int .i64 t791)) (fun _ hk=>hk.2) (.slice Ao127 t792.length co127)) (fun _ h_=>h_.1))));(case side4=>exact (Kd.R_reads' HO_764001.out).2.1);rintro e w149 ⟨rfl,hb⟩;refine ⟨_,rfl,?_⟩;have n0_:=zz31 (Kd.R_below (by (with_reducible repeat (first | apply zz12 | apply zz13 | apply zz14));exact (Kd.R_mono (Kd.R_far (p:=⟨gb796,1,none⟩) (Kd.R_far (p:=⟨gb796,0,none⟩) (Kd.R_types HO_764001.out BK796.out (by decide)) (fun _ hk=>hk.2) (.int .i64 t791)) (fun _ hk=>hk.2) (.slice Ao127 t792.length co127)) (fun _ h_=>h_.1))) hb);have n1_:=zz31 (Kd.R_below (by (with_reducible repeat (first | apply zz12 | apply zz13 | apply zz14));exact (Kd.R_mono (Kd.R_far (p:=⟨gb796,1,none⟩) (Kd.R_far (p:=⟨gb796,0,none⟩) (Kd.R_types HO_769001.out BK796.out (by decide)) (fun _ hk=>hk.2) (.int .i64 t791)) (fun _ hk=>hk.2) (.slice Ao127 t792.length co127)) (fun _ h_=>h_.1))) hb);have n2_:=zz31 (Kd.R_below (by (with_reducible repeat (first | apply zz12 | apply zz13 | apply zz14));exact (Kd.R_mono (Kd.R_far (p:=⟨gb796,1,none⟩) (Kd.R_far (p:=⟨gb796,0,none⟩) (Kd.R_types HO_775001.out BK796.out (by decide)) (fun _ hk=>hk.2) (.int .i64 t791)) (fun _ hk=>hk.2) (.slice Ao127 t792.length co127)) (fun _ h_=>h_.1))) hb);have n3_:=zz31 (Kd.R_below (by (with_reducible repeat (first | apply zz12 | apply zz13 | apply zz14));exact (Kd.R_mono (Kd.R_far (p:=⟨gb796,1,none⟩) (Kd.R_far (p:=⟨gb796,0,none⟩) (Kd.R_types HO790.out BK796.out (by decide)) (fun _ hk=>hk.2) (.int .i64 t791)) (fun _ hk=>hk.2) (.slice Ao127 t792.length co127)) (fun _ h_=>h_.1))) hb);have n4_:=zz31 (Kd.R_below (by (with_reducible repeat (first | apply zz12 | apply zz13 | apply zz14));exact (Kd.R_mono (Kd.R_far (p:=⟨gb796,1,none⟩) (Kd.R_far (p:=⟨gb796,0,none⟩) (Kd.R_types HO794.out BK796.out (by decide)) (fun _ hk=>hk.2) (.int .i64 t791)) (fun _ hk=>hk.2) (.slice Ao127 t792.length co127)) (fun _ h_=>h_.1))) hb);have n5_:=zz31 (zz11 (g:=gb752) (o:=.cells #[.int .i64 a0_0,.slice A0_1 l0_1.length c0_1] 24 (0,0)) (by (with_reducible repeat (first | refine zz6 ?_ _ | refine zz7 ?_ | refine zz8 ?_ _));refine blk_far ?_ NB752_796.out _;(with_reducible repeat (first | refine zz6 ?_ _ | refine zz7 ?_ | refine zz8 ?_ _));refine blk_far ?_ NB752_796.out _;(with_reducible repeat (first | refine zz6 ?_ _ | refine zz7 ?_ | refine zz8 ?_ _));exact BK752.out) hb);have n6_:=zz31 (zz11 (g:=gb763) (o:=.cells #[.int .i64 t758,.slice Ao26 t759.length co26] 30 (0,0)) (by (with_reducible repeat (first | refine zz6 ?_ _ | refine zz7 ?_ | refine zz8 ?_ _));refine blk_far ?_ NB763_796.out _;(with_reducible repeat (first | refine zz6 ?_ _ | refine zz7 ?_ | refine zz8 ?_ _));refine blk_far ?_ NB763_796.out _;(with_reducible repeat (first | refine zz6 ?_ _ | refine zz7 ?_ | refine zz8 ?_ _));exact BK763.out) hb);have n7_:=zz31 (zz11 (g:=gb768) (o:=.cells #[.int .i64 t764,.slice Ao33 t782.length co33] 30 (0,0)) (by (with_reducible repeat (first | refine zz6 ?_ _ | refine zz7 ?_ | refine zz8 ?_ _));refine blk_far ?_ NB768_796.out _;(with_reducible repeat (first | refine zz6 ?_ _ | refine zz7 ?_ | refine zz8 ?_ _));refine blk_far ?_ NB768_796.out _;(with_reducible repeat (first | refine zz6 ?_ _ | refine zz7 ?_ | refine zz8 ?_ _));exact BK768.out) hb);have n8_:=zz31 (zz11 (g:=gb774) (o:=.cells #[.int .i64 t769,.slice Ao40 t770.length co40] 30 (0,0)) (by (with_reducible repeat (first | refine zz6 ?_ _ | refine zz7 ?_ | refine zz8 ?_ _));refine blk_far ?_ NB774_796.out _;(with_reducible repeat (first | refine zz6 ?_ _ | refine zz7 ?_ | refine zz8 ?_ _));refine blk_far ?_ NB774_796.out _;(with_reducible repeat (first | refine zz6 ?_ _ | refine zz7 ?_ | refine zz8 ?_ _));exact BK774.out) hb);have n9_:=zz31 (zz11 (g:=gb796) (o:=.cells #[.int .i64 t791,.slice Ao127 t792.length co127] 30 (0,0)) (by (with_reducible repeat (first | refine zz6 ?_ _ | refine zz7 ?_ | refine zz8 ?_ _));refine blk_put (cs:=#[.int .i64 t791,.slice none 0 0]) ?_ 1 _ rfl;(with_reducible repeat (first | refine zz6 ?_ _ | refine zz7 ?_ | refine zz8 ?_ _));refine blk_put (cs:=#[.int .i64 0,.slice none 0 0]) ?_ 0 _ rfl;(with_reducible repeat (first | refine zz6 ?_ _ | refine zz7 ?_ | refine zz8 ?_ _));exact BK796.out) hb);have n10_:=zz31 (zz4 (by repeat first | exact HB.out | apply zz2 | apply zz0 | apply zz1 | refine zz3 ?_ GE752.out | refine zz3 ?_ GE763.out | refine zz3 ?_ GE768.out | refine zz3 ?_ GE774.out | refine zz3 ?_ GE796.out) hb);clear HO_764001;clear HO_769001;clear HO_775001;clear HO790;clear HO794;clear BK752;clear BK763;clear BK768;clear BK774;clear BK796;clear HB;have HO_764001:=n0_;have HO_769001:=n1_;have HO_775001:=n2_;have HO790:=n3_;have HO794:=n4_;have BK752:=n5_;have BK763:=n6_;have BK768:=n7_;have BK774:=n8_;have BK796:=n9_;have HB:=n10_;clear n0_ n1_ n2_ n3_ n4_ n5_ n6_ n7_ n8_ n9_ n10_;(try clear hb);(try clear hb2);(try clear hk);(try clear hi)))
             go_meet
             case rel=>exact ⟨_,(true),(by first | rfl | (simp;done) | (simp [*];done)),H',⟨by have:=HJ14.out;have:=HJ63.out;first | omega | exact Nat.le_refl _⟩,⟨by (try simp only [hl769001_63]);(with_reducible repeat (first | apply zz12 | apply zz13 | apply zz14));exact Kd.R_mono HO_764001.out (fun _ hk=>⟨hk.1.1.1,⟨hk.1.1.2,hk.2⟩⟩)⟩,⟨by (try simp only [hl769001_63]);(with_reducible repeat (first | apply zz12 | apply zz13 | apply zz14));exact Kd.R_mono HO_769001.out (fun _ hk=>⟨hk.1.1.1,⟨hk.1.1.2,hk.2⟩⟩)⟩,⟨by (try simp only [hl769001_63]);(with_reducible repeat (first | apply zz12 | apply zz13 | apply zz14));exact Kd.R_mono HO_775001.out (fun _ hk=>⟨hk.1.1.1,⟨hk.1.1.2,hk.2⟩⟩)⟩,⟨by (try simp only [hl769001_63]);(with_reducible repeat (first | apply zz12 | apply zz13 | apply zz14));exact Kd.R_mono HO794.out (fun _ hk=>⟨hk.1.1.1.2,⟨hk.1.1.2,hk.1.2⟩⟩)⟩,⟨by (try simp only [hl769001_63]);(with_reducible repeat (first | refine zz6 ?_ _ | refine zz7 ?_ | refine zz8 ?_ _));exact BK752.out⟩,⟨by (try simp only [hl769001_63]);(with_reducible repeat (first | refine zz6 ?_ _ | refine zz7 ?_ | refine zz8 ?_ _));exact BK763.out⟩,⟨by (try simp only [hl769001_63]);(with_reducible repeat (first | refine zz6 ?_ _ | refine zz7 ?_ | refine zz8 ?_ _));exact BK768.out⟩,⟨by (try simp only [hl769001_63]);(with_reducible repeat (first | refine zz6 ?_ _ | refine zz7 ?_ | refine zz8 ?_ _));exact BK774.out⟩,⟨by (try simp only [hl769001_63]);(with_reducible repeat (first | refine zz6 ?_ _ | refine zz7 ?_ | refine zz8 ?_ _));exact BK796.out⟩,⟨by repeat first | exact HB.out | apply zz2 | apply zz0 | apply zz1 | refine zz3 ?_ GE752.out | refine zz3 ?_ GE763.out | refine zz3 ?_ GE768.out | refine zz3 ?_ GE774.out | refine zz3 ?_ GE796.out⟩⟩
           case rest =>
            clear HC107
            try clear c1
            try clear c2
            try clear p2
            try clear c3
            try clear c4
            try clear c5
            try clear c6
            try clear c7
            try clear c7b0
            try clear c8
            try clear c9
            try clear c10
            try clear c11
            try clear c12
            try clear c13
            try clear c14
            try clear c16
            try clear c20
            try clear c24
            try clear c29
            try clear c30
            try clear c31
            try clear c36
            try clear c37
            try clear c38
            try clear c42
            try clear c43
            try clear c44
            try clear c45
            try clear c47
            try clear c48
            try clear c51
            try clear c52
            try clear c53
            try clear c55
            try clear c56
            try clear c59
            try clear c62
            try clear c69
            try clear c70
            try clear c71
            try clear c74
            try clear c74b0
            try clear c76
            try clear c77
            try clear c78
            try clear c79
            try clear c81
            try clear c82
            try clear c85
            try clear c86
            try clear c87
            try clear c89
            try clear c90
            try clear c93
            try clear c96
            try clear c96b0
            try clear c97
            try clear c98
            try clear c99
            try clear c104
            try clear c104b0
            try clear c104b1
            try clear c108
            try clear c109
            try clear c110
            try clear c115
            try clear c116
            try clear c122
            try clear c123
            try clear c124
            try clear c125
            try clear c129
            try clear c130
            try clear c131
            try clear c132
            try clear c133
            try clear c135
            try clear c136
            try clear c137
            try clear c140
            try clear c141
            try clear c142
            try clear c143
            try clear c145
            try clear c146
            try clear c147
            try clear hcz100_0
            try clear hcz100_1
            try clear hcz102_0
            try clear hcz102_1
            try clear hcz111_0
            try clear hcz111_1
            try clear hcz113_0
            try clear hcz113_1
            try clear hcz117_0
            try clear hcz117_1
            try clear hcz126_0
            try clear hcz126_1
            try clear hcz134_0
            try clear hcz134_1
            try clear hcz138_0
            try clear hcz138_1
            try clear hcz144_0
            try clear hcz144_1
            try clear hcz148_0
            try clear hcz148_1
            try clear hcz17_0
            try clear hcz17_1
            try clear hcz19_0
            try clear hcz19_1
            try clear hcz25_0
            try clear hcz25_1
            try clear hcz27_0
            try clear hcz27_1
            try clear hcz32_0
            try clear hcz32_1
            try clear hcz39_0
            try clear hcz39_1
            try clear hcz46_0
            try clear hcz46_1
            try clear hcz49_0
            try clear hcz49_1
            try clear hcz54_0
            try clear hcz54_1
            try clear hcz57_0
            try clear hcz57_1
            try clear hcz72_0
            try clear hcz72_1
            try clear hcz80_0
            try clear hcz80_1
            try clear hcz83_0
            try clear hcz83_1
            try clear hcz88_0
            try clear hcz88_1
            try clear hcz91_0
            try clear hcz91_1
            try clear hcz9_0
            try clear hcz9_1
            try clear hfz100_0
            try clear hfz100_1
            try clear hfz102_0
            try clear hfz102_1
            try clear hfz111_0
            try clear hfz111_1
            try clear hfz113_0
            try clear hfz113_1
            try clear hfz117_0
            try clear hfz117_1
            try clear hfz126_0
            try clear hfz126_1
            try clear hfz134_0
            try clear hfz134_1
            try clear hfz138_0
            try clear hfz138_1
            try clear hfz144_0
            try clear hfz144_1
            try clear hfz148_0
            try clear hfz148_1
            try clear hfz17_0
            try clear hfz17_1
            try clear hfz19_0
            try clear hfz19_1
            try clear hfz25_0
            try clear hfz25_1
            try clear hfz27_0
            try clear hfz27_1
            try clear hfz32_0
            try clear hfz32_1
            try clear hfz39_0
            try clear hfz39_1
            try clear hfz46_0
            try clear hfz46_1
            try clear hfz49_0
            try clear hfz49_1
            try clear hfz54_0
            try clear hfz54_1
            try clear hfz57_0
            try clear hfz57_1
            try clear hfz72_0
            try clear hfz72_1
            try clear hfz80_0
            try clear hfz80_1
            try clear hfz83_0
            try clear hfz83_1
            try clear hfz88_0
            try clear hfz88_1
            try clear hfz91_0
            try clear hfz91_1
            try clear hfz9_0
            try clear hfz9_1
            try clear p2
            obtain ⟨kq,x107_106,rfl,HA,HJ106,HO_764001,HO_769001,HO_775001,HO_797001,BK752,BK763,BK768,BK774,BK796,HB⟩:=hcut
            have hl775001_106:=(Kd.R_reads' HO_775001.out).1
            rw [hl775001_106] at HO_775001
            (try simp only [hl775001_106])
            (try simp only [hl775001_106] at BK752)
            (try simp only [hl775001_106] at BK763)
            (try simp only [hl775001_106] at BK768)
            (try simp only [hl775001_106] at BK774)
            (try simp only [hl775001_106] at BK796)
            (try simp only [hl775001_106] at HO_764001)
            (try simp only [hl775001_106] at HO_769001)
            (try simp only [hl775001_106] at HO_797001)
            cases kq with
            | zero=>exact absurd HA.out (by simp [laws_FnExactExchangePairs.j2])
            | succ kj106 =>
             have H:=HA.out
             clear HA
             simp only [laws_FnExactExchangePairs.j2] at H
             by_cases c150:x107_106=true
             ·subst c150
              have H1:(some false)=some r:=by rw [if_pos rfl] at H;exact H
              clear H
              have H:=H1
              clear H1
              obtain rfl:=Option.some.inj H
              go_wp2
              go_ret
              exact ⟨by first | rfl | (simp [errW_none,errW_some] <;> rfl) | (simp [*,errW_none,errW_some] <;> rfl),by repeat first | exact HB.out | apply zz2 | apply zz0 | apply zz1 | refine zz3 ?_ GE752.out | refine zz3 ?_ GE763.out | refine zz3 ?_ GE768.out | refine zz3 ?_ GE774.out | refine zz3 ?_ GE796.out⟩
             ·replace c150:=Bool.eq_false_iff.mpr c150
              subst c150
              have H1:((laws_heldParty.f kj106 t769 t785 1).bind fun t798=>(if t798 < 0 then (some false) else (if t798=t784 then (some true) else (some false))))=some r:=by rw [if_neg (show ¬ (false=true) by decide)] at H;exact H
              clear H
              have H:=H1
              clear H1
              replace H:=zz30.mp H
              obtain ⟨t798,A1510,H⟩:=H
              replace H:(if t798 < 0 then (some false) else (if t798=t784 then (some true) else (some false)))=some r:=H
              have A151:=zz31 A1510
              clear A1510
              by_cases c152:t798 < 0
              ·rw [if_pos c152] at H
               have c152b0:decide (t798 < 0)=true:=decide_eq_true c152
               clear c152
               obtain rfl:=Option.some.inj H
               have hnb153:=NB774_752.out
               have hnc153:=NB752_774.out
               have hnb154:=NB774_763.out
               have hnc154:=NB763_774.out
               have hnb155:=NB774_768.out
               have hnc155:=NB768_774.out
               have hnb156:=NB774_796.out
               have hnc156:=NB796_774.out
               have hcz157_0:wc.cell? ⟨gb774,0,none⟩=some (.int .i64 t769):=(zz9 BK774.out 0).trans rfl
               have hcz157_1:wc.cell? ⟨gb774,1,none⟩=some (.slice Ao40 t785.length co40):=(zz9 BK774.out 1).trans rfl
               have hfz157_0:=zz10 BK774.out 0
               have hfz157_1:=zz10 BK774.out 1
               go_wp2_with (first | ((with_reducible refine gate_callee (f:=29) rfl ?_);refine goesL_ (some 110) rfl rfl Try.func29 (by kernel_rfl) rfl #[.agg #[.int .i64 t769,.slice Ao40 t785.length co40],.int .i64 1] rfl (by (try simp only [zz26,zz27,zz28]);first | done | rfl | (simp only [zz24,zz25];rfl)) ?_;(with_reducible refine (laws_heldParty.calls kj106 t769 _ _ t785 1 t798 _ ?side1 ?side2 A151.out).mono ?_);(case side1=>repeat (first | exact (Kd.R_reads' HO_775001.out).2.2 | (with_reducible refine zz18 ?_ _) | (with_reducible refine zz19 ?_ _) | (with_reducible refine zz20 ?_)));(case side2=>exact (Kd.R_reads' HO_775001.out).2.1);rintro e w158 ⟨rfl,hb⟩;refine ⟨_,rfl,?_⟩;have n0_:=zz31 (Kd.R_below (by (with_reducible repeat (first | apply zz12 | apply zz13 | apply zz14));exact HO_764001.out) hb);have n1_:=zz31 (Kd.R_below (by (with_reducible repeat (first | apply zz12 | apply zz13 | apply zz14));exact HO_769001.out) hb);have n2_:=zz31 (Kd.R_below (by (with_reducible repeat (first | apply zz12 | apply zz13 | apply zz14));exact HO_775001.out) hb);have n3_:=zz31 (Kd.R_below (by (with_reducible repeat (first | apply zz12 | apply zz13 | apply zz14));exact HO_797001.out) hb);have n4_:=zz31 (zz11 (g:=gb752) (o:=.cells #[.int .i64 a0_0,.slice A0_1 l0_1.length c0_1] 24 (0,0)) (by (with_reducible repeat (first | refine zz6 ?_ _ | refine zz7 ?_ | refine zz8 ?_ _));exact BK752.out) hb);have n5_:=zz31 (zz11 (g:=gb763) (o:=.cells #[.int .i64 t758,.slice Ao26 t759.length co26] 30 (0,0)) (by (with_reducible repeat (first | refine zz6 ?_ _ | refine zz7 ?_ | refine zz8 ?_ _));exact BK763.out) hb);have n6_:=zz31 (zz11 (g:=gb768) (o:=.cells #[.int .i64 t764,.slice Ao33 t782.length co33] 30 (0,0)) (by (with_reducible repeat (first | refine zz6 ?_ _ | refine zz7 ?_ | refine zz8 ?_ _));exact BK768.out) hb);have n7_:=zz31 (zz11 (g:=gb774) (o:=.cells #[.int .i64 t769,.slice Ao40 t785.length co40] 30 (0,0)) (by (with_reducible repeat (first | refine zz6 ?_ _ | refine zz7 ?_ | refine zz8 ?_ _));exact BK774.out) hb);have n8_:=zz31 (zz11 (g:=gb796) (o:=.cells #[.int .i64 t791,.slice Ao127 t792.length co127] 30 (0,0)) (by (with_reducible repeat (first | refine zz6 ?_ _ | refine zz7 ?_ | refine zz8 ?_ _));exact BK796.out) hb);have n9_:=zz31 (zz4 (by repeat first | exact HB.out | apply zz2 | apply zz0 | apply zz1 | refine zz3 ?_ GE752.out | refine zz3 ?_ GE763.out | refine zz3 ?_ GE768.out | refine zz3 ?_ GE774.out | refine zz3 ?_ GE796.out) hb);clear HO_764001;clear HO_769001;clear HO_775001;clear HO_797001;clear BK752;clear BK763;clear BK768;clear BK774;clear BK796;clear HB;have HO_764001:=n0_;have HO_769001:=n1_;have HO_775001:=n2_;have HO_797001:=n3_;have BK752:=n4_;have BK763:=n5_;have BK768:=n6_;have BK774:=n7_;have BK796:=n8_;have HB:=n9_;clear n0_ n1_ n2_ n3_ n4_ n5_ n6_ n7_ n8_ n9_;(try clear hb);(try clear hb2);(try clear hk);(try clear hi)))
               go_ret
               exact ⟨by first | rfl | (simp [errW_none,errW_some] <;> rfl) | (simp [*,errW_none,errW_some] <;> rfl),by repeat first | exact HB.out | apply zz2 | apply zz0 | apply zz1 | refine zz3 ?_ GE752.out | refine zz3 ?_ GE763.out | refine zz3 ?_ GE768.out | refine zz3 ?_ GE774.out | refine zz3 ?_ GE796.out⟩
              ·rw [if_neg c152] at H
               have c152b0:decide (t798 < 0)=false:=decide_eq_false c152
               clear c152
               by_cases c159:t798=t784
               ·rw [if_pos c159] at H
                have c159b0:(t798 == t784)=true:=beq_iff_eq.mpr c159
                have c159b1:(t798 != t784)=false:=bne_eq_false_iff_eq.mpr c159
                clear c159
                obtain rfl:=Option.some.inj H
                have hnb160:=NB774_752.out
                have hnc160:=NB752_774.out
                have hnb161:=NB774_763.out
                have hnc161:=NB763_774.out
                have hnb162:=NB774_768.out
                have hnc162:=NB768_774.out
                have hnb163:=NB774_796.out
                have hnc163:=NB796_774.out
                have hcz164_0:wc.cell? ⟨gb774,0,none⟩=some (.int .i64 t769):=(zz9 BK774.out 0).trans rfl
                have hcz164_1:wc.cell? ⟨gb774,1,none⟩=some (.slice Ao40 t785.length co40):=(zz9 BK774.out 1).trans rfl
                have hfz164_0:=zz10 BK774.out 0
                have hfz164_1:=zz10 BK774.out 1
                go_wp2_with (first | ((with_reducible refine gate_callee (f:=29) rfl ?_);refine goesL_ (some 110) rfl rfl Try.func29 (by kernel_rfl) rfl #[.agg #[.int .i64 t769,.slice Ao40 t785.length co40],.int .i64 1] rfl (by (try simp only [zz26,zz27,zz28]);first | done | rfl | (simp only [zz24,zz25];rfl)) ?_;(with_reducible refine (laws_heldParty.calls kj106 t769 _ _ t785 1 t798 _ ?side1 ?side2 A151.out).mono ?_);(case side1=>repeat (first | exact (Kd.R_reads' HO_775001.out).2.2 | (with_reducible refine zz18 ?_ _) | (with_reducible refine zz19 ?_ _) | (with_reducible refine zz20 ?_)));(case side2=>exact (Kd.R_reads' HO_775001.out).2.1);rintro e w165 ⟨rfl,hb⟩;refine ⟨_,rfl,?_⟩;have n0_:=zz31 (Kd.R_below (by (with_reducible repeat (first | apply zz12 | apply zz13 | apply zz14));exact HO_764001.out) hb);have n1_:=zz31 (Kd.R_below (by (with_reducible repeat (first | apply zz12 | apply zz13 | apply zz14));exact HO_769001.out) hb);have n2_:=zz31 (Kd.R_below (by (with_reducible repeat (first | apply zz12 | apply zz13 | apply zz14));exact HO_775001.out) hb);have n3_:=zz31 (Kd.R_below (by (with_reducible repeat (first | apply zz12 | apply zz13 | apply zz14));exact HO_797001.out) hb);have n4_:=zz31 (zz11 (g:=gb752) (o:=.cells #[.int .i64 a0_0,.slice A0_1 l0_1.length c0_1] 24 (0,0)) (by (with_reducible repeat (first | refine zz6 ?_ _ | refine zz7 ?_ | refine zz8 ?_ _));exact BK752.out) hb);have n5_:=zz31 (zz11 (g:=gb763) (o:=.cells #[.int .i64 t758,.slice Ao26 t759.length co26] 30 (0,0)) (by (with_reducible repeat (first | refine zz6 ?_ _ | refine zz7 ?_ | refine zz8 ?_ _));exact BK763.out) hb);have n6_:=zz31 (zz11 (g:=gb768) (o:=.cells #[.int .i64 t764,.slice Ao33 t782.length co33] 30 (0,0)) (by (with_reducible repeat (first | refine zz6 ?_ _ | refine zz7 ?_ | refine zz8 ?_ _));exact BK768.out) hb);have n7_:=zz31 (zz11 (g:=gb774) (o:=.cells #[.int .i64 t769,.slice Ao40 t785.length co40] 30 (0,0)) (by (with_reducible repeat (first | refine zz6 ?_ _ | refine zz7 ?_ | refine zz8 ?_ _));exact BK774.out) hb);have n8_:=zz31 (zz11 (g:=gb796) (o:=.cells #[.int .i64 t791,.slice Ao127 t792.length co127] 30 (0,0)) (by (with_reducible repeat (first | refine zz6 ?_ _ | refine zz7 ?_ | refine zz8 ?_ _));exact BK796.out) hb);have n9_:=zz31 (zz4 (by repeat first | exact HB.out | apply zz2 | apply zz0 | apply zz1 | refine zz3 ?_ GE752.out | refine zz3 ?_ GE763.out | refine zz3 ?_ GE768.out | refine zz3 ?_ GE774.out | refine zz3 ?_ GE796.out) hb);clear HO_764001;clear HO_769001;clear HO_775001;clear HO_797001;clear BK752;clear BK763;clear BK768;clear BK774;clear BK796;clear HB;have HO_764001:=n0_;have HO_769001:=n1_;have HO_775001:=n2_;have HO_797001:=n3_;have BK752:=n4_;have BK763:=n5_;have BK768:=n6_;have BK774:=n7_;have BK796:=n8_;have HB:=n9_;clear n0_ n1_ n2_ n3_ n4_ n5_ n6_ n7_ n8_ n9_;(try clear hb);(try clear hb2);(try clear hk);(try clear hi)))
                go_ret
                exact ⟨by first | rfl | (simp [errW_none,errW_some] <;> rfl) | (simp [*,errW_none,errW_some] <;> rfl),by repeat first | exact HB.out | apply zz2 | apply zz0 | apply zz1 | refine zz3 ?_ GE752.out | refine zz3 ?_ GE763.out | refine zz3 ?_ GE768.out | refine zz3 ?_ GE774.out | refine zz3 ?_ GE796.out⟩
               ·rw [if_neg c159] at H
                have c159b0:(t798 == t784)=false:=beq_eq_false_iff_ne.mpr c159
                have c159b1:(t798 != t784)=true:=bne_iff_ne.mpr c159
                obtain rfl:=Option.some.inj H
                have hnb166:=NB774_752.out
                have hnc166:=NB752_774.out
                have hnb167:=NB774_763.out
                have hnc167:=NB763_774.out
                have hnb168:=NB774_768.out
                have hnc168:=NB768_774.out
                have hnb169:=NB774_796.out
                have hnc169:=NB796_774.out
                have hcz170_0:wc.cell? ⟨gb774,0,none⟩=some (.int .i64 t769):=(zz9 BK774.out 0).trans rfl
                have hcz170_1:wc.cell? ⟨gb774,1,none⟩=some (.slice Ao40 t785.length co40):=(zz9 BK774.out 1).trans rfl
                have hfz170_0:=zz10 BK774.out 0
                have hfz170_1:=zz10 BK774.out 1
                go_wp2_with (first | ((with_reducible refine gate_callee (f:=29) rfl ?_);refine goesL_ (some 110) rfl rfl Try.func29 (by kernel_rfl) rfl #[.agg #[.int .i64 t769,.slice Ao40 t785.length co40],.int .i64 1] rfl (by (try simp only [zz26,zz27,zz28]);first | done | rfl | (simp only [zz24,zz25];rfl)) ?_;(with_reducible refine (laws_heldParty.calls kj106 t769 _ _ t785 1 t798 _ ?side1 ?side2 A151.out).mono ?_);(case side1=>repeat (first | exact (Kd.R_reads' HO_775001.out).2.2 | (with_reducible refine zz18 ?_ _) | (with_reducible refine zz19 ?_ _) | (with_reducible refine zz20 ?_)));(case side2=>exact (Kd.R_reads' HO_775001.out).2.1);rintro e w171 ⟨rfl,hb⟩;refine ⟨_,rfl,?_⟩;have n0_:=zz31 (Kd.R_below (by (with_reducible repeat (first | apply zz12 | apply zz13 | apply zz14));exact HO_764001.out) hb);have n1_:=zz31 (Kd.R_below (by (with_reducible repeat (first | apply zz12 | apply zz13 | apply zz14));exact HO_769001.out) hb);have n2_:=zz31 (Kd.R_below (by (with_reducible repeat (first | apply zz12 | apply zz13 | apply zz14));exact HO_775001.out) hb);have n3_:=zz31 (Kd.R_below (by (with_reducible repeat (first | apply zz12 | apply zz13 | apply zz14));exact HO_797001.out) hb);have n4_:=zz31 (zz11 (g:=gb752) (o:=.cells #[.int .i64 a0_0,.slice A0_1 l0_1.length c0_1] 24 (0,0)) (by (with_reducible repeat (first | refine zz6 ?_ _ | refine zz7 ?_ | refine zz8 ?_ _));exact BK752.out) hb);have n5_:=zz31 (zz11 (g:=gb763) (o:=.cells #[.int .i64 t758,.slice Ao26 t759.length co26] 30 (0,0)) (by (with_reducible repeat (first | refine zz6 ?_ _ | refine zz7 ?_ | refine zz8 ?_ _));exact BK763.out) hb);have n6_:=zz31 (zz11 (g:=gb768) (o:=.cells #[.int .i64 t764,.slice Ao33 t782.length co33] 30 (0,0)) (by (with_reducible repeat (first | refine zz6 ?_ _ | refine zz7 ?_ | refine zz8 ?_ _));exact BK768.out) hb);have n7_:=zz31 (zz11 (g:=gb774) (o:=.cells #[.int .i64 t769,.slice Ao40 t785.length co40] 30 (0,0)) (by (with_reducible repeat (first | refine zz6 ?_ _ | refine zz7 ?_ | refine zz8 ?_ _));exact BK774.out) hb);have n8_:=zz31 (zz11 (g:=gb796) (o:=.cells #[.int .i64 t791,.slice Ao127 t792.length co127] 30 (0,0)) (by (with_reducible repeat (first | refine zz6 ?_ _ | refine zz7 ?_ | refine zz8 ?_ _));exact BK796.out) hb);have n9_:=zz31 (zz4 (by repeat first | exact HB.out | apply zz2 | apply zz0 | apply zz1 | refine zz3 ?_ GE752.out | refine zz3 ?_ GE763.out | refine zz3 ?_ GE768.out | refine zz3 ?_ GE774.out | refine zz3 ?_ GE796.out) hb);clear HO_764001;clear HO_769001;clear HO_775001;clear HO_797001;clear BK752;clear BK763;clear BK768;clear BK774;clear BK796;clear HB;have HO_764001:=n0_;have HO_769001:=n1_;have HO_775001:=n2_;have HO_797001:=n3_;have BK752:=n4_;have BK763:=n5_;have BK768:=n6_;have BK774:=n7_;have BK796:=n8_;have HB:=n9_;clear n0_ n1_ n2_ n3_ n4_ n5_ n6_ n7_ n8_ n9_;(try clear hb);(try clear hb2);(try clear hk);(try clear hi)))
                go_ret
                exact ⟨by first | rfl | (simp [errW_none,errW_some] <;> rfl) | (simp [*,errW_none,errW_some] <;> rfl),by repeat first | exact HB.out | apply zz2 | apply zz0 | apply zz1 | refine zz3 ?_ GE752.out | refine zz3 ?_ GE763.out | refine zz3 ?_ GE768.out | refine zz3 ?_ GE774.out | refine zz3 ?_ GE796.out⟩
          ·rw [if_neg c104] at H
           have c104b0:(t786 == t784)=false:=beq_eq_false_iff_ne.mpr c104
           have c104b1:(t786 != t784)=true:=bne_iff_ne.mpr c104
           obtain rfl:=Option.some.inj H
           have hnb172:=NB774_752.out
           have hnc172:=NB752_774.out
           have hnb173:=NB774_763.out
           have hnc173:=NB763_774.out
           have hnb174:=NB774_768.out
           have hnc174:=NB768_774.out
           have hcz175_0:wc.cell? ⟨gb774,0,none⟩=some (.int .i64 t769):=(zz9 BK774.out 0).trans rfl
           have hcz175_1:wc.cell? ⟨gb774,1,none⟩=some (.slice Ao40 t770.length co40):=(zz9 BK774.out 1).trans rfl
           have hfz175_0:=zz10 BK774.out 0
           have hfz175_1:=zz10 BK774.out 1
           go_wp2_with (first | ((with_reducible refine gate_callee (f:=20) rfl ?_);refine goesL_ (some 80) rfl rfl Try.func20 (by kernel_rfl) rfl #[.agg #[.int .i64 t769,.slice Ao40 t770.length co40],.int .i64 1] rfl (by (try simp only [zz26,zz27,zz28]);first | done | rfl | (simp only [zz24,zz25];rfl)) ?_;(with_reducible refine (laws_markParty.calls kj63 t769 (fun k_=>some k_=(.slice Ao40 t770.length co40:Value).ownBlock) (.slice Ao40 t770.length co40) t770 1 t784 t785 w _ ?side1 ?side2 A94.out).mono ?_);(case side1=>repeat first | exact HB.out | apply zz2 | apply zz0 | apply zz1 | refine zz3 ?_ GE752.out | refine zz3 ?_ GE763.out | refine zz3 ?_ GE768.out | refine zz3 ?_ GE774.out);(case side2=>exact Kd.R_tight rfl HO_775001.out);rintro e w176 ⟨rfl,hy0,hb,hkp⟩;refine ⟨_,rfl,?_⟩;have n0_:=zz31 (Kd.R_mono (ok':=fun k_=>some k_ ≠ (.slice Ao33 t782.length co33:Value).ownBlock∧some k_ ≠ (.slice Ao40 t770.length co40:Value).ownBlock) (Kd.R_keptB (HO_764001.out) hkp (fun k_ hk_ hs_=>(hk_.2) hs_)) (fun k_ hk_=>⟨hk_.1.1,hk_.1.2⟩));have n1_:=zz31 (Kd.R_mono (ok':=fun k_=>some k_ ≠ (.slice Ao26 t759.length co26:Value).ownBlock∧some k_ ≠ (.slice Ao40 t770.length co40:Value).ownBlock) (Kd.R_keptB (HO_769001.out) hkp (fun k_ hk_ hs_=>(hk_.2) hs_)) (fun k_ hk_=>⟨hk_.1.1,hk_.1.2⟩));have n2_:=zz31 (Kd.R_reok rfl hy0 (fun k_ e_=>HO_775001.out.1 k_ e_));(first | have n3_:=zz31 (blk_kept BK752.out hkp (fun hs_=>(fun e_=>(Kd.R_ne HO_775001.out BK752.out (by decide)) e_) hs_)) | have n3_:=zz31 (blk_kept (by (with_reducible repeat (first | refine zz6 ?_ _ | refine zz7 ?_ | refine zz8 ?_ _));exact BK752.out) hkp (fun hs_=>(fun e_=>(Kd.R_ne HO_775001.out BK752.out (by decide)) e_) hs_)));(first | have n4_:=zz31 (blk_kept BK763.out hkp (fun hs_=>(fun e_=>(Kd.R_ne HO_775001.out BK763.out (by decide)) e_) hs_)) | have n4_:=zz31 (blk_kept (by (with_reducible repeat (first | refine zz6 ?_ _ | refine zz7 ?_ | refine zz8 ?_ _));exact BK763.out) hkp (fun hs_=>(fun e_=>(Kd.R_ne HO_775001.out BK763.out (by decide)) e_) hs_)));(first | have n5_:=zz31 (blk_kept BK768.out hkp (fun hs_=>(fun e_=>(Kd.R_ne HO_775001.out BK768.out (by decide)) e_) hs_)) | have n5_:=zz31 (blk_kept (by (with_reducible repeat (first | refine zz6 ?_ _ | refine zz7 ?_ | refine zz8 ?_ _));exact BK768.out) hkp (fun hs_=>(fun e_=>(Kd.R_ne HO_775001.out BK768.out (by decide)) e_) hs_)));(first | have n6_:=zz31 (blk_kept BK774.out hkp (fun hs_=>(fun e_=>(Kd.R_ne HO_775001.out BK774.out (by decide)) e_) hs_)) | have n6_:=zz31 (blk_kept (by (with_reducible repeat (first | refine zz6 ?_ _ | refine zz7 ?_ | refine zz8 ?_ _));exact BK774.out) hkp (fun hs_=>(fun e_=>(Kd.R_ne HO_775001.out BK774.out (by decide)) e_) hs_)));have n7_:=zz31 (hb);clear HO_764001;clear HO_769001;clear HO_775001;clear BK752;clear BK763;clear BK768;clear BK774;clear HB;have HO_764001:=n0_;have HO_769001:=n1_;have HO_775001:=n2_;have BK752:=n3_;have BK763:=n4_;have BK768:=n5_;have BK774:=n6_;have HB:=n7_;clear n0_ n1_ n2_ n3_ n4_ n5_ n6_ n7_;(try clear hb);(try clear hkp);(try clear hy0);have hcz177_0:w176.cell? ⟨gb774,0,none⟩=some (.int .i64 t769):=(zz9 BK774.out 0).trans rfl;have hcz177_1:w176.cell? ⟨gb774,1,none⟩=some (.slice Ao40 t770.length co40):=(zz9 BK774.out 1).trans rfl;have hfz177_0:=zz10 BK774.out 0;have hfz177_1:=zz10 BK774.out 1) | ((with_reducible refine gate_callee (f:=29) rfl ?_);refine goesL_ (some 83) rfl rfl Try.func29 (by kernel_rfl) rfl #[.agg #[.int .i64 t769,.slice Ao40 t785.length co40],.int .i64 1] rfl (by (try simp only [zz26,zz27,zz28]);first | done | (rw [show t785.length=t770.length from (Kd.R_reads' HO_775001.out).1.symm] <;> rfl) | rfl | (simp only [zz24,zz25];rfl)) ?_;(with_reducible refine (laws_heldParty.calls kj63 t769 _ _ t785 1 t786 _ ?side1 ?side2 A95.out).mono ?_);(case side1=>repeat (first | exact (Kd.R_reads' HO_775001.out).2.2 | (with_reducible refine zz18 ?_ _) | (with_reducible refine zz19 ?_ _) | (with_reducible refine zz20 ?_)));(case side2=>rw [show t785.length=t770.length from (Kd.R_reads' HO_775001.out).1.symm];exact (Kd.R_reads' HO_775001.out).2.1);rintro e w178 ⟨rfl,hb⟩;refine ⟨_,rfl,?_⟩;have n0_:=zz31 (Kd.R_below (by (with_reducible repeat (first | apply zz12 | apply zz13 | apply zz14));exact HO_764001.out) hb);have n1_:=zz31 (Kd.R_below (by (with_reducible repeat (first | apply zz12 | apply zz13 | apply zz14));exact HO_769001.out) hb);have n2_:=zz31 (Kd.R_below (by (with_reducible repeat (first | apply zz12 | apply zz13 | apply zz14));exact HO_775001.out) hb);have n3_:=zz31 (zz11 (g:=gb752) (o:=.cells #[.int .i64 a0_0,.slice A0_1 l0_1.length c0_1] 24 (0,0)) (by (with_reducible repeat (first | refine zz6 ?_ _ | refine zz7 ?_ | refine zz8 ?_ _));exact BK752.out) hb);have n4_:=zz31 (zz11 (g:=gb763) (o:=.cells #[.int .i64 t758,.slice Ao26 t759.length co26] 30 (0,0)) (by (with_reducible repeat (first | refine zz6 ?_ _ | refine zz7 ?_ | refine zz8 ?_ _));exact BK763.out) hb);have n5_:=zz31 (zz11 (g:=gb768) (o:=.cells #[.int .i64 t764,.slice Ao33 t782.length co33] 30 (0,0)) (by (with_reducible repeat (first | refine zz6 ?_ _ | refine zz7 ?_ | refine zz8 ?_ _));exact BK768.out) hb);have n6_:=zz31 (zz11 (g:=gb774) (o:=.cells #[.int .i64 t769,.slice Ao40 t770.length co40] 30 (0,0)) (by (with_reducible repeat (first | refine zz6 ?_ _ | refine zz7 ?_ | refine zz8 ?_ _));exact BK774.out) hb);have n7_:=zz31 (zz4 (by repeat first | exact HB.out | apply zz2 | apply zz0 | apply zz1 | refine zz3 ?_ GE752.out | refine zz3 ?_ GE763.out | refine zz3 ?_ GE768.out | refine zz3 ?_ GE774.out) hb);clear HO_764001;clear HO_769001;clear HO_775001;clear BK752;clear BK763;clear BK768;clear BK774;clear HB;have HO_764001:=n0_;have HO_769001:=n1_;have HO_775001:=n2_;have BK752:=n3_;have BK763:=n4_;have BK768:=n5_;have BK774:=n6_;have HB:=n7_;clear n0_ n1_ n2_ n3_ n4_ n5_ n6_ n7_;(try clear hb);(try clear hb2);(try clear hk);(try clear hi)))
           go_ret
           exact ⟨by first | rfl | (simp [errW_none,errW_some] <;> rfl) | (simp [*,errW_none,errW_some] <;> rfl),by repeat first | exact HB.out | apply zz2 | apply zz0 | apply zz1 | refine zz3 ?_ GE752.out | refine zz3 ?_ GE763.out | refine zz3 ?_ GE768.out | refine zz3 ?_ GE774.out⟩
     ·replace c62:=Bool.eq_false_iff.mpr c62
      subst c62
      have H1:(some false)=some r:=by rw [if_neg (show ¬ (false=true) by decide)] at H;exact H
      clear H
      have H:=H1
      clear H1
      obtain rfl:=Option.some.inj H
      try go_wp2
      have n0_:=zz31 (zz14 HO_764001.out)
      have n1_:=zz31 (zz14 HO_769001.out)
      have n2_:=zz31 (zz14 HO_775001.out)
      have n3_:=zz31 (zz7 BK752.out)
      have n4_:=zz31 (zz7 BK763.out)
      have n5_:=zz31 (zz7 BK768.out)
      have n6_:=zz31 (zz7 BK774.out)
      have n7_:=zz31 (zz1 HB.out)
      clear HO_764001
      clear HO_769001
      clear HO_775001
      clear BK752
      clear BK763
      clear BK768
      clear BK774
      clear HB
      have HO_764001:=n0_
      have HO_769001:=n1_
      have HO_775001:=n2_
      have BK752:=n3_
      have BK763:=n4_
      have BK768:=n5_
      have BK774:=n6_
      have HB:=n7_
      clear n0_ n1_ n2_ n3_ n4_ n5_ n6_ n7_
      refine start_ (n:=5) (S:=fun w'=>w'.cell? ⟨gb768,0,none⟩=some (.int .i64 t764)∧w'.cell? ⟨gb768,1,none⟩=some (.slice Ao33 t765.length co33)∧w'.cell? ⟨gb752,0,none⟩=some (.int .i64 a0_0)∧w'.cell? ⟨gb752,1,none⟩=some (.slice A0_1 l0_1.length c0_1)) (ds:=[]) #[F,F,F,F,F] (by kernel_rfl) rfl rfl ⟨(zz9 BK768.out 0).trans rfl,(zz9 BK768.out 1).trans rfl,(zz9 BK752.out 0).trans rfl,(zz9 BK752.out 1).trans rfl⟩ (fun hHeld=>?_)
      generalize wc.drew=w179 at HO_764001 HO_769001 HO_775001 BK752 BK763 BK768 BK774 HB hHeld ⊢
      refine take_ (i:=0) (N:=some 57) (v:=?_) (a':=?_) #[T,F,F,F,F] rfl rfl (by kernel_rfl) (fun _ _ _ h=>h) (Or.inl ⟨by rfl,?_⟩) hHeld ?_ ?_
      rotate_left
      ·rintro w' ⟨s0,s1,s2,s3⟩
       go_simp
       with_reducible rfl
      rotate_left
      ·simp only [Act.put,zz21,zz22,zz23,i64_w,i32_w]
       rfl
      refine take_ (i:=1) (N:=some 58) (v:=?_) (a':=?_) #[T,T,F,F,F] rfl rfl (by kernel_rfl) (fun _ _ _ h=>h) (Or.inl ⟨by rfl,?_⟩) hHeld ?_ ?_
      rotate_left
      ·rintro w' ⟨s0,s1,s2,s3⟩
       go_simp
       with_reducible rfl
      rotate_left
      ·simp only [Act.put,zz21,zz22,zz23,i64_w,i32_w]
       rfl
      refine one_ (i:=2) (N:=some 59) #[T,T,T,F,F] rfl rfl (by kernel_rfl) (by decide) (fun K hK=>?_)
      refine goes_ Try.func14 (by kernel_rfl) rfl #[.agg #[.int .i64 a0_0,.slice A0_1 l0_1.length c0_1]] (by rfl) rfl rfl (by (try simp only [zz26,zz27,zz28]);first | done | rfl | (simp only [zz24,zz25];rfl)) ?_
      with_reducible refine (laws_toParty.calls kj14 a0_0 _ _ l0_1 t776 t777 _ ?side1 ?side2 A60.out).mono ?_
      (case side1=>repeat (first | exact (Kd.C_below HR0_1.out HB.out) | (with_reducible refine zz18 ?_ _) | (with_reducible refine zz19 ?_ _) | (with_reducible refine zz20 ?_)))
      (case side2=>exact HC0_1.out)
      rintro e w180 ⟨v778,rfl,ho0,hb⟩
      refine ⟨_,rfl,?_⟩
      have n0_:=zz31 (Kd.R_elder' (by (with_reducible repeat (first | apply zz12 | apply zz13 | apply zz14));exact HO_764001.out) (Kd.R_base ho0) hb)
      have n1_:=zz31 (Kd.R_elder' (by (with_reducible repeat (first | apply zz12 | apply zz13 | apply zz14));exact HO_769001.out) (Kd.R_base ho0) hb)
      have n2_:=zz31 (Kd.R_elder' (by (with_reducible repeat (first | apply zz12 | apply zz13 | apply zz14));exact HO_775001.out) (Kd.R_base ho0) hb)
      have n3_:=zz31 (Kd.R_lower (Kd.R_new' (Kd.R_new' (Kd.R_new' ho0 (Kd.R_lt (by (with_reducible repeat (first | apply zz12 | apply zz13 | apply zz14));exact HO_764001.out))) (Kd.R_lt (by (with_reducible repeat (first | apply zz12 | apply zz13 | apply zz14));exact HO_769001.out))) (Kd.R_lt (by (with_reducible repeat (first | apply zz12 | apply zz13 | apply zz14));exact HO_775001.out))) (zz5 (by repeat first | exact HB.out | apply zz2 | apply zz0 | apply zz1 | refine zz3 ?_ GE752.out | refine zz3 ?_ GE763.out | refine zz3 ?_ GE768.out | refine zz3 ?_ GE774.out)))
      have n4_:=zz31 (zz11 (g:=gb752) (o:=.cells #[.int .i64 a0_0,.slice A0_1 l0_1.length c0_1] 24 (0,0)) (by (with_reducible repeat (first | refine zz6 ?_ _ | refine zz7 ?_ | refine zz8 ?_ _));exact BK752.out) hb)
      have n5_:=zz31 (zz11 (g:=gb763) (o:=.cells #[.int .i64 t758,.slice Ao26 t759.length co26] 30 (0,0)) (by (with_reducible repeat (first | refine zz6 ?_ _ | refine zz7 ?_ | refine zz8 ?_ _));exact BK763.out) hb)
      have n6_:=zz31 (zz11 (g:=gb768) (o:=.cells #[.int .i64 t764,.slice Ao33 t765.length co33] 30 (0,0)) (by (with_reducible repeat (first | refine zz6 ?_ _ | refine zz7 ?_ | refine zz8 ?_ _));exact BK768.out) hb)
      have n7_:=zz31 (zz11 (g:=gb774) (o:=.cells #[.int .i64 t769,.slice Ao40 t770.length co40] 30 (0,0)) (by (with_reducible repeat (first | refine zz6 ?_ _ | refine zz7 ?_ | refine zz8 ?_ _));exact BK774.out) hb)
      have n8_:=zz31 (zz4 (by repeat first | exact HB.out | apply zz2 | apply zz0 | apply zz1 | refine zz3 ?_ GE752.out | refine zz3 ?_ GE763.out | refine zz3 ?_ GE768.out | refine zz3 ?_ GE774.out) hb)
      clear HO_764001
      clear HO_769001
      clear HO_775001
      clear BK752
      clear BK763
      clear BK768
      clear BK774
      clear HB
      have HO_764001:=n0_
      have HO_769001:=n1_
      have HO_775001:=n2_
      have HO779:=n3_
      have BK752:=n4_
      have BK763:=n5_
      have BK768:=n6_
      have BK774:=n7_
      have HB:=n8_
      clear n0_ n1_ n2_ n3_ n4_ n5_ n6_ n7_ n8_
      (try clear hb)
      (try clear hb2)
      (try clear hk)
      (try clear hi)
      (try clear ho0)
      obtain ⟨Ao181,co181,eo181⟩:=Kd.R_slice HO779.out
      (first | subst eo181 | (injection eo181 with f1_ f2_ f3_;have f4_:=f1_.symm;have f5_:=f3_.symm;clear f1_ f2_ f3_;subst f4_;subst f5_))
      refine hK.out _ _ ⟨(zz9 BK768.out 0).trans rfl,(zz9 BK768.out 1).trans rfl,(zz9 BK752.out 0).trans rfl,(zz9 BK752.out 1).trans rfl⟩ (fun hHeld=>?_)
      clear hK K
      refine norm_ (a':=?_) ?_ ?_
      rotate_left
      ·show Act.put _ (some 59) _=_
       simp only [Act.put,zz21,zz22,zz23,i64_w,i32_w]
       rfl
      refine one_ (i:=3) (N:=some 60) #[T,T,T,T,F] rfl rfl (by kernel_rfl) (by decide) (fun K hK=>?_)
      refine goes_ Try.func16 (by kernel_rfl) rfl #[.agg #[.int .i64 t764,.slice Ao33 t765.length co33],.agg #[.int .i64 t776,.slice Ao181 t777.length co181]] (by rfl) rfl rfl (by (try simp only [zz26,zz27,zz28]);first | done | rfl | (simp only [zz24,zz25];rfl)) ?_
      with_reducible refine (laws_eqParty.calls kj14 t764 _ _ t765 t776 _ _ t777 false _ ?side1 ?side2 ?side3 ?side4 A61.out).mono ?_
      (case side1=>repeat (first | exact (Kd.R_reads' HO_769001.out).2.2 | (with_reducible refine zz18 ?_ _) | (with_reducible refine zz19 ?_ _) | (with_reducible refine zz20 ?_)))
      (case side2=>exact (Kd.R_reads' HO_769001.out).2.1)
      (case side3=>repeat (first | exact (Kd.R_reads' HO779.out).2.2 | (with_reducible refine zz18 ?_ _) | (with_reducible refine zz19 ?_ _) | (with_reducible refine zz20 ?_)))
      (case side4=>exact (Kd.R_reads' HO779.out).2.1)
      rintro e w182 ⟨rfl,hb⟩
      refine ⟨_,rfl,?_⟩
      have n0_:=zz31 (Kd.R_below (by (with_reducible repeat (first | apply zz12 | apply zz13 | apply zz14));exact HO_764001.out) hb)
      have n1_:=zz31 (Kd.R_below (by (with_reducible repeat (first | apply zz12 | apply zz13 | apply zz14));exact HO_769001.out) hb)
      have n2_:=zz31 (Kd.R_below (by (with_reducible repeat (first | apply zz12 | apply zz13 | apply zz14));exact HO_775001.out) hb)
      have n3_:=zz31 (Kd.R_below (by (with_reducible repeat (first | apply zz12 | apply zz13 | apply zz14));exact HO779.out) hb)
      have n4_:=zz31 (zz11 (g:=gb752) (o:=.cells #[.int .i64 a0_0,.slice A0_1 l0_1.length c0_1] 24 (0,0)) (by (with_reducible repeat (first | refine zz6 ?_ _ | refine zz7 ?_ | refine zz8 ?_ _));exact BK752.out) hb)
      have n5_:=zz31 (zz11 (g:=gb763) (o:=.cells #[.int .i64 t758,.slice Ao26 t759.length co26] 30 (0,0)) (by (with_reducible repeat (first | refine zz6 ?_ _ | refine zz7 ?_ | refine zz8 ?_ _));exact BK763.out) hb)
      have n6_:=zz31 (zz11 (g:=gb768) (o:=.cells #[.int .i64 t764,.slice Ao33 t765.length co33] 30 (0,0)) (by (with_reducible repeat (first | refine zz6 ?_ _ | refine zz7 ?_ | refine zz8 ?_ _));exact BK768.out) hb)
      have n7_:=zz31 (zz11 (g:=gb774) (o:=.cells #[.int .i64 t769,.slice Ao40 t770.length co40] 30 (0,0)) (by (with_reducible repeat (first | refine zz6 ?_ _ | refine zz7 ?_ | refine zz8 ?_ _));exact BK774.out) hb)
      have n8_:=zz31 (zz4 (by repeat first | exact HB.out | apply zz2 | apply zz0 | apply zz1 | refine zz3 ?_ GE752.out | refine zz3 ?_ GE763.out | refine zz3 ?_ GE768.out | refine zz3 ?_ GE774.out) hb)
      clear HO_764001
      clear HO_769001
      clear HO_775001
      clear HO779
      clear BK752
      clear BK763
      clear BK768
      clear BK774
      clear HB
      have HO_764001:=n0_
      have HO_769001:=n1_
      have HO_775001:=n2_
      have HO779:=n3_
      have BK752:=n4_
      have BK763:=n5_
      have BK768:=n6_
      have BK774:=n7_
      have HB:=n8_
      clear n0_ n1_ n2_ n3_ n4_ n5_ n6_ n7_ n8_
      (try clear hb)
      (try clear hb2)
      (try clear hk)
      (try clear hi)
      refine hK.out _ _ ⟨(zz9 BK768.out 0).trans rfl,(zz9 BK768.out 1).trans rfl,(zz9 BK752.out 0).trans rfl,(zz9 BK752.out 1).trans rfl⟩ (fun hHeld=>?_)
      clear hK K
      refine norm_ (a':=?_) ?_ ?_
      rotate_left
      ·show Act.put _ (some 60) _=_
       simp only [Act.put,zz21,zz22,zz23,i64_w,i32_w]
       rfl
      refine pure_ (i:=4) (N:=some 61) (v:=?_) (a':=?_) #[T,T,T,T,T] rfl rfl (by kernel_rfl) (fun _ _ _ h=>h) (Or.inl ⟨by rfl,?_⟩) ?_ ?_
      rotate_left
      ·intro w'
       go_simp
       with_reducible rfl
      rotate_left
      ·simp only [Act.put,zz21,zz22,zz23,i64_w,i32_w]
       rfl
      refine done_ (by kernel_rfl) ?_
      try go_wp2
      go_ret
      exact ⟨by first | rfl | (simp [errW_none,errW_some] <;> rfl) | (simp [*,errW_none,errW_some] <;> rfl),by repeat first | exact HB.out | apply zz2 | apply zz0 | apply zz1 | refine zz3 ?_ GE752.out | refine zz3 ?_ GE763.out | refine zz3 ?_ GE768.out | refine zz3 ?_ GE774.out⟩

end Go.Proofs.Ytialimbdkokdcaa.P
