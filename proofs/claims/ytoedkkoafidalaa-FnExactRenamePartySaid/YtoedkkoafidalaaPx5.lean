-- PRINTED by print.py (a twelfth state) out of the translation. Not trusted: Lean checks it.
import Derived.Test.YtoedkkoafidalaaPx0
import Derived.Test.YtoedkkoafidalaaPx1
import Derived.Test.YtoedkkoafidalaaPx3
import Derived.Test.YtoedkkoafidalaaPx4
namespace Go.Proofs.Ytoedkkoafidalaa.P
open Go.RowKit Go.Proofs.YtoedkkoafidalaaW.PrintWords Go.Proofs.YtoedkkoafidalaaW.PrintLast Go.Proofs.YtoedkkoafidalaaW.PrintMore
open Bool renaming true → T, false → F
attribute [local go_sem] max2_int min2_int max_two min_two max_three min_three max_four min_four   -- for this text's walks alone
set_option linter.unusedVariables false
set_option linter.unusedSimpArgs false

/-! ### laws_FnExactRenameParty: function 6 -/
mutual
def laws_FnExactRenameParty.j0:Nat→List Int→Bool→List Int→Bool→Bool→Int→List (S86)→Int→List (S70)→Int→List (S70)→Int→List (S70)→Option (Bool)
 | 0,_,_,_,_,_,_,_,_,_,_,_,_,_=>none
 | k+1,x1,x7,x9,x11,x51,x255000,x255001,x269000,x269001,x274000,x274001,x283000,x283001=>if x51=true then (some false) else ((laws_toParty.f k x255000 x255001).bind fun bt284=>((laws_eqParty.f k x274000 x274001 bt284.1 bt284.2).bind fun t288=>(if t288=true then ((laws_toIntS.f k x1).bind fun t289=>((laws_eqIntS.f k x9 t289).bind fun t292=>(if t292=true then ((laws_markParty.f k x274000 x274001 1).bind fun bt293=>((laws_markIntS.f k x9 bt293.1).bind fun bt295=>(if bt295.1 < 0 then (laws_FnExactRenameParty.j1 k x1 x7 true x255000 x255001 x269000 x269001 x283000 x283001) else ((laws_eqParty.f k x283000 x283001 x269000 x269001).bind fun t297=>(if t297=true then (laws_FnExactRenameParty.j1 k x1 x7 (x11 != x7) x255000 x255001 x269000 x269001 x283000 x283001) else (laws_FnExactRenameParty.j1 k x1 x7 true x255000 x255001 x269000 x269001 x283000 x283001)))))) else (some false)))) else (some false))))
def laws_FnExactRenameParty.j1:Nat→List Int→Bool→Bool→Int→List (S86)→Int→List (S70)→Int→List (S70)→Option (Bool)
 | 0,_,_,_,_,_,_,_,_,_=>none
 | k+1,x1,x7,x80,x255000,x255001,x269000,x269001,x283000,x283001=>if x80=true then (some false) else ((laws_markParty.f k x283000 x283001 1).bind fun bt298=>((laws_heldParty.f k x283000 bt298.2 1).bind fun t300=>(if t300 < 0 then (some false) else (if t300=bt298.1 then ((laws_toParty.f k x255000 x255001).bind fun bt301=>((laws_toIntS.f k x1).bind fun t305=>((impl_RenameParty.f k bt301.1 bt301.2 t305).bind fun bt308=>((laws_eqParty.f k bt308.1 bt308.2.1 x269000 x269001).bind fun t314=>(if t314=true then (laws_FnExactRenameParty.j2 k bt298.1 (bt308.2.2 != x7) x283000 bt298.2) else (laws_FnExactRenameParty.j2 k bt298.1 true x283000 bt298.2)))))) else (some false)))))
def laws_FnExactRenameParty.j2:Nat→Int→Bool→Int→List (S70)→Option (Bool)
 | 0,_,_,_,_=>none
 | k+1,x13,x108,x283000,x283001=>if x108=true then (some false) else ((laws_heldParty.f k x283000 x283001 1).bind fun t315=>(if t315 < 0 then (some false) else (if t315=x13 then (some true) else (some false))))
end
def laws_FnExactRenameParty.f (k:Nat) (a0_0:Int) (l0_1:List (S86)) (l1:List Int):Option (Bool):=if (l1.length:Int) > 1048576 then (some true) else ((laws_szParty.f a0_0 l0_1 1048576).bind fun t255=>(if t255 < 0 then (some true) else ((laws_toParty.f k a0_0 l0_1).bind fun bt256=>((laws_toIntS.f k l1).bind fun t260=>((spec_RenameParty.f k bt256.1 bt256.2 t260).bind fun bt263=>((laws_toParty.f k a0_0 l0_1).bind fun bt269=>((laws_toIntS.f k l1).bind fun t274=>((impl_RenameParty.f k bt269.1 bt269.2 t274).bind fun bt277=>((laws_eqParty.f k bt277.1 bt277.2.1 bt263.1 bt263.2.1).bind fun t283=>(if t283=true then (laws_FnExactRenameParty.j0 k l1 bt263.2.2 t274 bt277.2.2 (bt277.2.2 != bt263.2.2) a0_0 l0_1 bt263.1 bt263.2.1 bt269.1 bt269.2 bt277.1 bt277.2.1) else (laws_FnExactRenameParty.j0 k l1 bt263.2.2 t274 bt277.2.2 true a0_0 l0_1 bt263.1 bt263.2.1 bt269.1 bt269.2 bt277.1 bt277.2.1)))))))))))
theorem laws_FnExactRenameParty.mono_l:∀ k,(∀ y0 y1 y2 y3 y4 y5 y6 y7 y8 y9 y10 y11 y12,LeO (laws_FnExactRenameParty.j0 k y0 y1 y2 y3 y4 y5 y6 y7 y8 y9 y10 y11 y12) (laws_FnExactRenameParty.j0 (k+1) y0 y1 y2 y3 y4 y5 y6 y7 y8 y9 y10 y11 y12))∧(∀ y0 y1 y2 y3 y4 y5 y6 y7 y8,LeO (laws_FnExactRenameParty.j1 k y0 y1 y2 y3 y4 y5 y6 y7 y8) (laws_FnExactRenameParty.j1 (k+1) y0 y1 y2 y3 y4 y5 y6 y7 y8))∧(∀ y0 y1 y2 y3,LeO (laws_FnExactRenameParty.j2 k y0 y1 y2 y3) (laws_FnExactRenameParty.j2 (k+1) y0 y1 y2 y3))
 | 0=>⟨fun _ _ _ _ _ _ _ _ _ _ _ _ _ r h=>by simp [laws_FnExactRenameParty.j0] at h,fun _ _ _ _ _ _ _ _ _ r h=>by simp [laws_FnExactRenameParty.j1] at h,fun _ _ _ _ r h=>by simp [laws_FnExactRenameParty.j2] at h⟩
 | k+1=>by
  obtain ⟨ih0,ih1,ih2⟩:=laws_FnExactRenameParty.mono_l k
  refine ⟨?_,?_,?_⟩
  ·intro y0 y1 y2 y3 y4 y5 y6 y7 y8 y9 y10 y11 y12
   unfold laws_FnExactRenameParty.j0
   repeat' first
   | (with_reducible exact ih0 _ _ _ _ _ _ _ _ _ _ _ _ _)
   | (with_reducible exact ih1 _ _ _ _ _ _ _ _ _)
   | (with_reducible exact ih2 _ _ _ _)
   | (with_reducible exact impl_RenameParty.mono _ _ _ _)
   | (with_reducible exact laws_eqIntS.mono _ _ _)
   | (with_reducible exact laws_eqParty.mono _ _ _ _ _)
   | (with_reducible exact laws_heldParty.mono _ _ _ _)
   | (with_reducible exact laws_markIntS.mono _ _ _)
   | (with_reducible exact laws_markParty.mono _ _ _ _)
   | (with_reducible exact laws_toIntS.mono _ _)
   | (with_reducible exact laws_toParty.mono _ _ _)
   | (with_reducible exact spec_RenameParty.mono _ _ _ _)
   | (with_reducible exact LeO.refl _)
   | (with_reducible exact LeO.none _)
   | (with_reducible refine LeO.ite ?_ ?_)
   | (with_reducible refine LeO.bind ?_ (fun _=>?_))
   | exact ih0 _ _ _ _ _ _ _ _ _ _ _ _ _
   | exact ih1 _ _ _ _ _ _ _ _ _
   | exact ih2 _ _ _ _
   | exact impl_RenameParty.mono _ _ _ _
   | exact laws_eqIntS.mono _ _ _
   | exact laws_eqParty.mono _ _ _ _ _
   | exact laws_heldParty.mono _ _ _ _
   | exact laws_markIntS.mono _ _ _
   | exact laws_markParty.mono _ _ _ _
   | exact laws_toIntS.mono _ _
   | exact laws_toParty.mono _ _ _
   | exact spec_RenameParty.mono _ _ _ _
   | exact LeO.none _
   | refine LeO.ite ?_ ?_
   | refine LeO.bind ?_ (fun _=>?_)
  ·intro y0 y1 y2 y3 y4 y5 y6 y7 y8
   unfold laws_FnExactRenameParty.j1
   repeat' first
   | (with_reducible exact ih0 _ _ _ _ _ _ _ _ _ _ _ _ _)
   | (with_reducible exact ih1 _ _ _ _ _ _ _ _ _)
   | (with_reducible exact ih2 _ _ _ _)
   | (with_reducible exact impl_RenameParty.mono _ _ _ _)
   | (with_reducible exact laws_eqIntS.mono _ _ _)
   | (with_reducible exact laws_eqParty.mono _ _ _ _ _)
   | (with_reducible exact laws_heldParty.mono _ _ _ _)
   | (with_reducible exact laws_markIntS.mono _ _ _)
   | (with_reducible exact laws_markParty.mono _ _ _ _)
   | (with_reducible exact laws_toIntS.mono _ _)
   | (with_reducible exact laws_toParty.mono _ _ _)
   | (with_reducible exact spec_RenameParty.mono _ _ _ _)
   | (with_reducible exact LeO.refl _)
   | (with_reducible exact LeO.none _)
   | (with_reducible refine LeO.ite ?_ ?_)
   | (with_reducible refine LeO.bind ?_ (fun _=>?_))
   | exact ih0 _ _ _ _ _ _ _ _ _ _ _ _ _
   | exact ih1 _ _ _ _ _ _ _ _ _
   | exact ih2 _ _ _ _
   | exact impl_RenameParty.mono _ _ _ _
   | exact laws_eqIntS.mono _ _ _
   | exact laws_eqParty.mono _ _ _ _ _
   | exact laws_heldParty.mono _ _ _ _
   | exact laws_markIntS.mono _ _ _
   | exact laws_markParty.mono _ _ _ _
   | exact laws_toIntS.mono _ _
   | exact laws_toParty.mono _ _ _
   | exact spec_RenameParty.mono _ _ _ _
   | exact LeO.none _
   | refine LeO.ite ?_ ?_
   | refine LeO.bind ?_ (fun _=>?_)
  ·intro y0 y1 y2 y3
   unfold laws_FnExactRenameParty.j2
   repeat' first
   | (with_reducible exact ih0 _ _ _ _ _ _ _ _ _ _ _ _ _)
   | (with_reducible exact ih1 _ _ _ _ _ _ _ _ _)
   | (with_reducible exact ih2 _ _ _ _)
   | (with_reducible exact impl_RenameParty.mono _ _ _ _)
   | (with_reducible exact laws_eqIntS.mono _ _ _)
   | (with_reducible exact laws_eqParty.mono _ _ _ _ _)
   | (with_reducible exact laws_heldParty.mono _ _ _ _)
   | (with_reducible exact laws_markIntS.mono _ _ _)
   | (with_reducible exact laws_markParty.mono _ _ _ _)
   | (with_reducible exact laws_toIntS.mono _ _)
   | (with_reducible exact laws_toParty.mono _ _ _)
   | (with_reducible exact spec_RenameParty.mono _ _ _ _)
   | (with_reducible exact LeO.refl _)
   | (with_reducible exact LeO.none _)
   | (with_reducible refine LeO.ite ?_ ?_)
   | (with_reducible refine LeO.bind ?_ (fun _=>?_))
   | exact ih0 _ _ _ _ _ _ _ _ _ _ _ _ _
   | exact ih1 _ _ _ _ _ _ _ _ _
   | exact ih2 _ _ _ _
   | exact impl_RenameParty.mono _ _ _ _
   | exact laws_eqIntS.mono _ _ _
   | exact laws_eqParty.mono _ _ _ _ _
   | exact laws_heldParty.mono _ _ _ _
   | exact laws_markIntS.mono _ _ _
   | exact laws_markParty.mono _ _ _ _
   | exact laws_toIntS.mono _ _
   | exact laws_toParty.mono _ _ _
   | exact spec_RenameParty.mono _ _ _ _
   | exact LeO.none _
   | refine LeO.ite ?_ ?_
   | refine LeO.bind ?_ (fun _=>?_)
theorem laws_FnExactRenameParty.mono:∀ a0 a1 a2 k,LeO (laws_FnExactRenameParty.f k a0 a1 a2) (laws_FnExactRenameParty.f (k+1) a0 a1 a2):=by
 intro a0 a1 a2 k
 obtain ⟨ih0,ih1,ih2⟩:=laws_FnExactRenameParty.mono_l k
 unfold laws_FnExactRenameParty.f
 repeat' first
   | (with_reducible exact ih0 _ _ _ _ _ _ _ _ _ _ _ _ _)
   | (with_reducible exact ih1 _ _ _ _ _ _ _ _ _)
   | (with_reducible exact ih2 _ _ _ _)
   | (with_reducible exact impl_RenameParty.mono _ _ _ _)
   | (with_reducible exact laws_eqIntS.mono _ _ _)
   | (with_reducible exact laws_eqParty.mono _ _ _ _ _)
   | (with_reducible exact laws_heldParty.mono _ _ _ _)
   | (with_reducible exact laws_markIntS.mono _ _ _)
   | (with_reducible exact laws_markParty.mono _ _ _ _)
   | (with_reducible exact laws_toIntS.mono _ _)
   | (with_reducible exact laws_toParty.mono _ _ _)
   | (with_reducible exact spec_RenameParty.mono _ _ _ _)
   | (with_reducible exact LeO.refl _)
   | (with_reducible exact LeO.none _)
   | (with_reducible refine LeO.ite ?_ ?_)
   | (with_reducible refine LeO.bind ?_ (fun _=>?_))
   | exact ih0 _ _ _ _ _ _ _ _ _ _ _ _ _
   | exact ih1 _ _ _ _ _ _ _ _ _
   | exact ih2 _ _ _ _
   | exact impl_RenameParty.mono _ _ _ _
   | exact laws_eqIntS.mono _ _ _
   | exact laws_eqParty.mono _ _ _ _ _
   | exact laws_heldParty.mono _ _ _ _
   | exact laws_markIntS.mono _ _ _
   | exact laws_markParty.mono _ _ _ _
   | exact laws_toIntS.mono _ _
   | exact laws_toParty.mono _ _ _
   | exact spec_RenameParty.mono _ _ _ _
   | exact LeO.none _
   | refine LeO.ite ?_ ?_
   | refine LeO.bind ?_ (fun _=>?_)
set_option maxHeartbeats 8000000 in
set_option maxRecDepth 100000 in
theorem laws_FnExactRenameParty.calls (k:Nat) (a0_0:Int) (A0_1:Option Addr) (c0_1:Nat) (l0_1:List (S86)) (A1:Option Addr) (c1:Nat) (l1:List Int) (r:Bool) (w:World) (hr0_1:Kd.C k86 w A0_1 l0_1.length l0_1) (hc0_1:l0_1.length≤c0_1) (hr1:Kd.C (Kd.int .i64) w A1 l1.length l1) (hc1:l1.length≤c1) (h:laws_FnExactRenameParty.f k a0_0 l0_1 l1=some r) :
  Calls Try.prog 6 #[.agg #[.int .i64 a0_0,.slice A0_1 l0_1.length c0_1],.slice A1 l1.length c1] w fun e w'=>e=.returned (.bool r)∧Below w.heap.size w w':=by
 have hu24:=Try.underlying24
 have hu30:=Try.underlying30
 have HR0_1:=zz31 hr0_1
 have HC0_1:=zz31 hc0_1
 clear hr0_1 hc0_1
 have HR1:=zz31 hr1
 have HC1:=zz31 hc1
 clear hr1 hc1
 have HB:=zz31 (Below.refl w.heap.size w)
 have H:(if (l1.length:Int) > 1048576 then (some true) else ((laws_szParty.f a0_0 l0_1 1048576).bind fun t255=>(if t255 < 0 then (some true) else ((laws_toParty.f k a0_0 l0_1).bind fun bt256=>((laws_toIntS.f k l1).bind fun t260=>((spec_RenameParty.f k bt256.1 bt256.2 t260).bind fun bt263=>((laws_toParty.f k a0_0 l0_1).bind fun bt269=>((laws_toIntS.f k l1).bind fun t274=>((impl_RenameParty.f k bt269.1 bt269.2 t274).bind fun bt277=>((laws_eqParty.f k bt277.1 bt277.2.1 bt263.1 bt263.2.1).bind fun t283=>(if t283=true then (laws_FnExactRenameParty.j0 k l1 bt263.2.2 t274 bt277.2.2 (bt277.2.2 != bt263.2.2) a0_0 l0_1 bt263.1 bt263.2.1 bt269.1 bt269.2 bt277.1 bt277.2.1) else (laws_FnExactRenameParty.j0 k l1 bt263.2.2 t274 bt277.2.2 true a0_0 l0_1 bt263.1 bt263.2.1 bt269.1 bt269.2 bt277.1 bt277.2.1))))))))))))=some r:=h
 clear h
 by_cases c3:(l1.length:Int) > 1048576
 ·rw [if_pos c3] at H
  have c3b0:decide (1048576 < (l1.length:Int))=true:=decide_eq_true c3
  have c3b1:decide (1048576 < l1.length)=true:=decide_eq_true (by omega)
  clear c3
  obtain rfl:=Option.some.inj H
  go_enter Try.func6,Try.ntmps6
  go_wp2_with (first | ((with_reducible refine gate_dst (N:=2) rfl ?_);refine box_event ?hg (N:=2) ?hd (cs:=#[.int .i64 a0_0,.slice A0_1 l0_1.length c0_1]) (t:=24) ?hr ?_;(case hd=>rfl);(case hg=>rfl);(case hr=>first | (go_simp;done) | (go_simp;rfl));intro gb254 hg w4 hbox hb;have n0_:=zz31 (zz4 (by repeat first | exact HB.out | apply zz2 | apply zz0 | apply zz1) hb);have n1_:=zz31 (hbox);have n2_:=zz31 ((by rw [hg];exact (zz5 (by repeat first | exact HB.out | apply zz2 | apply zz0 | apply zz1)):w.heap.size≤gb254));have n3_:=zz31 ((by rw [hg];exact (zz5 (by repeat first | exact HB.out | apply zz2 | apply zz0 | apply zz1)):w.heap.size≤gb254));clear HB;have HB:=n0_;have BK254:=n1_;have GW254:=n2_;have GE254:=n3_;clear n0_ n1_ n2_ n3_;clear hb hbox hg))
  go_ret
  exact ⟨by first | rfl | (simp [errW_none,errW_some] <;> rfl) | (simp [*,errW_none,errW_some] <;> rfl),by repeat first | exact HB.out | apply zz2 | apply zz0 | apply zz1 | refine zz3 ?_ GE254.out⟩
 ·rw [if_neg c3] at H
  have c3b0:decide (1048576 < (l1.length:Int))=false:=decide_eq_false c3
  have c3b1:decide (1048576 < l1.length)=false:=decide_eq_false (by omega)
  clear c3
  replace H:=zz30.mp H
  obtain ⟨t255,A50,H⟩:=H
  replace H:(if t255 < 0 then (some true) else ((laws_toParty.f k a0_0 l0_1).bind fun bt256=>((laws_toIntS.f k l1).bind fun t260=>((spec_RenameParty.f k bt256.1 bt256.2 t260).bind fun bt263=>((laws_toParty.f k a0_0 l0_1).bind fun bt269=>((laws_toIntS.f k l1).bind fun t274=>((impl_RenameParty.f k bt269.1 bt269.2 t274).bind fun bt277=>((laws_eqParty.f k bt277.1 bt277.2.1 bt263.1 bt263.2.1).bind fun t283=>(if t283=true then (laws_FnExactRenameParty.j0 k l1 bt263.2.2 t274 bt277.2.2 (bt277.2.2 != bt263.2.2) a0_0 l0_1 bt263.1 bt263.2.1 bt269.1 bt269.2 bt277.1 bt277.2.1) else (laws_FnExactRenameParty.j0 k l1 bt263.2.2 t274 bt277.2.2 true a0_0 l0_1 bt263.1 bt263.2.1 bt269.1 bt269.2 bt277.1 bt277.2.1))))))))))=some r:=H
  have A5:=zz31 A50
  clear A50
  by_cases c6:t255 < 0
  ·rw [if_pos c6] at H
   have c6b0:decide (t255 < 0)=true:=decide_eq_true c6
   clear c6
   obtain rfl:=Option.some.inj H
   go_enter Try.func6,Try.ntmps6
   go_wp2_with (first | ((with_reducible refine gate_dst (N:=2) rfl ?_);refine box_event ?hg (N:=2) ?hd (cs:=#[.int .i64 a0_0,.slice A0_1 l0_1.length c0_1]) (t:=24) ?hr ?_;(case hd=>rfl);(case hg=>rfl);(case hr=>first | (go_simp;done) | (go_simp;rfl));intro gb254 hg w7 hbox hb;have n0_:=zz31 (zz4 (by repeat first | exact HB.out | apply zz2 | apply zz0 | apply zz1) hb);have n1_:=zz31 (hbox);have n2_:=zz31 ((by rw [hg];exact (zz5 (by repeat first | exact HB.out | apply zz2 | apply zz0 | apply zz1)):w.heap.size≤gb254));have n3_:=zz31 ((by rw [hg];exact (zz5 (by repeat first | exact HB.out | apply zz2 | apply zz0 | apply zz1)):w.heap.size≤gb254));clear HB;have HB:=n0_;have BK254:=n1_;have GW254:=n2_;have GE254:=n3_;clear n0_ n1_ n2_ n3_;clear hb hbox hg;have hcz8_0:w7.cell? ⟨gb254,0,none⟩=some (.int .i64 a0_0):=(zz9 BK254.out 0).trans rfl;have hcz8_1:w7.cell? ⟨gb254,1,none⟩=some (.slice A0_1 l0_1.length c0_1):=(zz9 BK254.out 1).trans rfl;have hfz8_0:=zz10 BK254.out 0;have hfz8_1:=zz10 BK254.out 1) | ((with_reducible refine gate_callee (f:=8) rfl ?_);refine goesL_ (some 22) rfl rfl Try.func8 (by kernel_rfl) rfl #[.agg #[.int .i64 a0_0,.slice A0_1 l0_1.length c0_1],.int .i64 1048576] rfl (by (try simp only [zz26,zz27,zz28]);first | done | rfl | (simp only [zz24,zz25];rfl)) ?_;(with_reducible refine (laws_szParty.calls a0_0 _ _ l0_1 1048576 t255 _ ?side1 ?side2 A5.out).mono ?_);(case side1=>repeat (first | exact (Kd.C_below HR0_1.out HB.out) | (with_reducible refine zz18 ?_ _) | (with_reducible refine zz19 ?_ _) | (with_reducible refine zz20 ?_)));(case side2=>exact HC0_1.out);rintro e w9 ⟨rfl,hb⟩;refine ⟨_,rfl,?_⟩;have n0_:=zz31 (zz11 (g:=gb254) (o:=.cells #[.int .i64 a0_0,.slice A0_1 l0_1.length c0_1] 24 (0,0)) (by (with_reducible repeat (first | refine zz6 ?_ _ | refine zz7 ?_ | refine zz8 ?_ _));exact BK254.out) hb);have n1_:=zz31 (zz4 (by repeat first | exact HB.out | apply zz2 | apply zz0 | apply zz1 | refine zz3 ?_ GE254.out) hb);clear BK254;clear HB;have BK254:=n0_;have HB:=n1_;clear n0_ n1_;(try clear hb);(try clear hb2);(try clear hk);(try clear hi)))
   go_ret
   exact ⟨by first | rfl | (simp [errW_none,errW_some] <;> rfl) | (simp [*,errW_none,errW_some] <;> rfl),by repeat first | exact HB.out | apply zz2 | apply zz0 | apply zz1 | refine zz3 ?_ GE254.out⟩
  ·rw [if_neg c6] at H
   have c6b0:decide (t255 < 0)=false:=decide_eq_false c6
   clear c6
   replace H:=zz30.mp H
   obtain ⟨⟨t256,t257⟩,A100,H⟩:=H
   replace H:((laws_toIntS.f k l1).bind fun t260=>((spec_RenameParty.f k t256 t257 t260).bind fun bt263=>((laws_toParty.f k a0_0 l0_1).bind fun bt269=>((laws_toIntS.f k l1).bind fun t274=>((impl_RenameParty.f k bt269.1 bt269.2 t274).bind fun bt277=>((laws_eqParty.f k bt277.1 bt277.2.1 bt263.1 bt263.2.1).bind fun t283=>(if t283=true then (laws_FnExactRenameParty.j0 k l1 bt263.2.2 t274 bt277.2.2 (bt277.2.2 != bt263.2.2) a0_0 l0_1 bt263.1 bt263.2.1 bt269.1 bt269.2 bt277.1 bt277.2.1) else (laws_FnExactRenameParty.j0 k l1 bt263.2.2 t274 bt277.2.2 true a0_0 l0_1 bt263.1 bt263.2.1 bt269.1 bt269.2 bt277.1 bt277.2.1))))))))=some r:=H
   have A10:=zz31 A100
   clear A100
   replace H:=zz30.mp H
   obtain ⟨t260,A110,H⟩:=H
   replace H:((spec_RenameParty.f k t256 t257 t260).bind fun bt263=>((laws_toParty.f k a0_0 l0_1).bind fun bt269=>((laws_toIntS.f k l1).bind fun t274=>((impl_RenameParty.f k bt269.1 bt269.2 t274).bind fun bt277=>((laws_eqParty.f k bt277.1 bt277.2.1 bt263.1 bt263.2.1).bind fun t283=>(if t283=true then (laws_FnExactRenameParty.j0 k l1 bt263.2.2 t274 bt277.2.2 (bt277.2.2 != bt263.2.2) a0_0 l0_1 bt263.1 bt263.2.1 bt269.1 bt269.2 bt277.1 bt277.2.1) else (laws_FnExactRenameParty.j0 k l1 bt263.2.2 t274 bt277.2.2 true a0_0 l0_1 bt263.1 bt263.2.1 bt269.1 bt269.2 bt277.1 bt277.2.1)))))))=some r:=H
   have A11:=zz31 A110
   clear A110
   replace H:=zz30.mp H
   obtain ⟨⟨t263,t264,t267⟩,A120,H⟩:=H
   replace H:((laws_toParty.f k a0_0 l0_1).bind fun bt269=>((laws_toIntS.f k l1).bind fun t274=>((impl_RenameParty.f k bt269.1 bt269.2 t274).bind fun bt277=>((laws_eqParty.f k bt277.1 bt277.2.1 t263 t264).bind fun t283=>(if t283=true then (laws_FnExactRenameParty.j0 k l1 t267 t274 bt277.2.2 (bt277.2.2 != t267) a0_0 l0_1 t263 t264 bt269.1 bt269.2 bt277.1 bt277.2.1) else (laws_FnExactRenameParty.j0 k l1 t267 t274 bt277.2.2 true a0_0 l0_1 t263 t264 bt269.1 bt269.2 bt277.1 bt277.2.1))))))=some r:=H
   have A12:=zz31 A120
   clear A120
   replace H:=zz30.mp H
   obtain ⟨⟨t269,t270⟩,A130,H⟩:=H
   replace H:((laws_toIntS.f k l1).bind fun t274=>((impl_RenameParty.f k t269 t270 t274).bind fun bt277=>((laws_eqParty.f k bt277.1 bt277.2.1 t263 t264).bind fun t283=>(if t283=true then (laws_FnExactRenameParty.j0 k l1 t267 t274 bt277.2.2 (bt277.2.2 != t267) a0_0 l0_1 t263 t264 t269 t270 bt277.1 bt277.2.1) else (laws_FnExactRenameParty.j0 k l1 t267 t274 bt277.2.2 true a0_0 l0_1 t263 t264 t269 t270 bt277.1 bt277.2.1)))))=some r:=H
   have A13:=zz31 A130
   clear A130
   replace H:=zz30.mp H
   obtain ⟨t274,A140,H⟩:=H
   replace H:((impl_RenameParty.f k t269 t270 t274).bind fun bt277=>((laws_eqParty.f k bt277.1 bt277.2.1 t263 t264).bind fun t283=>(if t283=true then (laws_FnExactRenameParty.j0 k l1 t267 t274 bt277.2.2 (bt277.2.2 != t267) a0_0 l0_1 t263 t264 t269 t270 bt277.1 bt277.2.1) else (laws_FnExactRenameParty.j0 k l1 t267 t274 bt277.2.2 true a0_0 l0_1 t263 t264 t269 t270 bt277.1 bt277.2.1))))=some r:=H
   have A14:=zz31 A140
   clear A140
   replace H:=zz30.mp H
   obtain ⟨⟨t277,t278,t281⟩,A150,H⟩:=H
   replace H:((laws_eqParty.f k t277 t278 t263 t264).bind fun t283=>(if t283=true then (laws_FnExactRenameParty.j0 k l1 t267 t274 t281 (t281 != t267) a0_0 l0_1 t263 t264 t269 t270 t277 t278) else (laws_FnExactRenameParty.j0 k l1 t267 t274 t281 true a0_0 l0_1 t263 t264 t269 t270 t277 t278)))=some r:=H
   have A15:=zz31 A150
   clear A150
   have HC16:=zz31 H
   clear H
   go_enter Try.func6,Try.ntmps6
   go_upto_region 11 with (first | ((with_reducible refine gate_dst (N:=2) rfl ?_);refine box_event ?hg (N:=2) ?hd (cs:=#[.int .i64 a0_0,.slice A0_1 l0_1.length c0_1]) (t:=24) ?hr ?_;(case hd=>rfl);(case hg=>rfl);(case hr=>first | (go_simp;done) | (go_simp;rfl));intro gb254 hg w17 hbox hb;have n0_:=zz31 (zz4 (by repeat first | exact HB.out | apply zz2 | apply zz0 | apply zz1) hb);have n1_:=zz31 (hbox);have n2_:=zz31 ((by rw [hg];exact (zz5 (by repeat first | exact HB.out | apply zz2 | apply zz0 | apply zz1)):w.heap.size≤gb254));have n3_:=zz31 ((by rw [hg];exact (zz5 (by repeat first | exact HB.out | apply zz2 | apply zz0 | apply zz1)):w.heap.size≤gb254));clear HB;have HB:=n0_;have BK254:=n1_;have GW254:=n2_;have GE254:=n3_;clear n0_ n1_ n2_ n3_;clear hb hbox hg;have hcz18_0:w17.cell? ⟨gb254,0,none⟩=some (.int .i64 a0_0):=(zz9 BK254.out 0).trans rfl;have hcz18_1:w17.cell? ⟨gb254,1,none⟩=some (.slice A0_1 l0_1.length c0_1):=(zz9 BK254.out 1).trans rfl;have hfz18_0:=zz10 BK254.out 0;have hfz18_1:=zz10 BK254.out 1) | ((with_reducible refine gate_callee (f:=8) rfl ?_);refine goesL_ (some 22) rfl rfl Try.func8 (by kernel_rfl) rfl #[.agg #[.int .i64 a0_0,.slice A0_1 l0_1.length c0_1],.int .i64 1048576] rfl (by (try simp only [zz26,zz27,zz28]);first | done | rfl | (simp only [zz24,zz25];rfl)) ?_;(with_reducible refine (laws_szParty.calls a0_0 _ _ l0_1 1048576 t255 _ ?side1 ?side2 A5.out).mono ?_);(case side1=>repeat (first | exact (Kd.C_below HR0_1.out HB.out) | (with_reducible refine zz18 ?_ _) | (with_reducible refine zz19 ?_ _) | (with_reducible refine zz20 ?_)));(case side2=>exact HC0_1.out);rintro e w19 ⟨rfl,hb⟩;refine ⟨_,rfl,?_⟩;have n0_:=zz31 (zz11 (g:=gb254) (o:=.cells #[.int .i64 a0_0,.slice A0_1 l0_1.length c0_1] 24 (0,0)) (by (with_reducible repeat (first | refine zz6 ?_ _ | refine zz7 ?_ | refine zz8 ?_ _));exact BK254.out) hb);have n1_:=zz31 (zz4 (by repeat first | exact HB.out | apply zz2 | apply zz0 | apply zz1 | refine zz3 ?_ GE254.out) hb);clear BK254;clear HB;have BK254:=n0_;have HB:=n1_;clear n0_ n1_;(try clear hb);(try clear hb2);(try clear hk);(try clear hi);have hcz20_0:w19.cell? ⟨gb254,0,none⟩=some (.int .i64 a0_0):=(zz9 BK254.out 0).trans rfl;have hcz20_1:w19.cell? ⟨gb254,1,none⟩=some (.slice A0_1 l0_1.length c0_1):=(zz9 BK254.out 1).trans rfl;have hfz20_0:=zz10 BK254.out 0;have hfz20_1:=zz10 BK254.out 1) | ((with_reducible refine gate_callee (f:=10) rfl ?_);refine goesL_ (some 27) rfl rfl Try.func10 (by kernel_rfl) rfl #[.agg #[.int .i64 a0_0,.slice A0_1 l0_1.length c0_1]] rfl (by (try simp only [zz26,zz27,zz28]);first | done | rfl | (simp only [zz24,zz25];rfl)) ?_;(with_reducible refine (laws_toParty.calls k a0_0 _ _ l0_1 t256 t257 _ ?side1 ?side2 A10.out).mono ?_);(case side1=>repeat (first | exact (Kd.C_below HR0_1.out HB.out) | (with_reducible refine zz18 ?_ _) | (with_reducible refine zz19 ?_ _) | (with_reducible refine zz20 ?_)));(case side2=>exact HC0_1.out);rintro e w21 ⟨v258,rfl,ho0,hb⟩;refine ⟨_,rfl,?_⟩;have n0_:=zz31 (Kd.R_lower ho0 (zz5 (by repeat first | exact HB.out | apply zz2 | apply zz0 | apply zz1 | refine zz3 ?_ GE254.out)));have n1_:=zz31 (zz11 (g:=gb254) (o:=.cells #[.int .i64 a0_0,.slice A0_1 l0_1.length c0_1] 24 (0,0)) (by (with_reducible repeat (first | refine zz6 ?_ _ | refine zz7 ?_ | refine zz8 ?_ _));exact BK254.out) hb);have n2_:=zz31 (zz4 (by repeat first | exact HB.out | apply zz2 | apply zz0 | apply zz1 | refine zz3 ?_ GE254.out) hb);clear BK254;clear HB;have HO259:=n0_;have BK254:=n1_;have HB:=n2_;clear n0_ n1_ n2_;(try clear hb);(try clear hb2);(try clear hk);(try clear hi);(try clear ho0)) | ((with_reducible refine gate_callee (f:=20) rfl ?_);refine goesL_ (some 29) rfl rfl Try.func20 (by kernel_rfl) rfl #[.slice A1 l1.length c1] rfl (by (try simp only [zz26,zz27,zz28]);first | done | rfl | (simp only [zz24,zz25];rfl)) ?_;(with_reducible refine (laws_toIntS.calls k _ _ l1 t260 _ ?side1 ?side2 A11.out).mono ?_);(case side1=>repeat (first | exact (Kd.C_below HR1.out HB.out) | (with_reducible refine zz18 ?_ _) | (with_reducible refine zz19 ?_ _) | (with_reducible refine zz20 ?_)));(case side2=>exact HC1.out);rintro e w22 ⟨v261,rfl,ho0,hb⟩;refine ⟨_,rfl,?_⟩;have n0_:=zz31 (Kd.R_below (by (with_reducible repeat (first | apply zz12 | apply zz13 | apply zz14));exact HO259.out) hb);have n1_:=zz31 (Kd.R_lower ho0 (zz5 (by repeat first | exact HB.out | apply zz2 | apply zz0 | apply zz1 | refine zz3 ?_ GE254.out)));have n2_:=zz31 (zz11 (g:=gb254) (o:=.cells #[.int .i64 a0_0,.slice A0_1 l0_1.length c0_1] 24 (0,0)) (by (with_reducible repeat (first | refine zz6 ?_ _ | refine zz7 ?_ | refine zz8 ?_ _));exact BK254.out) hb);have n3_:=zz31 (zz4 (by repeat first | exact HB.out | apply zz2 | apply zz0 | apply zz1 | refine zz3 ?_ GE254.out) hb);clear HO259;clear BK254;clear HB;have HO259:=n0_;have HO262:=n1_;have BK254:=n2_;have HB:=n3_;clear n0_ n1_ n2_ n3_;(try clear hb);(try clear hb2);(try clear hk);(try clear hi);(try clear ho0);obtain ⟨Ao23,co23,eo23⟩:=Kd.R_slice HO259.out;subst eo23;obtain ⟨Ao24,co24,eo24⟩:=Kd.R_slice HO262.out;subst eo24) | ((with_reducible refine gate_callee (f:=19) rfl ?_);refine goesL_ (some 30) rfl rfl Try.func19 (by kernel_rfl) rfl #[.agg #[.int .i64 t256,.slice Ao23 t257.length co23],.slice Ao24 t260.length co24] rfl (by (try simp only [zz26,zz27,zz28]);first | done | rfl | (simp only [zz24,zz25];rfl)) ?_;(with_reducible refine (spec_RenameParty.calls k t256 _ _ t257 _ _ t260 t263 t264 t267 _ ?side1 ?side2 ?side3 ?side4 A12.out).mono ?_);(case side1=>repeat (first | exact (Kd.R_reads' HO259.out).2.2 | (with_reducible refine zz18 ?_ _) | (with_reducible refine zz19 ?_ _) | (with_reducible refine zz20 ?_)));(case side2=>exact (Kd.R_reads' HO259.out).2.1);(case side3=>repeat (first | exact (Kd.R_reads' HO262.out).2.2 | (with_reducible refine zz18 ?_ _) | (with_reducible refine zz19 ?_ _) | (with_reducible refine zz20 ?_)));(case side4=>exact (Kd.R_reads' HO262.out).2.1);rintro e w25 ⟨v265,rfl,ho0,hb⟩;refine ⟨_,rfl,?_⟩;have n0_:=zz31 (Kd.R_elder' (by (with_reducible repeat (first | apply zz12 | apply zz13 | apply zz14));exact HO259.out) (Kd.R_base ho0) hb);have n1_:=zz31 (Kd.R_below (by (with_reducible repeat (first | apply zz12 | apply zz13 | apply zz14));exact HO262.out) hb);have n2_:=zz31 (Kd.R_lower (Kd.R_new' ho0 (Kd.R_lt (by (with_reducible repeat (first | apply zz12 | apply zz13 | apply zz14));exact HO259.out))) (zz5 (by repeat first | exact HB.out | apply zz2 | apply zz0 | apply zz1 | refine zz3 ?_ GE254.out)));have n3_:=zz31 (zz11 (g:=gb254) (o:=.cells #[.int .i64 a0_0,.slice A0_1 l0_1.length c0_1] 24 (0,0)) (by (with_reducible repeat (first | refine zz6 ?_ _ | refine zz7 ?_ | refine zz8 ?_ _));exact BK254.out) hb);have n4_:=zz31 (zz4 (by repeat first | exact HB.out | apply zz2 | apply zz0 | apply zz1 | refine zz3 ?_ GE254.out) hb);clear HO259;clear HO262;clear BK254;clear HB;have HO259:=n0_;have HO262:=n1_;have HO266:=n2_;have BK254:=n3_;have HB:=n4_;clear n0_ n1_ n2_ n3_ n4_;(try clear hb);(try clear hb2);(try clear hk);(try clear hi);(try clear ho0)) | ((with_reducible refine gate_dst (N:=6) rfl ?_);refine box_event ?hg (N:=6) ?hd (cs:=#[.int .i64 0,.slice none 0 0]) (t:=30) ?hr ?_;(case hd=>rfl);(case hg=>rfl);(case hr=>first | (go_simp;done) | (go_simp;rfl));intro gb268 hg w26 hbox hb;have n0_:=zz31 (Kd.R_below (by (with_reducible repeat (first | apply zz12 | apply zz13 | apply zz14));exact HO259.out) hb);have n1_:=zz31 (Kd.R_below (by (with_reducible repeat (first | apply zz12 | apply zz13 | apply zz14));exact HO262.out) hb);have n2_:=zz31 (Kd.R_below (by (with_reducible repeat (first | apply zz12 | apply zz13 | apply zz14));exact HO266.out) hb);have n3_:=zz31 (zz11 (g:=gb254) (o:=.cells #[.int .i64 a0_0,.slice A0_1 l0_1.length c0_1] 24 (0,0)) (by (with_reducible repeat (first | refine zz6 ?_ _ | refine zz7 ?_ | refine zz8 ?_ _));exact BK254.out) hb);have n4_:=zz31 (zz4 (by repeat first | exact HB.out | apply zz2 | apply zz0 | apply zz1 | refine zz3 ?_ GE254.out) hb);have n5_:=zz31 (hbox);have n6_:=zz31 ((by rw [hg];exact (zz5 (by repeat first | exact HB.out | apply zz2 | apply zz0 | apply zz1 | refine zz3 ?_ GE254.out)):w.heap.size≤gb268));have n7_:=zz31 ((by rw [hg];exact (zz5 (by repeat first | exact HB.out | apply zz2 | apply zz0 | apply zz1 | refine zz3 ?_ GE254.out)):w.heap.size≤gb268));have n8_:=zz31 ((by rw [hg];exact Nat.ne_of_lt (blk_lt (g:=gb254) (o:=.cells #[.int .i64 a0_0,.slice A0_1 l0_1.length c0_1] 24 (0,0)) (by (with_reducible repeat (first | refine zz6 ?_ _ | refine zz7 ?_ | refine zz8 ?_ _));exact BK254.out)):gb254 ≠ gb268));have n9_:=zz31 ((by rw [hg];exact Nat.ne_of_gt (blk_lt (g:=gb254) (o:=.cells #[.int .i64 a0_0,.slice A0_1 l0_1.length c0_1] 24 (0,0)) (by (with_reducible repeat (first | refine zz6 ?_ _ | refine zz7 ?_ | refine zz8 ?_ _));exact BK254.out)):gb268 ≠ gb254));clear HO259;clear HO262;clear HO266;clear BK254;clear HB;have HO259:=n0_;have HO262:=n1_;have HO266:=n2_;have BK254:=n3_;have HB:=n4_;have BK268:=n5_;have GW268:=n6_;have GE268:=n7_;have NB254_268:=n8_;have NB268_254:=n9_;clear n0_ n1_ n2_ n3_ n4_ n5_ n6_ n7_ n8_ n9_;clear hb hbox hg;have hnb27:=NB268_254.out;have hnc27:=NB254_268.out;have hcz28_0:w26.cell? ⟨gb268,0,none⟩=some (.int .i64 0):=(zz9 BK268.out 0).trans rfl;have hcz28_1:w26.cell? ⟨gb268,1,none⟩=some (.slice none 0 0):=(zz9 BK268.out 1).trans rfl;have hfz28_0:=zz10 BK268.out 0;have hfz28_1:=zz10 BK268.out 1;obtain ⟨Ao29,co29,eo29⟩:=Kd.R_slice HO266.out;subst eo29;have hcz30_0:w26.cell? ⟨gb254,0,none⟩=some (.int .i64 a0_0):=(zz9 BK254.out 0).trans rfl;have hcz30_1:w26.cell? ⟨gb254,1,none⟩=some (.slice A0_1 l0_1.length c0_1):=(zz9 BK254.out 1).trans rfl;have hfz30_0:=zz10 BK254.out 0;have hfz30_1:=zz10 BK254.out 1) | ((with_reducible refine gate_callee (f:=10) rfl ?_);refine goesL_ (some 34) rfl rfl Try.func10 (by kernel_rfl) rfl #[.agg #[.int .i64 a0_0,.slice A0_1 l0_1.length c0_1]] rfl (by (try simp only [zz26,zz27,zz28]);first | done | rfl | (simp only [zz24,zz25];rfl)) ?_;(with_reducible refine (laws_toParty.calls k a0_0 _ _ l0_1 t269 t270 _ ?side1 ?side2 A13.out).mono ?_);(case side1=>exact Kd.C_below HR0_1.out (by repeat first | exact HB.out | apply zz2 | apply zz0 | apply zz1 | refine zz3 ?_ GE254.out | refine zz3 ?_ GE268.out));(case side2=>exact HC0_1.out);rintro e w31 ⟨v271,rfl,ho0,hb⟩;refine ⟨_,rfl,?_⟩;have n0_:=zz31 (Kd.R_elder' (by (with_reducible repeat (first | apply zz12 | apply zz13 | apply zz14));exact (Kd.R_mono (Kd.R_far (p:=⟨gb268,1,none⟩) (Kd.R_far (p:=⟨gb268,0,none⟩) (Kd.R_types HO259.out BK268.out (by decide)) (fun _ hk=>hk.2) (.int .i64 t263)) (fun _ hk=>hk.2) (.slice Ao29 t264.length co29)) (fun _ h_=>h_.1))) (Kd.R_base ho0) hb);have n1_:=zz31 (Kd.R_below (by (with_reducible repeat (first | apply zz12 | apply zz13 | apply zz14));exact (Kd.R_mono (Kd.R_far (p:=⟨gb268,1,none⟩) (Kd.R_far (p:=⟨gb268,0,none⟩) (Kd.R_types HO262.out BK268.out (by decide)) (fun _ hk=>hk.2) (.int .i64 t263)) (fun _ hk=>hk.2) (.slice Ao29 t264.length co29)) (fun _ h_=>h_.1))) hb);have n2_:=zz31 (Kd.R_elder' (by (with_reducible repeat (first | apply zz12 | apply zz13 | apply zz14));exact (Kd.R_mono (Kd.R_far (p:=⟨gb268,1,none⟩) (Kd.R_far (p:=⟨gb268,0,none⟩) (Kd.R_types HO266.out BK268.out (by decide)) (fun _ hk=>hk.2) (.int .i64 t263)) (fun _ hk=>hk.2) (.slice Ao29 t264.length co29)) (fun _ h_=>h_.1))) (Kd.R_base ho0) hb);have n3_:=zz31 (Kd.R_lower (Kd.R_new' (Kd.R_new' ho0 (Kd.R_lt (by (with_reducible repeat (first | apply zz12 | apply zz13 | apply zz14));exact (Kd.R_mono (Kd.R_far (p:=⟨gb268,1,none⟩) (Kd.R_far (p:=⟨gb268,0,none⟩) (Kd.R_types HO259.out BK268.out (by decide)) (fun _ hk=>hk.2) (.int .i64 t263)) (fun _ hk=>hk.2) (.slice Ao29 t264.length co29)) (fun _ h_=>h_.1))))) (Kd.R_lt (by (with_reducible repeat (first | apply zz12 | apply zz13 | apply zz14));exact (Kd.R_mono (Kd.R_far (p:=⟨gb268,1,none⟩) (Kd.R_far (p:=⟨gb268,0,none⟩) (Kd.R_types HO266.out BK268.out (by decide)) (fun _ hk=>hk.2) (.int .i64 t263)) (fun _ hk=>hk.2) (.slice Ao29 t264.length co29)) (fun _ h_=>h_.1))))) (zz5 (by repeat first | exact HB.out | apply zz2 | apply zz0 | apply zz1 | refine zz3 ?_ GE254.out | refine zz3 ?_ GE268.out)));have n4_:=zz31 (zz11 (g:=gb254) (o:=.cells #[.int .i64 a0_0,.slice A0_1 l0_1.length c0_1] 24 (0,0)) (by (with_reducible repeat (first | refine zz6 ?_ _ | refine zz7 ?_ | refine zz8 ?_ _));refine blk_far ?_ NB254_268.out _;(with_reducible repeat (first | refine zz6 ?_ _ | refine zz7 ?_ | refine zz8 ?_ _));refine blk_far ?_ NB254_268.out _;(with_reducible repeat (first | refine zz6 ?_ _ | refine zz7 ?_ | refine zz8 ?_ _));exact BK254.out) hb);have n5_:=zz31 (zz11 (g:=gb268) (o:=.cells #[.int .i64 t263,.slice Ao29 t264.length co29] 30 (0,0)) (by (with_reducible repeat (first | refine zz6 ?_ _ | refine zz7 ?_ | refine zz8 ?_ _));refine blk_put (cs:=#[.int .i64 t263,.slice none 0 0]) ?_ 1 _ rfl;(with_reducible repeat (first | refine zz6 ?_ _ | refine zz7 ?_ | refine zz8 ?_ _));refine blk_put (cs:=#[.int .i64 0,.slice none 0 0]) ?_ 0 _ rfl;(with_reducible repeat (first | refine zz6 ?_ _ | refine zz7 ?_ | refine zz8 ?_ _));exact BK268.out) hb);have n6_:=zz31 (zz4 (by repeat first | exact HB.out | apply zz2 | apply zz0 | apply zz1 | refine zz3 ?_ GE254.out | refine zz3 ?_ GE268.out) hb);clear HO259;clear HO262;clear HO266;clear BK254;clear BK268;clear HB;have HO259:=n0_;have HO262:=n1_;have HO266:=n2_;have HO272:=n3_;have BK254:=n4_;have BK268:=n5_;have HB:=n6_;clear n0_ n1_ n2_ n3_ n4_ n5_ n6_;(try clear hb);(try clear hb2);(try clear hk);(try clear hi);(try clear ho0)) | ((with_reducible refine gate_dst (N:=8) rfl ?_);refine box_event ?hg (N:=8) ?hd (cs:=#[.int .i64 0,.slice none 0 0]) (t:=30) ?hr ?_;(case hd=>rfl);(case hg=>rfl);(case hr=>first | (go_simp;done) | (go_simp;rfl));intro gb273 hg w32 hbox hb;have n0_:=zz31 (Kd.R_below (by (with_reducible repeat (first | apply zz12 | apply zz13 | apply zz14));exact HO259.out) hb);have n1_:=zz31 (Kd.R_below (by (with_reducible repeat (first | apply zz12 | apply zz13 | apply zz14));exact HO262.out) hb);have n2_:=zz31 (Kd.R_below (by (with_reducible repeat (first | apply zz12 | apply zz13 | apply zz14));exact HO266.out) hb);have n3_:=zz31 (Kd.R_below (by (with_reducible repeat (first | apply zz12 | apply zz13 | apply zz14));exact HO272.out) hb);have n4_:=zz31 (zz11 (g:=gb254) (o:=.cells #[.int .i64 a0_0,.slice A0_1 l0_1.length c0_1] 24 (0,0)) (by (with_reducible repeat (first | refine zz6 ?_ _ | refine zz7 ?_ | refine zz8 ?_ _));exact BK254.out) hb);have n5_:=zz31 (zz11 (g:=gb268) (o:=.cells #[.int .i64 t263,.slice Ao29 t264.length co29] 30 (0,0)) (by (with_reducible repeat (first | refine zz6 ?_ _ | refine zz7 ?_ | refine zz8 ?_ _));exact BK268.out) hb);have n6_:=zz31 (zz4 (by repeat first | exact HB.out | apply zz2 | apply zz0 | apply zz1 | refine zz3 ?_ GE254.out | refine zz3 ?_ GE268.out) hb);have n7_:=zz31 (hbox);have n8_:=zz31 ((by rw [hg];exact (zz5 (by repeat first | exact HB.out | apply zz2 | apply zz0 | apply zz1 | refine zz3 ?_ GE254.out | refine zz3 ?_ GE268.out)):w.heap.size≤gb273));have n9_:=zz31 ((by rw [hg];exact (zz5 (by repeat first | exact HB.out | apply zz2 | apply zz0 | apply zz1 | refine zz3 ?_ GE254.out | refine zz3 ?_ GE268.out)):w.heap.size≤gb273));have n10_:=zz31 ((by rw [hg];exact Nat.ne_of_lt (blk_lt (g:=gb254) (o:=.cells #[.int .i64 a0_0,.slice A0_1 l0_1.length c0_1] 24 (0,0)) (by (with_reducible repeat (first | refine zz6 ?_ _ | refine zz7 ?_ | refine zz8 ?_ _));exact BK254.out)):gb254 ≠ gb273));have n11_:=zz31 ((by rw [hg];exact Nat.ne_of_gt (blk_lt (g:=gb254) (o:=.cells #[.int .i64 a0_0,.slice A0_1 l0_1.length c0_1] 24 (0,0)) (by (with_reducible repeat (first | refine zz6 ?_ _ | refine zz7 ?_ | refine zz8 ?_ _));exact BK254.out)):gb273 ≠ gb254));have n12_:=zz31 ((by rw [hg];exact Nat.ne_of_lt (blk_lt (g:=gb268) (o:=.cells #[.int .i64 t263,.slice Ao29 t264.length co29] 30 (0,0)) (by (with_reducible repeat (first | refine zz6 ?_ _ | refine zz7 ?_ | refine zz8 ?_ _));exact BK268.out)):gb268 ≠ gb273));have n13_:=zz31 ((by rw [hg];exact Nat.ne_of_gt (blk_lt (g:=gb268) (o:=.cells #[.int .i64 t263,.slice Ao29 t264.length co29] 30 (0,0)) (by (with_reducible repeat (first | refine zz6 ?_ _ | refine zz7 ?_ | refine zz8 ?_ _));exact BK268.out)):gb273 ≠ gb268));clear HO259;clear HO262;clear HO266;clear HO272;clear BK254;clear BK268;clear HB;have HO259:=n0_;have HO262:=n1_;have HO266:=n2_;have HO272:=n3_;have BK254:=n4_;have BK268:=n5_;have HB:=n6_;have BK273:=n7_;have GW273:=n8_;have GE273:=n9_;have NB254_273:=n10_;have NB273_254:=n11_;have NB268_273:=n12_;have NB273_268:=n13_;clear n0_ n1_ n2_ n3_ n4_ n5_ n6_ n7_ n8_ n9_ n10_ n11_ n12_ n13_;clear hb hbox hg;have hnb33:=NB273_254.out;have hnc33:=NB254_273.out;have hnb34:=NB273_268.out;have hnc34:=NB268_273.out;have hcz35_0:w32.cell? ⟨gb273,0,none⟩=some (.int .i64 0):=(zz9 BK273.out 0).trans rfl;have hcz35_1:w32.cell? ⟨gb273,1,none⟩=some (.slice none 0 0):=(zz9 BK273.out 1).trans rfl;have hfz35_0:=zz10 BK273.out 0;have hfz35_1:=zz10 BK273.out 1;obtain ⟨Ao36,co36,eo36⟩:=Kd.R_slice HO272.out;subst eo36) | ((with_reducible refine gate_callee (f:=20) rfl ?_);refine goesL_ (some 36) rfl rfl Try.func20 (by kernel_rfl) rfl #[.slice A1 l1.length c1] rfl (by (try simp only [zz26,zz27,zz28]);first | done | rfl | (simp only [zz24,zz25];rfl)) ?_;(with_reducible refine (laws_toIntS.calls k _ _ l1 t274 _ ?side1 ?side2 A14.out).mono ?_);(case side1=>exact Kd.C_below HR1.out (by repeat first | exact HB.out | apply zz2 | apply zz0 | apply zz1 | refine zz3 ?_ GE254.out | refine zz3 ?_ GE268.out | refine zz3 ?_ GE273.out));(case side2=>exact HC1.out);rintro e w37 ⟨v275,rfl,ho0,hb⟩;refine ⟨_,rfl,?_⟩;have n0_:=zz31 (Kd.R_below (by (with_reducible repeat (first | apply zz12 | apply zz13 | apply zz14));exact (Kd.R_mono (Kd.R_far (p:=⟨gb273,1,none⟩) (Kd.R_far (p:=⟨gb273,0,none⟩) (Kd.R_types HO259.out BK273.out (by decide)) (fun _ hk=>hk.2) (.int .i64 t269)) (fun _ hk=>hk.2) (.slice Ao36 t270.length co36)) (fun _ h_=>h_.1))) hb);have n1_:=zz31 (Kd.R_elder' (by (with_reducible repeat (first | apply zz12 | apply zz13 | apply zz14));exact (Kd.R_mono (Kd.R_far (p:=⟨gb273,1,none⟩) (Kd.R_far (p:=⟨gb273,0,none⟩) (Kd.R_types HO262.out BK273.out (by decide)) (fun _ hk=>hk.2) (.int .i64 t269)) (fun _ hk=>hk.2) (.slice Ao36 t270.length co36)) (fun _ h_=>h_.1))) (Kd.R_base ho0) hb);have n2_:=zz31 (Kd.R_below (by (with_reducible repeat (first | apply zz12 | apply zz13 | apply zz14));exact (Kd.R_mono (Kd.R_far (p:=⟨gb273,1,none⟩) (Kd.R_far (p:=⟨gb273,0,none⟩) (Kd.R_types HO266.out BK273.out (by decide)) (fun _ hk=>hk.2) (.int .i64 t269)) (fun _ hk=>hk.2) (.slice Ao36 t270.length co36)) (fun _ h_=>h_.1))) hb);have n3_:=zz31 (Kd.R_below (by (with_reducible repeat (first | apply zz12 | apply zz13 | apply zz14));exact (Kd.R_mono (Kd.R_far (p:=⟨gb273,1,none⟩) (Kd.R_far (p:=⟨gb273,0,none⟩) (Kd.R_types HO272.out BK273.out (by decide)) (fun _ hk=>hk.2) (.int .i64 t269)) (fun _ hk=>hk.2) (.slice Ao36 t270.length co36)) (fun _ h_=>h_.1))) hb);have n4_:=zz31 (Kd.R_lower (Kd.R_new' ho0 (Kd.R_lt (by (with_reducible repeat (first | apply zz12 | apply zz13 | apply zz14));exact (Kd.R_mono (Kd.R_far (p:=⟨gb273,1,none⟩) (Kd.R_far (p:=⟨gb273,0,none⟩) (Kd.R_types HO262.out BK273.out (by decide)) (fun _ hk=>hk.2) (.int .i64 t269)) (fun _ hk=>hk.2) (.slice Ao36 t270.length co36)) (fun _ h_=>h_.1))))) (zz5 (by repeat first | exact HB.out | apply zz2 | apply zz0 | apply zz1 | refine zz3 ?_ GE254.out | refine zz3 ?_ GE268.out | refine zz3 ?_ GE273.out)));have n5_:=zz31 (zz11 (g:=gb254) (o:=.cells #[.int .i64 a0_0,.slice A0_1 l0_1.length c0_1] 24 (0,0)) (by (with_reducible repeat (first | refine zz6 ?_ _ | refine zz7 ?_ | refine zz8 ?_ _));refine blk_far ?_ NB254_273.out _;(with_reducible repeat (first | refine zz6 ?_ _ | refine zz7 ?_ | refine zz8 ?_ _));refine blk_far ?_ NB254_273.out _;(with_reducible repeat (first | refine zz6 ?_ _ | refine zz7 ?_ | refine zz8 ?_ _));exact BK254.out) hb);have n6_:=zz31 (zz11 (g:=gb268) (o:=.cells #[.int .i64 t263,.slice Ao29 t264.length co29] 30 (0,0)) (by (with_reducible repeat (first | refine zz6 ?_ _ | refine zz7 ?_ | refine zz8 ?_ _));refine blk_far ?_ NB268_273.out _;(with_reducible repeat (first | refine zz6 ?_ _ | refine zz7 ?_ | refine zz8 ?_ _));refine blk_far ?_ NB268_273.out _;(with_reducible repeat (first | refine zz6 ?_ _ | refine zz7 ?_ | refine zz8 ?_ _));exact BK268.out) hb);have n7_:=zz31 (zz11 (g:=gb273) (o:=.cells #[.int .i64 t269,.slice Ao36 t270.length co36] 30 (0,0)) (by (with_reducible repeat (first | refine zz6 ?_ _ | refine zz7 ?_ | refine zz8 ?_ _));refine blk_put (cs:=#[.int .i64 t269,.slice none 0 0]) ?_ 1 _ rfl;(with_reducible repeat (first | refine zz6 ?_ _ | refine zz7 ?_ | refine zz8 ?_ _));refine blk_put (cs:=#[.int .i64 0,.slice none 0 0]) ?_ 0 _ rfl;(with_reducible repeat (first | refine zz6 ?_ _ | refine zz7 ?_ | refine zz8 ?_ _));exact BK273.out) hb);have n8_:=zz31 (zz4 (by repeat first | exact HB.out | apply zz2 | apply zz0 | apply zz1 | refine zz3 ?_ GE254.out | refine zz3 ?_ GE268.out | refine zz3 ?_ GE273.out) hb);clear HO259;clear HO262;clear HO266;clear HO272;clear BK254;clear BK268;clear BK273;clear HB;have HO259:=n0_;have HO262:=n1_;have HO266:=n2_;have HO272:=n3_;have HO276:=n4_;have BK254:=n5_;have BK268:=n6_;have BK273:=n7_;have HB:=n8_;clear n0_ n1_ n2_ n3_ n4_ n5_ n6_ n7_ n8_;(try clear hb);(try clear hb2);(try clear hk);(try clear hi);(try clear ho0);have hcz38_0:w37.cell? ⟨gb273,0,none⟩=some (.int .i64 t269):=(zz9 BK273.out 0).trans rfl;have hcz38_1:w37.cell? ⟨gb273,1,none⟩=some (.slice Ao36 t270.length co36):=(zz9 BK273.out 1).trans rfl;have hfz38_0:=zz10 BK273.out 0;have hfz38_1:=zz10 BK273.out 1;obtain ⟨Ao39,co39,eo39⟩:=Kd.R_slice HO276.out;subst eo39) | ((with_reducible refine gate_callee (f:=21) rfl ?_);refine goesL_ (some 40) rfl rfl Try.func21 (by kernel_rfl) rfl #[.agg #[.int .i64 t269,.slice Ao36 t270.length co36],.slice Ao39 t274.length co39] rfl (by (try simp only [zz26,zz27,zz28]);first | done | rfl | (simp only [zz24,zz25];rfl)) ?_;(with_reducible refine (impl_RenameParty.calls k t269 _ _ t270 _ _ t274 t277 t278 t281 _ ?side1 ?side2 ?side3 ?side4 A15.out).mono ?_);(case side1=>repeat (first | exact (Kd.R_reads' HO272.out).2.2 | (with_reducible refine zz18 ?_ _) | (with_reducible refine zz19 ?_ _) | (with_reducible refine zz20 ?_)));(case side2=>exact (Kd.R_reads' HO272.out).2.1);(case side3=>repeat (first | exact (Kd.R_reads' HO276.out).2.2 | (with_reducible refine zz18 ?_ _) | (with_reducible refine zz19 ?_ _) | (with_reducible refine zz20 ?_)));(case side4=>exact (Kd.R_reads' HO276.out).2.1);rintro e w40 ⟨v279,rfl,ho0,hb⟩;refine ⟨_,rfl,?_⟩;have n0_:=zz31 (Kd.R_elder' (by (with_reducible repeat (first | apply zz12 | apply zz13 | apply zz14));exact HO259.out) (Kd.R_base ho0) hb);have n1_:=zz31 (Kd.R_below (by (with_reducible repeat (first | apply zz12 | apply zz13 | apply zz14));exact HO262.out) hb);have n2_:=zz31 (Kd.R_elder' (by (with_reducible repeat (first | apply zz12 | apply zz13 | apply zz14));exact HO266.out) (Kd.R_base ho0) hb);have n3_:=zz31 (Kd.R_elder' (by (with_reducible repeat (first | apply zz12 | apply zz13 | apply zz14));exact HO272.out) (Kd.R_base ho0) hb);have n4_:=zz31 (Kd.R_below (by (with_reducible repeat (first | apply zz12 | apply zz13 | apply zz14));exact HO276.out) hb);have n5_:=zz31 (Kd.R_lower (Kd.R_new' (Kd.R_new' (Kd.R_new' ho0 (Kd.R_lt (by (with_reducible repeat (first | apply zz12 | apply zz13 | apply zz14));exact HO259.out))) (Kd.R_lt (by (with_reducible repeat (first | apply zz12 | apply zz13 | apply zz14));exact HO266.out))) (Kd.R_lt (by (with_reducible repeat (first | apply zz12 | apply zz13 | apply zz14));exact HO272.out))) (zz5 (by repeat first | exact HB.out | apply zz2 | apply zz0 | apply zz1 | refine zz3 ?_ GE254.out | refine zz3 ?_ GE268.out | refine zz3 ?_ GE273.out)));have n6_:=zz31 (zz11 (g:=gb254) (o:=.cells #[.int .i64 a0_0,.slice A0_1 l0_1.length c0_1] 24 (0,0)) (by (with_reducible repeat (first | refine zz6 ?_ _ | refine zz7 ?_ | refine zz8 ?_ _));exact BK254.out) hb);have n7_:=zz31 (zz11 (g:=gb268) (o:=.cells #[.int .i64 t263,.slice Ao29 t264.length co29] 30 (0,0)) (by (with_reducible repeat (first | refine zz6 ?_ _ | refine zz7 ?_ | refine zz8 ?_ _));exact BK268.out) hb);have n8_:=zz31 (zz11 (g:=gb273) (o:=.cells #[.int .i64 t269,.slice Ao36 t270.length co36] 30 (0,0)) (by (with_reducible repeat (first | refine zz6 ?_ _ | refine zz7 ?_ | refine zz8 ?_ _));exact BK273.out) hb);have n9_:=zz31 (zz4 (by repeat first | exact HB.out | apply zz2 | apply zz0 | apply zz1 | refine zz3 ?_ GE254.out | refine zz3 ?_ GE268.out | refine zz3 ?_ GE273.out) hb);clear HO259;clear HO262;clear HO266;clear HO272;clear HO276;clear BK254;clear BK268;clear BK273;clear HB;have HO259:=n0_;have HO262:=n1_;have HO266:=n2_;have HO272:=n3_;have HO276:=n4_;have HO280:=n5_;have BK254:=n6_;have BK268:=n7_;have BK273:=n8_;have HB:=n9_;clear n0_ n1_ n2_ n3_ n4_ n5_ n6_ n7_ n8_ n9_;(try clear hb);(try clear hb2);(try clear hk);(try clear hi);(try clear ho0)) | ((with_reducible refine gate_dst (N:=10) rfl ?_);refine box_event ?hg (N:=10) ?hd (cs:=#[.int .i64 0,.slice none 0 0]) (t:=30) ?hr ?_;(case hd=>rfl);(case hg=>rfl);(case hr=>first | (go_simp;done) | (go_simp;rfl));intro gb282 hg w41 hbox hb;have n0_:=zz31 (Kd.R_below (by (with_reducible repeat (first | apply zz12 | apply zz13 | apply zz14));exact HO259.out) hb);have n1_:=zz31 (Kd.R_below (by (with_reducible repeat (first | apply zz12 | apply zz13 | apply zz14));exact HO262.out) hb);have n2_:=zz31 (Kd.R_below (by (with_reducible repeat (first | apply zz12 | apply zz13 | apply zz14));exact HO266.out) hb);have n3_:=zz31 (Kd.R_below (by (with_reducible repeat (first | apply zz12 | apply zz13 | apply zz14));exact HO272.out) hb);have n4_:=zz31 (Kd.R_below (by (with_reducible repeat (first | apply zz12 | apply zz13 | apply zz14));exact HO276.out) hb);have n5_:=zz31 (Kd.R_below (by (with_reducible repeat (first | apply zz12 | apply zz13 | apply zz14));exact HO280.out) hb);have n6_:=zz31 (zz11 (g:=gb254) (o:=.cells #[.int .i64 a0_0,.slice A0_1 l0_1.length c0_1] 24 (0,0)) (by (with_reducible repeat (first | refine zz6 ?_ _ | refine zz7 ?_ | refine zz8 ?_ _));exact BK254.out) hb);have n7_:=zz31 (zz11 (g:=gb268) (o:=.cells #[.int .i64 t263,.slice Ao29 t264.length co29] 30 (0,0)) (by (with_reducible repeat (first | refine zz6 ?_ _ | refine zz7 ?_ | refine zz8 ?_ _));exact BK268.out) hb);have n8_:=zz31 (zz11 (g:=gb273) (o:=.cells #[.int .i64 t269,.slice Ao36 t270.length co36] 30 (0,0)) (by (with_reducible repeat (first | refine zz6 ?_ _ | refine zz7 ?_ | refine zz8 ?_ _));exact BK273.out) hb);have n9_:=zz31 (zz4 (by repeat first | exact HB.out | apply zz2 | apply zz0 | apply zz1 | refine zz3 ?_ GE254.out | refine zz3 ?_ GE268.out | refine zz3 ?_ GE273.out) hb);have n10_:=zz31 (hbox);have n11_:=zz31 ((by rw [hg];exact (zz5 (by repeat first | exact HB.out | apply zz2 | apply zz0 | apply zz1 | refine zz3 ?_ GE254.out | refine zz3 ?_ GE268.out | refine zz3 ?_ GE273.out)):w.heap.size≤gb282));have n12_:=zz31 ((by rw [hg];exact (zz5 (by repeat first | exact HB.out | apply zz2 | apply zz0 | apply zz1 | refine zz3 ?_ GE254.out | refine zz3 ?_ GE268.out | refine zz3 ?_ GE273.out)):w.heap.size≤gb282));have n13_:=zz31 ((by rw [hg];exact Nat.ne_of_lt (blk_lt (g:=gb254) (o:=.cells #[.int .i64 a0_0,.slice A0_1 l0_1.length c0_1] 24 (0,0)) (by (with_reducible repeat (first | refine zz6 ?_ _ | refine zz7 ?_ | refine zz8 ?_ _));exact BK254.out)):gb254 ≠ gb282));have n14_:=zz31 ((by rw [hg];exact Nat.ne_of_gt (blk_lt (g:=gb254) (o:=.cells #[.int .i64 a0_0,.slice A0_1 l0_1.length c0_1] 24 (0,0)) (by (with_reducible repeat (first | refine zz6 ?_ _ | refine zz7 ?_ | refine zz8 ?_ _));exact BK254.out)):gb282 ≠ gb254));have n15_:=zz31 ((by rw [hg];exact Nat.ne_of_lt (blk_lt (g:=gb268) (o:=.cells #[.int .i64 t263,.slice Ao29 t264.length co29] 30 (0,0)) (by (with_reducible repeat (first | refine zz6 ?_ _ | refine zz7 ?_ | refine zz8 ?_ _));exact BK268.out)):gb268 ≠ gb282));have n16_:=zz31 ((by rw [hg];exact Nat.ne_of_gt (blk_lt (g:=gb268) (o:=.cells #[.int .i64 t263,.slice Ao29 t264.length co29] 30 (0,0)) (by (with_reducible repeat (first | refine zz6 ?_ _ | refine zz7 ?_ | refine zz8 ?_ _));exact BK268.out)):gb282 ≠ gb268));have n17_:=zz31 ((by rw [hg];exact Nat.ne_of_lt (blk_lt (g:=gb273) (o:=.cells #[.int .i64 t269,.slice Ao36 t270.length co36] 30 (0,0)) (by (with_reducible repeat (first | refine zz6 ?_ _ | refine zz7 ?_ | refine zz8 ?_ _));exact BK273.out)):gb273 ≠ gb282));have n18_:=zz31 ((by rw [hg];exact Nat.ne_of_gt (blk_lt (g:=gb273) (o:=.cells #[.int .i64 t269,.slice Ao36 t270.length co36] 30 (0,0)) (by (with_reducible repeat (first | refine zz6 ?_ _ | refine zz7 ?_ | refine zz8 ?_ _));exact BK273.out)):gb282 ≠ gb273));clear HO259;clear HO262;clear HO266;clear HO272;clear HO276;clear HO280;clear BK254;clear BK268;clear BK273;clear HB;have HO259:=n0_;have HO262:=n1_;have HO266:=n2_;have HO272:=n3_;have HO276:=n4_;have HO280:=n5_;have BK254:=n6_;have BK268:=n7_;have BK273:=n8_;have HB:=n9_;have BK282:=n10_;have GW282:=n11_;have GE282:=n12_;have NB254_282:=n13_;have NB282_254:=n14_;have NB268_282:=n15_;have NB282_268:=n16_;have NB273_282:=n17_;have NB282_273:=n18_;clear n0_ n1_ n2_ n3_ n4_ n5_ n6_ n7_ n8_ n9_ n10_ n11_ n12_ n13_ n14_ n15_ n16_ n17_ n18_;clear hb hbox hg;have hnb42:=NB282_254.out;have hnc42:=NB254_282.out;have hnb43:=NB282_268.out;have hnc43:=NB268_282.out;have hnb44:=NB282_273.out;have hnc44:=NB273_282.out;have hcz45_0:w41.cell? ⟨gb282,0,none⟩=some (.int .i64 0):=(zz9 BK282.out 0).trans rfl;have hcz45_1:w41.cell? ⟨gb282,1,none⟩=some (.slice none 0 0):=(zz9 BK282.out 1).trans rfl;have hfz45_0:=zz10 BK282.out 0;have hfz45_1:=zz10 BK282.out 1;obtain ⟨Ao46,co46,eo46⟩:=Kd.R_slice HO280.out;subst eo46))
   (try simp only [Act.put,zz21,zz22,zz23])
   go_cut [51] (fun v51 wc=>∃ (kq:Nat) (x51_15:Bool),v51=.bool x51_15∧Aside0 (laws_FnExactRenameParty.j0 kq l1 t267 t274 t281 x51_15 a0_0 l0_1 t263 t264 t269 t270 t277 t278=some r)∧Aside0 (kq≤k)∧Aside0 (Kd.R (Kd.int .i64) 3 wc w.heap.size (fun _=>True) (.slice Ao39 t274.length co39) t274)∧Aside0 (Kd.R k70 70 wc w.heap.size (fun k_=>some k_ ≠ ((.slice Ao36 t270.length co36):Value).ownBlock∧some k_ ≠ ((.slice Ao46 t278.length co46):Value).ownBlock) (.slice Ao29 t264.length co29) t264)∧Aside0 (Kd.R k70 70 wc w.heap.size (fun k_=>some k_ ≠ ((.slice Ao29 t264.length co29):Value).ownBlock∧some k_ ≠ ((.slice Ao46 t278.length co46):Value).ownBlock) (.slice Ao36 t270.length co36) t270)∧Aside0 (Kd.R k70 70 wc w.heap.size (fun k_=>some k_ ≠ ((.slice Ao29 t264.length co29):Value).ownBlock∧some k_ ≠ ((.slice Ao36 t270.length co36):Value).ownBlock) (.slice Ao46 t278.length co46) t278)∧Aside0 (wc.heap[gb254]?=some (.cells #[.int .i64 a0_0,(.slice A0_1 l0_1.length c0_1)] 24 (0,0)))∧Aside0 (wc.heap[gb268]?=some (.cells #[.int .i64 t263,(.slice Ao29 t264.length co29)] 30 (0,0)))∧Aside0 (wc.heap[gb273]?=some (.cells #[.int .i64 t269,(.slice Ao36 t270.length co36)] 30 (0,0)))∧Aside0 (wc.heap[gb282]?=some (.cells #[.int .i64 t277,(.slice Ao46 t278.length co46)] 30 (0,0)))∧Aside0 (Below w.heap.size w wc))
   case first =>
    have H:=HC16.out
    clear HC16
    replace H:=zz30.mp H
    obtain ⟨t283,A470,H⟩:=H
    replace H:(if t283=true then (laws_FnExactRenameParty.j0 k l1 t267 t274 t281 (t281 != t267) a0_0 l0_1 t263 t264 t269 t270 t277 t278) else (laws_FnExactRenameParty.j0 k l1 t267 t274 t281 true a0_0 l0_1 t263 t264 t269 t270 t277 t278))=some r:=H
    have A47:=zz31 A470
    clear A470
    by_cases c48:t283=true
    ·subst c48
     have H1:(laws_FnExactRenameParty.j0 k l1 t267 t274 t281 (t281 != t267) a0_0 l0_1 t263 t264 t269 t270 t277 t278)=some r:=by rw [if_pos rfl] at H;exact H
     clear H
     have H:=H1
     clear H1
     have H':=zz31 H
     clear H
     have hnb49:=NB282_254.out
     have hnc49:=NB254_282.out
     have hnb50:=NB282_268.out
     have hnc50:=NB268_282.out
     have hnb51:=NB282_273.out
     have hnc51:=NB273_282.out
     have hcz52_0:w41.cell? ⟨gb282,0,none⟩=some (.int .i64 0):=(zz9 BK282.out 0).trans rfl
     have hcz52_1:w41.cell? ⟨gb282,1,none⟩=some (.slice none 0 0):=(zz9 BK282.out 1).trans rfl
     have hfz52_0:=zz10 BK282.out 0
     have hfz52_1:=zz10 BK282.out 1
     have hnb53:=NB268_254.out
     have hnc53:=NB254_268.out
     have hnb54:=NB268_273.out
     have hnc54:=NB273_268.out
     have hcz55_0:w41.cell? ⟨gb268,0,none⟩=some (.int .i64 t263):=(zz9 BK268.out 0).trans rfl
     have hcz55_1:w41.cell? ⟨gb268,1,none⟩=some (.slice Ao29 t264.length co29):=(zz9 BK268.out 1).trans rfl
     have hfz55_0:=zz10 BK268.out 0
     have hfz55_1:=zz10 BK268.out 1
     go_wp2_with (first | ((with_reducible refine gate_callee (f:=12) rfl ?_);refine goesL_ (some 45) rfl rfl Try.func12 (by kernel_rfl) rfl #[.agg #[.int .i64 t277,.slice Ao46 t278.length co46],.agg #[.int .i64 t263,.slice Ao29 t264.length co29]] rfl (by (try simp only [zz26,zz27,zz28]);first | done | rfl | (simp only [zz24,zz25];rfl)) ?_;(with_reducible refine (laws_eqParty.calls k t277 _ _ t278 t263 _ _ t264 true _ ?side1 ?side2 ?side3 ?side4 A47.out).mono ?_);(case side1=>refine (Kd.R_reads' (e:=70) (base:=w.heap.size) (ok:=fun k_=>(((True∧some k_ ≠ (.slice Ao23 t257.length co23:Value).ownBlock)∧some k_ ≠ (.slice Ao29 t264.length co29:Value).ownBlock)∧some k_ ≠ (.slice Ao36 t270.length co36:Value).ownBlock)) (n:=t278.length) (c:=co46) ?_).2.2;exact (by (with_reducible repeat (first | apply zz12 | apply zz13 | apply zz14));exact (Kd.R_mono (Kd.R_far (p:=⟨gb282,1,none⟩) (Kd.R_far (p:=⟨gb282,0,none⟩) (Kd.R_types HO280.out BK282.out (by decide)) (fun _ hk=>hk.2) (.int .i64 t277)) (fun _ hk=>hk.2) (.slice Ao46 t278.length co46)) (fun _ h_=>h_.1))));(case side2=>exact (Kd.R_reads' HO280.out).2.1);(case side3=>refine (Kd.R_reads' (e:=70) (base:=w.heap.size) (ok:=fun k_=>(((True∧some k_ ≠ (.slice Ao23 t257.length co23:Value).ownBlock)∧some k_ ≠ (.slice Ao36 t270.length co36:Value).ownBlock)∧some k_ ≠ (.slice Ao46 t278.length co46:Value).ownBlock)) (n:=t264.length) (c:=co29) ?_).2.2;exact (by (with_reducible repeat (first | apply zz12 | apply zz13 | apply zz14));exact (Kd.R_mono (Kd.R_far (p:=⟨gb282,1,none⟩) (Kd.R_far (p:=⟨gb282,0,none⟩) (Kd.R_types HO266.out BK282.out (by decide)) (fun _ hk=>hk.2) (.int .i64 t277)) (fun _ hk=>hk.2) (.slice Ao46 t278.length co46)) (fun _ h_=>h_.1))));(case side4=>exact (Kd.R_reads' HO266.out).2.1);rintro e w56 ⟨rfl,hb⟩;refine ⟨_,rfl,?_⟩;have n0_:=zz31 (Kd.R_below (by (with_reducible repeat (first | apply zz12 | apply zz13 | apply zz14));exact (Kd.R_mono (Kd.R_far (p:=⟨gb282,1,none⟩) (Kd.R_far (p:=⟨gb282,0,none⟩) (Kd.R_types HO259.out BK282.out (by decide)) (fun _ hk=>hk.2) (.int .i64 t277)) (fun _ hk=>hk.2) (.slice Ao46 t278.length co46)) (fun _ h_=>h_.1))) hb);have n1_:=zz31 (Kd.R_below (by (with_reducible repeat (first | apply zz12 | apply zz13 | apply zz14));exact (Kd.R_mono (Kd.R_far (p:=⟨gb282,1,none⟩) (Kd.R_far (p:=⟨gb282,0,none⟩) (Kd.R_types HO262.out BK282.out (by decide)) (fun _ hk=>hk.2) (.int .i64 t277)) (fun _ hk=>hk.2) (.slice Ao46 t278.length co46)) (fun _ h_=>h_.1))) hb);have n2_:=zz31 (Kd.R_below (by (with_reducible repeat (first | apply zz12 | apply zz13 | apply zz14));exact (Kd.R_mono (Kd.R_far (p:=⟨gb282,1,none⟩) (Kd.R_far (p:=⟨gb282,0,none⟩) (Kd.R_types HO266.out BK282.out (by decide)) (fun _ hk=>hk.2) (.int .i64 t277)) (fun _ hk=>hk.2) (.slice Ao46 t278.length co46)) (fun _ h_=>h_.1))) hb);have n3_:=zz31 (Kd.R_below (by (with_reducible repeat (first | apply zz12 | apply zz13 | apply zz14));exact (Kd.R_mono (Kd.R_far (p:=⟨gb282,1,none⟩) (Kd.R_far (p:=⟨gb282,0,none⟩) (Kd.R_types HO272.out BK282.out (by decide)) (fun _ hk=>hk.2) (.int .i64 t277)) (fun _ hk=>hk.2) (.slice Ao46 t278.length co46)) (fun _ h_=>h_.1))) hb);have n4_:=zz31 (Kd.R_below (by (with_reducible repeat (first | apply zz12 | apply zz13 | apply zz14));exact (Kd.R_mono (Kd.R_far (p:=⟨gb282,1,none⟩) (Kd.R_far (p:=⟨gb282,0,none⟩) (Kd.R_types HO276.out BK282.out (by decide)) (fun _ hk=>hk.2) (.int .i64 t277)) (fun _ hk=>hk.2) (.slice Ao46 t278.length co46)) (fun _ h_=>h_.1))) hb);have n5_:=zz31 (Kd.R_below (by (with_reducible repeat (first | apply zz12 | apply zz13 | apply zz14));exact (Kd.R_mono (Kd.R_far (p:=⟨gb282,1,none⟩) (Kd.R_far (p:=⟨gb282,0,none⟩) (Kd.R_types HO280.out BK282.out (by decide)) (fun _ hk=>hk.2) (.int .i64 t277)) (fun _ hk=>hk.2) (.slice Ao46 t278.length co46)) (fun _ h_=>h_.1))) hb);have n6_:=zz31 (zz11 (g:=gb254) (o:=.cells #[.int .i64 a0_0,.slice A0_1 l0_1.length c0_1] 24 (0,0)) (by (with_reducible repeat (first | refine zz6 ?_ _ | refine zz7 ?_ | refine zz8 ?_ _));refine blk_far ?_ NB254_282.out _;(with_reducible repeat (first | refine zz6 ?_ _ | refine zz7 ?_ | refine zz8 ?_ _));refine blk_far ?_ NB254_282.out _;(with_reducible repeat (first | refine zz6 ?_ _ | refine zz7 ?_ | refine zz8 ?_ _));exact BK254.out) hb);have n7_:=zz31 (zz11 (g:=gb268) (o:=.cells #[.int .i64 t263,.slice Ao29 t264.length co29] 30 (0,0)) (by (with_reducible repeat (first | refine zz6 ?_ _ | refine zz7 ?_ | refine zz8 ?_ _));refine blk_far ?_ NB268_282.out _;(with_reducible repeat (first | refine zz6 ?_ _ | refine zz7 ?_ | refine zz8 ?_ _));refine blk_far ?_ NB268_282.out _;(with_reducible repeat (first | refine zz6 ?_ _ | refine zz7 ?_ | refine zz8 ?_ _));exact BK268.out) hb);have n8_:=zz31 (zz11 (g:=gb273) (o:=.cells #[.int .i64 t269,.slice Ao36 t270.length co36] 30 (0,0)) (by (with_reducible repeat (first | refine zz6 ?_ _ | refine zz7 ?_ | refine zz8 ?_ _));refine blk_far ?_ NB273_282.out _;(with_reducible repeat (first | refine zz6 ?_ _ | refine zz7 ?_ | refine zz8 ?_ _));refine blk_far ?_ NB273_282.out _;(with_reducible repeat (first | refine zz6 ?_ _ | refine zz7 ?_ | refine zz8 ?_ _));exact BK273.out) hb);have n9_:=zz31 (zz11 (g:=gb282) (o:=.cells #[.int .i64 t277,.slice Ao46 t278.length co46] 30 (0,0)) (by (with_reducible repeat (first | refine zz6 ?_ _ | refine zz7 ?_ | refine zz8 ?_ _));refine blk_put (cs:=#[.int .i64 t277,.slice none 0 0]) ?_ 1 _ rfl;(with_reducible repeat (first | refine zz6 ?_ _ | refine zz7 ?_ | refine zz8 ?_ _));refine blk_put (cs:=#[.int .i64 0,.slice none 0 0]) ?_ 0 _ rfl;(with_reducible repeat (first | refine zz6 ?_ _ | refine zz7 ?_ | refine zz8 ?_ _));exact BK282.out) hb);have n10_:=zz31 (zz4 (by repeat first | exact HB.out | apply zz2 | apply zz0 | apply zz1 | refine zz3 ?_ GE254.out | refine zz3 ?_ GE268.out | refine zz3 ?_ GE273.out | refine zz3 ?_ GE282.out) hb);clear HO259;clear HO262;clear HO266;clear HO272;clear HO276;clear HO280;clear BK254;clear BK268;clear BK273;clear BK282;clear HB;have HO259:=n0_;have HO262:=n1_;have HO266:=n2_;have HO272:=n3_;have HO276:=n4_;have HO280:=n5_;have BK254:=n6_;have BK268:=n7_;have BK273:=n8_;have BK282:=n9_;have HB:=n10_;clear n0_ n1_ n2_ n3_ n4_ n5_ n6_ n7_ n8_ n9_ n10_;(try clear hb);(try clear hb2);(try clear hk);(try clear hi)))
     go_meet
     case rel=>exact ⟨_,((t281 != t267)),(by first | rfl | (simp;done) | (simp [*];done)),H',⟨by first | omega | exact Nat.le_refl _⟩,⟨by (with_reducible repeat (first | apply zz12 | apply zz13 | apply zz14));exact Kd.R_mono HO276.out (fun _ hk=>trivial)⟩,⟨by (with_reducible repeat (first | apply zz12 | apply zz13 | apply zz14));exact Kd.R_mono HO266.out (fun _ hk=>⟨hk.1.2,hk.2⟩)⟩,⟨by (with_reducible repeat (first | apply zz12 | apply zz13 | apply zz14));exact Kd.R_mono HO272.out (fun _ hk=>⟨hk.1.2,hk.2⟩)⟩,⟨by (with_reducible repeat (first | apply zz12 | apply zz13 | apply zz14));exact Kd.R_mono HO280.out (fun _ hk=>⟨hk.1.2,hk.2⟩)⟩,⟨by (with_reducible repeat (first | refine zz6 ?_ _ | refine zz7 ?_ | refine zz8 ?_ _));exact BK254.out⟩,⟨by (with_reducible repeat (first | refine zz6 ?_ _ | refine zz7 ?_ | refine zz8 ?_ _));exact BK268.out⟩,⟨by (with_reducible repeat (first | refine zz6 ?_ _ | refine zz7 ?_ | refine zz8 ?_ _));exact BK273.out⟩,⟨by (with_reducible repeat (first | refine zz6 ?_ _ | refine zz7 ?_ | refine zz8 ?_ _));exact BK282.out⟩,⟨by repeat first | exact HB.out | apply zz2 | apply zz0 | apply zz1 | refine zz3 ?_ GE254.out | refine zz3 ?_ GE268.out | refine zz3 ?_ GE273.out | refine zz3 ?_ GE282.out⟩⟩
    ·replace c48:=Bool.eq_false_iff.mpr c48
     subst c48
     have H1:(laws_FnExactRenameParty.j0 k l1 t267 t274 t281 true a0_0 l0_1 t263 t264 t269 t270 t277 t278)=some r:=by rw [if_neg (show ¬ (false=true) by decide)] at H;exact H
     clear H
     have H:=H1
     clear H1
     have H':=zz31 H
     clear H
     have hnb57:=NB282_254.out
     have hnc57:=NB254_282.out
     have hnb58:=NB282_268.out
     have hnc58:=NB268_282.out
     have hnb59:=NB282_273.out
     have hnc59:=NB273_282.out
     have hcz60_0:w41.cell? ⟨gb282,0,none⟩=some (.int .i64 0):=(zz9 BK282.out 0).trans rfl
     have hcz60_1:w41.cell? ⟨gb282,1,none⟩=some (.slice none 0 0):=(zz9 BK282.out 1).trans rfl
     have hfz60_0:=zz10 BK282.out 0
     have hfz60_1:=zz10 BK282.out 1
     have hnb61:=NB268_254.out
     have hnc61:=NB254_268.out
     have hnb62:=NB268_273.out
     have hnc62:=NB273_268.out
     have hcz63_0:w41.cell? ⟨gb268,0,none⟩=some (.int .i64 t263):=(zz9 BK268.out 0).trans rfl
     have hcz63_1:w41.cell? ⟨gb268,1,none⟩=some (.slice Ao29 t264.length co29):=(zz9 BK268.out 1).trans rfl
     have hfz63_0:=zz10 BK268.out 0
     have hfz63_1:=zz10 BK268.out 1
     go_wp2_with (first | ((with_reducible refine gate_callee (f:=12) rfl ?_);refine goesL_ (some 45) rfl rfl Try.func12 (by kernel_rfl) rfl #[.agg #[.int .i64 t277,.slice Ao46 t278.length co46],.agg #[.int .i64 t263,.slice Ao29 t264.length co29]] rfl (by (try simp only [zz26,zz27,zz28]);first | done | rfl | (simp only [zz24,zz25];rfl)) ?_;(with_reducible refine (laws_eqParty.calls k t277 _ _ t278 t263 _ _ t264 false _ ?side1 ?side2 ?side3 ?side4 A47.out).mono ?_);(case side1=>refine (Kd.R_reads' (e:=70) (base:=w.heap.size) (ok:=fun k_=>(((True∧some k_ ≠ (.slice Ao23 t257.length co23:Value).ownBlock)∧some k_ ≠ (.slice Ao29 t264.length co29:Value).ownBlock)∧some k_ ≠ (.slice Ao36 t270.length co36:Value).ownBlock)) (n:=t278.length) (c:=co46) ?_).2.2;exact (by (with_reducible repeat (first | apply zz12 | apply zz13 | apply zz14));exact (Kd.R_mono (Kd.R_far (p:=⟨gb282,1,none⟩) (Kd.R_far (p:=⟨gb282,0,none⟩) (Kd.R_types HO280.out BK282.out (by decide)) (fun _ hk=>hk.2) (.int .i64 t277)) (fun _ hk=>hk.2) (.slice Ao46 t278.length co46)) (fun _ h_=>h_.1))));(case side2=>exact (Kd.R_reads' HO280.out).2.1);(case side3=>refine (Kd.R_reads' (e:=70) (base:=w.heap.size) (ok:=fun k_=>(((True∧some k_ ≠ (.slice Ao23 t257.length co23:Value).ownBlock)∧some k_ ≠ (.slice Ao36 t270.length co36:Value).ownBlock)∧some k_ ≠ (.slice Ao46 t278.length co46:Value).ownBlock)) (n:=t264.length) (c:=co29) ?_).2.2;exact (by (with_reducible repeat (first | apply zz12 | apply zz13 | apply zz14));exact (Kd.R_mono (Kd.R_far (p:=⟨gb282,1,none⟩) (Kd.R_far (p:=⟨gb282,0,none⟩) (Kd.R_types HO266.out BK282.out (by decide)) (fun _ hk=>hk.2) (.int .i64 t277)) (fun _ hk=>hk.2) (.slice Ao46 t278.length co46)) (fun _ h_=>h_.1))));(case side4=>exact (Kd.R_reads' HO266.out).2.1);rintro e w64 ⟨rfl,hb⟩;refine ⟨_,rfl,?_⟩;have n0_:=zz31 (Kd.R_below (by (with_reducible repeat (first | apply zz12 | apply zz13 | apply zz14));exact (Kd.R_mono (Kd.R_far (p:=⟨gb282,1,none⟩) (Kd.R_far (p:=⟨gb282,0,none⟩) (Kd.R_types HO259.out BK282.out (by decide)) (fun _ hk=>hk.2) (.int .i64 t277)) (fun _ hk=>hk.2) (.slice Ao46 t278.length co46)) (fun _ h_=>h_.1))) hb);have n1_:=zz31 (Kd.R_below (by (with_reducible repeat (first | apply zz12 | apply zz13 | apply zz14));exact (Kd.R_mono (Kd.R_far (p:=⟨gb282,1,none⟩) (Kd.R_far (p:=⟨gb282,0,none⟩) (Kd.R_types HO262.out BK282.out (by decide)) (fun _ hk=>hk.2) (.int .i64 t277)) (fun _ hk=>hk.2) (.slice Ao46 t278.length co46)) (fun _ h_=>h_.1))) hb);have n2_:=zz31 (Kd.R_below (by (with_reducible repeat (first | apply zz12 | apply zz13 | apply zz14));exact (Kd.R_mono (Kd.R_far (p:=⟨gb282,1,none⟩) (Kd.R_far (p:=⟨gb282,0,none⟩) (Kd.R_types HO266.out BK282.out (by decide)) (fun _ hk=>hk.2) (.int .i64 t277)) (fun _ hk=>hk.2) (.slice Ao46 t278.length co46)) (fun _ h_=>h_.1))) hb);have n3_:=zz31 (Kd.R_below (by (with_reducible repeat (first | apply zz12 | apply zz13 | apply zz14));exact (Kd.R_mono (Kd.R_far (p:=⟨gb282,1,none⟩) (Kd.R_far (p:=⟨gb282,0,none⟩) (Kd.R_types HO272.out BK282.out (by decide)) (fun _ hk=>hk.2) (.int .i64 t277)) (fun _ hk=>hk.2) (.slice Ao46 t278.length co46)) (fun _ h_=>h_.1))) hb);have n4_:=zz31 (Kd.R_below (by (with_reducible repeat (first | apply zz12 | apply zz13 | apply zz14));exact (Kd.R_mono (Kd.R_far (p:=⟨gb282,1,none⟩) (Kd.R_far (p:=⟨gb282,0,none⟩) (Kd.R_types HO276.out BK282.out (by decide)) (fun _ hk=>hk.2) (.int .i64 t277)) (fun _ hk=>hk.2) (.slice Ao46 t278.length co46)) (fun _ h_=>h_.1))) hb);have n5_:=zz31 (Kd.R_below (by (with_reducible repeat (first | apply zz12 | apply zz13 | apply zz14));exact (Kd.R_mono (Kd.R_far (p:=⟨gb282,1,none⟩) (Kd.R_far (p:=⟨gb282,0,none⟩) (Kd.R_types HO280.out BK282.out (by decide)) (fun _ hk=>hk.2) (.int .i64 t277)) (fun _ hk=>hk.2) (.slice Ao46 t278.length co46)) (fun _ h_=>h_.1))) hb);have n6_:=zz31 (zz11 (g:=gb254) (o:=.cells #[.int .i64 a0_0,.slice A0_1 l0_1.length c0_1] 24 (0,0)) (by (with_reducible repeat (first | refine zz6 ?_ _ | refine zz7 ?_ | refine zz8 ?_ _));refine blk_far ?_ NB254_282.out _;(with_reducible repeat (first | refine zz6 ?_ _ | refine zz7 ?_ | refine zz8 ?_ _));refine blk_far ?_ NB254_282.out _;(with_reducible repeat (first | refine zz6 ?_ _ | refine zz7 ?_ | refine zz8 ?_ _));exact BK254.out) hb);have n7_:=zz31 (zz11 (g:=gb268) (o:=.cells #[.int .i64 t263,.slice Ao29 t264.length co29] 30 (0,0)) (by (with_reducible repeat (first | refine zz6 ?_ _ | refine zz7 ?_ | refine zz8 ?_ _));refine blk_far ?_ NB268_282.out _;(with_reducible repeat (first | refine zz6 ?_ _ | refine zz7 ?_ | refine zz8 ?_ _));refine blk_far ?_ NB268_282.out _;(with_reducible repeat (first | refine zz6 ?_ _ | refine zz7 ?_ | refine zz8 ?_ _));exact BK268.out) hb);have n8_:=zz31 (zz11 (g:=gb273) (o:=.cells #[.int .i64 t269,.slice Ao36 t270.length co36] 30 (0,0)) (by (with_reducible repeat (first | refine zz6 ?_ _ | refine zz7 ?_ | refine zz8 ?_ _));refine blk_far ?_ NB273_282.out _;(with_reducible repeat (first | refine zz6 ?_ _ | refine zz7 ?_ | refine zz8 ?_ _));refine blk_far ?_ NB273_282.out _;(with_reducible repeat (first | refine zz6 ?_ _ | refine zz7 ?_ | refine zz8 ?_ _));exact BK273.out) hb);have n9_:=zz31 (zz11 (g:=gb282) (o:=.cells #[.int .i64 t277,.slice Ao46 t278.length co46] 30 (0,0)) (by (with_reducible repeat (first | refine zz6 ?_ _ | refine zz7 ?_ | refine zz8 ?_ _));refine blk_put (cs:=#[.int .i64 t277,.slice none 0 0]) ?_ 1 _ rfl;(with_reducible repeat (first | refine zz6 ?_ _ | refine zz7 ?_ | refine zz8 ?_ _));refine blk_put (cs:=#[.int .i64 0,.slice none 0 0]) ?_ 0 _ rfl;(with_reducible repeat (first | refine zz6 ?_ _ | refine zz7 ?_ | refine zz8 ?_ _));exact BK282.out) hb);have n10_:=zz31 (zz4 (by repeat first | exact HB.out | apply zz2 | apply zz0 | apply zz1 | refine zz3 ?_ GE254.out | refine zz3 ?_ GE268.out | refine zz3 ?_ GE273.out | refine zz3 ?_ GE282.out) hb);clear HO259;clear HO262;clear HO266;clear HO272;clear HO276;clear HO280;clear BK254;clear BK268;clear BK273;clear BK282;clear HB;have HO259:=n0_;have HO262:=n1_;have HO266:=n2_;have HO272:=n3_;have HO276:=n4_;have HO280:=n5_;have BK254:=n6_;have BK268:=n7_;have BK273:=n8_;have BK282:=n9_;have HB:=n10_;clear n0_ n1_ n2_ n3_ n4_ n5_ n6_ n7_ n8_ n9_ n10_;(try clear hb);(try clear hb2);(try clear hk);(try clear hi)))
     go_meet
     case rel=>exact ⟨_,(true),(by first | rfl | (simp;done) | (simp [*];done)),H',⟨by first | omega | exact Nat.le_refl _⟩,⟨by (with_reducible repeat (first | apply zz12 | apply zz13 | apply zz14));exact Kd.R_mono HO276.out (fun _ hk=>trivial)⟩,⟨by (with_reducible repeat (first | apply zz12 | apply zz13 | apply zz14));exact Kd.R_mono HO266.out (fun _ hk=>⟨hk.1.2,hk.2⟩)⟩,⟨by (with_reducible repeat (first | apply zz12 | apply zz13 | apply zz14));exact Kd.R_mono HO272.out (fun _ hk=>⟨hk.1.2,hk.2⟩)⟩,⟨by (with_reducible repeat (first | apply zz12 | apply zz13 | apply zz14));exact Kd.R_mono HO280.out (fun _ hk=>⟨hk.1.2,hk.2⟩)⟩,⟨by (with_reducible repeat (first | refine zz6 ?_ _ | refine zz7 ?_ | refine zz8 ?_ _));exact BK254.out⟩,⟨by (with_reducible repeat (first | refine zz6 ?_ _ | refine zz7 ?_ | refine zz8 ?_ _));exact BK268.out⟩,⟨by (with_reducible repeat (first | refine zz6 ?_ _ | refine zz7 ?_ | refine zz8 ?_ _));exact BK273.out⟩,⟨by (with_reducible repeat (first | refine zz6 ?_ _ | refine zz7 ?_ | refine zz8 ?_ _));exact BK282.out⟩,⟨by repeat first | exact HB.out | apply zz2 | apply zz0 | apply zz1 | refine zz3 ?_ GE254.out | refine zz3 ?_ GE268.out | refine zz3 ?_ GE273.out | refine zz3 ?_ GE282.out⟩⟩
   case rest =>
    clear HC16
    try clear c1
    try clear c2
    try clear p2
    try clear c3
    try clear c3b0
    try clear c3b1
    try clear c4
    try clear c5
    try clear c6
    try clear c6b0
    try clear c8
    try clear c10
    try clear c12
    try clear c19
    try clear c20
    try clear c21
    try clear c27
    try clear c33
    try clear c34
    try clear c42
    try clear c43
    try clear c44
    try clear c48
    try clear c49
    try clear c50
    try clear c51
    try clear c53
    try clear c54
    try clear c57
    try clear c58
    try clear c59
    try clear c61
    try clear c62
    try clear hcz18_0
    try clear hcz18_1
    try clear hcz20_0
    try clear hcz20_1
    try clear hcz28_0
    try clear hcz28_1
    try clear hcz30_0
    try clear hcz30_1
    try clear hcz35_0
    try clear hcz35_1
    try clear hcz38_0
    try clear hcz38_1
    try clear hcz45_0
    try clear hcz45_1
    try clear hcz52_0
    try clear hcz52_1
    try clear hcz55_0
    try clear hcz55_1
    try clear hcz60_0
    try clear hcz60_1
    try clear hcz63_0
    try clear hcz63_1
    try clear hcz8_0
    try clear hcz8_1
    try clear hfz18_0
    try clear hfz18_1
    try clear hfz20_0
    try clear hfz20_1
    try clear hfz28_0
    try clear hfz28_1
    try clear hfz30_0
    try clear hfz30_1
    try clear hfz35_0
    try clear hfz35_1
    try clear hfz38_0
    try clear hfz38_1
    try clear hfz45_0
    try clear hfz45_1
    try clear hfz52_0
    try clear hfz52_1
    try clear hfz55_0
    try clear hfz55_1
    try clear hfz60_0
    try clear hfz60_1
    try clear hfz63_0
    try clear hfz63_1
    try clear hfz8_0
    try clear hfz8_1
    obtain ⟨kq,x51_15,rfl,HA,HJ15,HO_9,HO_269001,HO_274001,HO_283001,BK254,BK268,BK273,BK282,HB⟩:=hcut
    cases kq with
    | zero=>exact absurd HA.out (by simp [laws_FnExactRenameParty.j0])
    | succ kj15 =>
     have H:=HA.out
     clear HA
     simp only [laws_FnExactRenameParty.j0] at H
     by_cases c65:x51_15=true
     ·subst c65
      have H1:(some false)=some r:=by rw [if_pos rfl] at H;exact H
      clear H
      have H:=H1
      clear H1
      obtain rfl:=Option.some.inj H
      go_wp2
      go_ret
      exact ⟨by first | rfl | (simp [errW_none,errW_some] <;> rfl) | (simp [*,errW_none,errW_some] <;> rfl),by repeat first | exact HB.out | apply zz2 | apply zz0 | apply zz1 | refine zz3 ?_ GE254.out | refine zz3 ?_ GE268.out | refine zz3 ?_ GE273.out | refine zz3 ?_ GE282.out⟩
     ·replace c65:=Bool.eq_false_iff.mpr c65
      subst c65
      have H1:((laws_toParty.f kj15 a0_0 l0_1).bind fun bt284=>((laws_eqParty.f kj15 t269 t270 bt284.1 bt284.2).bind fun t288=>(if t288=true then ((laws_toIntS.f kj15 l1).bind fun t289=>((laws_eqIntS.f kj15 t274 t289).bind fun t292=>(if t292=true then ((laws_markParty.f kj15 t269 t270 1).bind fun bt293=>((laws_markIntS.f kj15 t274 bt293.1).bind fun bt295=>(if bt295.1 < 0 then (laws_FnExactRenameParty.j1 kj15 l1 t267 true a0_0 l0_1 t263 t264 t277 t278) else ((laws_eqParty.f kj15 t277 t278 t263 t264).bind fun t297=>(if t297=true then (laws_FnExactRenameParty.j1 kj15 l1 t267 (t281 != t267) a0_0 l0_1 t263 t264 t277 t278) else (laws_FnExactRenameParty.j1 kj15 l1 t267 true a0_0 l0_1 t263 t264 t277 t278)))))) else (some false)))) else (some false))))=some r:=by rw [if_neg (show ¬ (false=true) by decide)] at H;exact H
      clear H
      have H:=H1
      clear H1
      replace H:=zz30.mp H
      obtain ⟨⟨t284,t285⟩,A660,H⟩:=H
      replace H:((laws_eqParty.f kj15 t269 t270 t284 t285).bind fun t288=>(if t288=true then ((laws_toIntS.f kj15 l1).bind fun t289=>((laws_eqIntS.f kj15 t274 t289).bind fun t292=>(if t292=true then ((laws_markParty.f kj15 t269 t270 1).bind fun bt293=>((laws_markIntS.f kj15 t274 bt293.1).bind fun bt295=>(if bt295.1 < 0 then (laws_FnExactRenameParty.j1 kj15 l1 t267 true a0_0 l0_1 t263 t264 t277 t278) else ((laws_eqParty.f kj15 t277 t278 t263 t264).bind fun t297=>(if t297=true then (laws_FnExactRenameParty.j1 kj15 l1 t267 (t281 != t267) a0_0 l0_1 t263 t264 t277 t278) else (laws_FnExactRenameParty.j1 kj15 l1 t267 true a0_0 l0_1 t263 t264 t277 t278)))))) else (some false)))) else (some false)))=some r:=H
      have A66:=zz31 A660
      clear A660
      replace H:=zz30.mp H
      obtain ⟨t288,A670,H⟩:=H
      replace H:(if t288=true then ((laws_toIntS.f kj15 l1).bind fun t289=>((laws_eqIntS.f kj15 t274 t289).bind fun t292=>(if t292=true then ((laws_markParty.f kj15 t269 t270 1).bind fun bt293=>((laws_markIntS.f kj15 t274 bt293.1).bind fun bt295=>(if bt295.1 < 0 then (laws_FnExactRenameParty.j1 kj15 l1 t267 true a0_0 l0_1 t263 t264 t277 t278) else ((laws_eqParty.f kj15 t277 t278 t263 t264).bind fun t297=>(if t297=true then (laws_FnExactRenameParty.j1 kj15 l1 t267 (t281 != t267) a0_0 l0_1 t263 t264 t277 t278) else (laws_FnExactRenameParty.j1 kj15 l1 t267 true a0_0 l0_1 t263 t264 t277 t278)))))) else (some false)))) else (some false))=some r:=H
      have A67:=zz31 A670
      clear A670
      by_cases c68:t288=true
      ·subst c68
       have H1:((laws_toIntS.f kj15 l1).bind fun t289=>((laws_eqIntS.f kj15 t274 t289).bind fun t292=>(if t292=true then ((laws_markParty.f kj15 t269 t270 1).bind fun bt293=>((laws_markIntS.f kj15 t274 bt293.1).bind fun bt295=>(if bt295.1 < 0 then (laws_FnExactRenameParty.j1 kj15 l1 t267 true a0_0 l0_1 t263 t264 t277 t278) else ((laws_eqParty.f kj15 t277 t278 t263 t264).bind fun t297=>(if t297=true then (laws_FnExactRenameParty.j1 kj15 l1 t267 (t281 != t267) a0_0 l0_1 t263 t264 t277 t278) else (laws_FnExactRenameParty.j1 kj15 l1 t267 true a0_0 l0_1 t263 t264 t277 t278)))))) else (some false))))=some r:=by rw [if_pos rfl] at H;exact H
       clear H
       have H:=H1
       clear H1
       replace H:=zz30.mp H
       obtain ⟨t289,A690,H⟩:=H
       replace H:((laws_eqIntS.f kj15 t274 t289).bind fun t292=>(if t292=true then ((laws_markParty.f kj15 t269 t270 1).bind fun bt293=>((laws_markIntS.f kj15 t274 bt293.1).bind fun bt295=>(if bt295.1 < 0 then (laws_FnExactRenameParty.j1 kj15 l1 t267 true a0_0 l0_1 t263 t264 t277 t278) else ((laws_eqParty.f kj15 t277 t278 t263 t264).bind fun t297=>(if t297=true then (laws_FnExactRenameParty.j1 kj15 l1 t267 (t281 != t267) a0_0 l0_1 t263 t264 t277 t278) else (laws_FnExactRenameParty.j1 kj15 l1 t267 true a0_0 l0_1 t263 t264 t277 t278)))))) else (some false)))=some r:=H
       have A69:=zz31 A690
       clear A690
       replace H:=zz30.mp H
       obtain ⟨t292,A700,H⟩:=H
       replace H:(if t292=true then ((laws_markParty.f kj15 t269 t270 1).bind fun bt293=>((laws_markIntS.f kj15 t274 bt293.1).bind fun bt295=>(if bt295.1 < 0 then (laws_FnExactRenameParty.j1 kj15 l1 t267 true a0_0 l0_1 t263 t264 t277 t278) else ((laws_eqParty.f kj15 t277 t278 t263 t264).bind fun t297=>(if t297=true then (laws_FnExactRenameParty.j1 kj15 l1 t267 (t281 != t267) a0_0 l0_1 t263 t264 t277 t278) else (laws_FnExactRenameParty.j1 kj15 l1 t267 true a0_0 l0_1 t263 t264 t277 t278)))))) else (some false))=some r:=H
       have A70:=zz31 A700
       clear A700
       by_cases c71:t292=true
       ·subst c71
        have H1:((laws_markParty.f kj15 t269 t270 1).bind fun bt293=>((laws_markIntS.f kj15 t274 bt293.1).bind fun bt295=>(if bt295.1 < 0 then (laws_FnExactRenameParty.j1 kj15 l1 t267 true a0_0 l0_1 t263 t264 t277 t278) else ((laws_eqParty.f kj15 t277 t278 t263 t264).bind fun t297=>(if t297=true then (laws_FnExactRenameParty.j1 kj15 l1 t267 (t281 != t267) a0_0 l0_1 t263 t264 t277 t278) else (laws_FnExactRenameParty.j1 kj15 l1 t267 true a0_0 l0_1 t263 t264 t277 t278))))))=some r:=by rw [if_pos rfl] at H;exact H
        clear H
        have H:=H1
        clear H1
        replace H:=zz30.mp H
        obtain ⟨⟨t293,t294⟩,A720,H⟩:=H
        replace H:((laws_markIntS.f kj15 t274 t293).bind fun bt295=>(if bt295.1 < 0 then (laws_FnExactRenameParty.j1 kj15 l1 t267 true a0_0 l0_1 t263 t264 t277 t278) else ((laws_eqParty.f kj15 t277 t278 t263 t264).bind fun t297=>(if t297=true then (laws_FnExactRenameParty.j1 kj15 l1 t267 (t281 != t267) a0_0 l0_1 t263 t264 t277 t278) else (laws_FnExactRenameParty.j1 kj15 l1 t267 true a0_0 l0_1 t263 t264 t277 t278)))))=some r:=H
        have A72:=zz31 A720
        clear A720
        replace H:=zz30.mp H
        obtain ⟨⟨t295,t296⟩,A730,H⟩:=H
        replace H:(if t295 < 0 then (laws_FnExactRenameParty.j1 kj15 l1 t267 true a0_0 l0_1 t263 t264 t277 t278) else ((laws_eqParty.f kj15 t277 t278 t263 t264).bind fun t297=>(if t297=true then (laws_FnExactRenameParty.j1 kj15 l1 t267 (t281 != t267) a0_0 l0_1 t263 t264 t277 t278) else (laws_FnExactRenameParty.j1 kj15 l1 t267 true a0_0 l0_1 t263 t264 t277 t278))))=some r:=H
        have A73:=zz31 A730
        clear A730
        have HC74:=zz31 H
        clear H
        try go_wp2
        have n0_:=zz31 (zz14 HO_9.out)
        have n1_:=zz31 (zz14 HO_269001.out)
        have n2_:=zz31 (zz14 HO_274001.out)
        have n3_:=zz31 (zz14 HO_283001.out)
        have n4_:=zz31 (zz7 BK254.out)
        have n5_:=zz31 (zz7 BK268.out)
        have n6_:=zz31 (zz7 BK273.out)
        have n7_:=zz31 (zz7 BK282.out)
        have n8_:=zz31 (zz1 HB.out)
        clear HO_9
        clear HO_269001
        clear HO_274001
        clear HO_283001
        clear BK254
        clear BK268
        clear BK273
        clear BK282
        clear HB
        have HO_9:=n0_
        have HO_269001:=n1_
        have HO_274001:=n2_
        have HO_283001:=n3_
        have BK254:=n4_
        have BK268:=n5_
        have BK273:=n6_
        have BK282:=n7_
        have HB:=n8_
        clear n0_ n1_ n2_ n3_ n4_ n5_ n6_ n7_ n8_
        refine start_ (n:=5) (S:=fun w'=>w'.cell? ⟨gb273,0,none⟩=some (.int .i64 t269)∧w'.cell? ⟨gb273,1,none⟩=some (.slice Ao36 t270.length co36)∧w'.cell? ⟨gb254,0,none⟩=some (.int .i64 a0_0)∧w'.cell? ⟨gb254,1,none⟩=some (.slice A0_1 l0_1.length c0_1)) (ds:=[]) #[F,F,F,F,F] (by kernel_rfl) rfl rfl ⟨(zz9 BK273.out 0).trans rfl,(zz9 BK273.out 1).trans rfl,(zz9 BK254.out 0).trans rfl,(zz9 BK254.out 1).trans rfl⟩ (fun hHeld=>?_)
        generalize wc.drew=w75 at HO_9 HO_269001 HO_274001 HO_283001 BK254 BK268 BK273 BK282 HB hHeld ⊢
        refine take_ (i:=0) (N:=some 52) (v:=?_) (a':=?_) #[T,F,F,F,F] rfl rfl (by kernel_rfl) (fun _ _ _ h=>h) (Or.inl ⟨by rfl,?_⟩) hHeld ?_ ?_
        rotate_left
        ·rintro w' ⟨s0,s1,s2,s3⟩
         go_simp
         with_reducible rfl
        rotate_left
        ·simp only [Act.put,zz21,zz22,zz23,i64_w,i32_w]
         rfl
        refine take_ (i:=1) (N:=some 53) (v:=?_) (a':=?_) #[T,T,F,F,F] rfl rfl (by kernel_rfl) (fun _ _ _ h=>h) (Or.inl ⟨by rfl,?_⟩) hHeld ?_ ?_
        rotate_left
        ·rintro w' ⟨s0,s1,s2,s3⟩
         go_simp
         with_reducible rfl
        rotate_left
        ·simp only [Act.put,zz21,zz22,zz23,i64_w,i32_w]
         rfl
        refine one_ (i:=2) (N:=some 54) #[T,T,T,F,F] rfl rfl (by kernel_rfl) (by decide) (fun K hK=>?_)
        refine goes_ Try.func10 (by kernel_rfl) rfl #[.agg #[.int .i64 a0_0,.slice A0_1 l0_1.length c0_1]] (by rfl) rfl rfl (by (try simp only [zz26,zz27,zz28]);first | done | rfl | (simp only [zz24,zz25];rfl)) ?_
        with_reducible refine (laws_toParty.calls kj15 a0_0 _ _ l0_1 t284 t285 _ ?side1 ?side2 A66.out).mono ?_
        (case side1=>repeat (first | exact (Kd.C_below HR0_1.out HB.out) | (with_reducible refine zz18 ?_ _) | (with_reducible refine zz19 ?_ _) | (with_reducible refine zz20 ?_)))
        (case side2=>exact HC0_1.out)
        rintro e w76 ⟨v286,rfl,ho0,hb⟩
        refine ⟨_,rfl,?_⟩
        have n0_:=zz31 (Kd.R_below (by (with_reducible repeat (first | apply zz12 | apply zz13 | apply zz14));exact HO_9.out) hb)
        have n1_:=zz31 (Kd.R_elder' (by (with_reducible repeat (first | apply zz12 | apply zz13 | apply zz14));exact HO_269001.out) (Kd.R_base ho0) hb)
        have n2_:=zz31 (Kd.R_elder' (by (with_reducible repeat (first | apply zz12 | apply zz13 | apply zz14));exact HO_274001.out) (Kd.R_base ho0) hb)
        have n3_:=zz31 (Kd.R_elder' (by (with_reducible repeat (first | apply zz12 | apply zz13 | apply zz14));exact HO_283001.out) (Kd.R_base ho0) hb)
        have n4_:=zz31 (Kd.R_lower (Kd.R_new' (Kd.R_new' (Kd.R_new' ho0 (Kd.R_lt (by (with_reducible repeat (first | apply zz12 | apply zz13 | apply zz14));exact HO_269001.out))) (Kd.R_lt (by (with_reducible repeat (first | apply zz12 | apply zz13 | apply zz14));exact HO_274001.out))) (Kd.R_lt (by (with_reducible repeat (first | apply zz12 | apply zz13 | apply zz14));exact HO_283001.out))) (zz5 (by repeat first | exact HB.out | apply zz2 | apply zz0 | apply zz1 | refine zz3 ?_ GE254.out | refine zz3 ?_ GE268.out | refine zz3 ?_ GE273.out | refine zz3 ?_ GE282.out)))
        have n5_:=zz31 (zz11 (g:=gb254) (o:=.cells #[.int .i64 a0_0,.slice A0_1 l0_1.length c0_1] 24 (0,0)) (by (with_reducible repeat (first | refine zz6 ?_ _ | refine zz7 ?_ | refine zz8 ?_ _));exact BK254.out) hb)
        have n6_:=zz31 (zz11 (g:=gb268) (o:=.cells #[.int .i64 t263,.slice Ao29 t264.length co29] 30 (0,0)) (by (with_reducible repeat (first | refine zz6 ?_ _ | refine zz7 ?_ | refine zz8 ?_ _));exact BK268.out) hb)
        have n7_:=zz31 (zz11 (g:=gb273) (o:=.cells #[.int .i64 t269,.slice Ao36 t270.length co36] 30 (0,0)) (by (with_reducible repeat (first | refine zz6 ?_ _ | refine zz7 ?_ | refine zz8 ?_ _));exact BK273.out) hb)
        have n8_:=zz31 (zz11 (g:=gb282) (o:=.cells #[.int .i64 t277,.slice Ao46 t278.length co46] 30 (0,0)) (by (with_reducible repeat (first | refine zz6 ?_ _ | refine zz7 ?_ | refine zz8 ?_ _));exact BK282.out) hb)
        have n9_:=zz31 (zz4 (by repeat first | exact HB.out | apply zz2 | apply zz0 | apply zz1 | refine zz3 ?_ GE254.out | refine zz3 ?_ GE268.out | refine zz3 ?_ GE273.out | refine zz3 ?_ GE282.out) hb)
        clear HO_9
        clear HO_269001
        clear HO_274001
        clear HO_283001
        clear BK254
        clear BK268
        clear BK273
        clear BK282
        clear HB
        have HO_9:=n0_
        have HO_269001:=n1_
        have HO_274001:=n2_
        have HO_283001:=n3_
        have HO287:=n4_
        have BK254:=n5_
        have BK268:=n6_
        have BK273:=n7_
        have BK282:=n8_
        have HB:=n9_
        clear n0_ n1_ n2_ n3_ n4_ n5_ n6_ n7_ n8_ n9_
        (try clear hb)
        (try clear hb2)
        (try clear hk)
        (try clear hi)
        (try clear ho0)
        obtain ⟨Ao77,co77,eo77⟩:=Kd.R_slice HO287.out
        (first | subst eo77 | (injection eo77 with f1_ f2_ f3_;have f4_:=f1_.symm;have f5_:=f3_.symm;clear f1_ f2_ f3_;subst f4_;subst f5_))
        refine hK.out _ _ ⟨(zz9 BK273.out 0).trans rfl,(zz9 BK273.out 1).trans rfl,(zz9 BK254.out 0).trans rfl,(zz9 BK254.out 1).trans rfl⟩ (fun hHeld=>?_)
        clear hK K
        refine norm_ (a':=?_) ?_ ?_
        rotate_left
        ·show Act.put _ (some 54) _=_
         simp only [Act.put,zz21,zz22,zz23,i64_w,i32_w]
         rfl
        refine one_ (i:=3) (N:=some 55) #[T,T,T,T,F] rfl rfl (by kernel_rfl) (by decide) (fun K hK=>?_)
        refine goes_ Try.func12 (by kernel_rfl) rfl #[.agg #[.int .i64 t269,.slice Ao36 t270.length co36],.agg #[.int .i64 t284,.slice Ao77 t285.length co77]] (by rfl) rfl rfl (by (try simp only [zz26,zz27,zz28]);first | done | rfl | (simp only [zz24,zz25];rfl)) ?_
        with_reducible refine (laws_eqParty.calls kj15 t269 _ _ t270 t284 _ _ t285 true _ ?side1 ?side2 ?side3 ?side4 A67.out).mono ?_
        (case side1=>repeat (first | exact (Kd.R_reads' HO_274001.out).2.2 | (with_reducible refine zz18 ?_ _) | (with_reducible refine zz19 ?_ _) | (with_reducible refine zz20 ?_)))
        (case side2=>exact (Kd.R_reads' HO_274001.out).2.1)
        (case side3=>repeat (first | exact (Kd.R_reads' HO287.out).2.2 | (with_reducible refine zz18 ?_ _) | (with_reducible refine zz19 ?_ _) | (with_reducible refine zz20 ?_)))
        (case side4=>exact (Kd.R_reads' HO287.out).2.1)
        rintro e w78 ⟨rfl,hb⟩
        refine ⟨_,rfl,?_⟩
        have n0_:=zz31 (Kd.R_below (by (with_reducible repeat (first | apply zz12 | apply zz13 | apply zz14));exact HO_9.out) hb)
        have n1_:=zz31 (Kd.R_below (by (with_reducible repeat (first | apply zz12 | apply zz13 | apply zz14));exact HO_269001.out) hb)
        have n2_:=zz31 (Kd.R_below (by (with_reducible repeat (first | apply zz12 | apply zz13 | apply zz14));exact HO_274001.out) hb)
        have n3_:=zz31 (Kd.R_below (by (with_reducible repeat (first | apply zz12 | apply zz13 | apply zz14));exact HO_283001.out) hb)
        have n4_:=zz31 (Kd.R_below (by (with_reducible repeat (first | apply zz12 | apply zz13 | apply zz14));exact HO287.out) hb)
        have n5_:=zz31 (zz11 (g:=gb254) (o:=.cells #[.int .i64 a0_0,.slice A0_1 l0_1.length c0_1] 24 (0,0)) (by (with_reducible repeat (first | refine zz6 ?_ _ | refine zz7 ?_ | refine zz8 ?_ _));exact BK254.out) hb)
        have n6_:=zz31 (zz11 (g:=gb268) (o:=.cells #[.int .i64 t263,.slice Ao29 t264.length co29] 30 (0,0)) (by (with_reducible repeat (first | refine zz6 ?_ _ | refine zz7 ?_ | refine zz8 ?_ _));exact BK268.out) hb)
        have n7_:=zz31 (zz11 (g:=gb273) (o:=.cells #[.int .i64 t269,.slice Ao36 t270.length co36] 30 (0,0)) (by (with_reducible repeat (first | refine zz6 ?_ _ | refine zz7 ?_ | refine zz8 ?_ _));exact BK273.out) hb)
        have n8_:=zz31 (zz11 (g:=gb282) (o:=.cells #[.int .i64 t277,.slice Ao46 t278.length co46] 30 (0,0)) (by (with_reducible repeat (first | refine zz6 ?_ _ | refine zz7 ?_ | refine zz8 ?_ _));exact BK282.out) hb)
        have n9_:=zz31 (zz4 (by repeat first | exact HB.out | apply zz2 | apply zz0 | apply zz1 | refine zz3 ?_ GE254.out | refine zz3 ?_ GE268.out | refine zz3 ?_ GE273.out | refine zz3 ?_ GE282.out) hb)
        clear HO_9
        clear HO_269001
        clear HO_274001
        clear HO_283001
        clear HO287
        clear BK254
        clear BK268
        clear BK273
        clear BK282
        clear HB
        have HO_9:=n0_
        have HO_269001:=n1_
        have HO_274001:=n2_
        have HO_283001:=n3_
        have HO287:=n4_
        have BK254:=n5_
        have BK268:=n6_
        have BK273:=n7_
        have BK282:=n8_
        have HB:=n9_
        clear n0_ n1_ n2_ n3_ n4_ n5_ n6_ n7_ n8_ n9_
        (try clear hb)
        (try clear hb2)
        (try clear hk)
        (try clear hi)
        refine hK.out _ _ ⟨(zz9 BK273.out 0).trans rfl,(zz9 BK273.out 1).trans rfl,(zz9 BK254.out 0).trans rfl,(zz9 BK254.out 1).trans rfl⟩ (fun hHeld=>?_)
        clear hK K
        refine norm_ (a':=?_) ?_ ?_
        rotate_left
        ·show Act.put _ (some 55) _=_
         simp only [Act.put,zz21,zz22,zz23,i64_w,i32_w]
         rfl
        refine pure_ (i:=4) (N:=some 56) (v:=?_) (a':=?_) #[T,T,T,T,T] rfl rfl (by kernel_rfl) (fun _ _ _ h=>h) (Or.inl ⟨by rfl,?_⟩) ?_ ?_
        rotate_left
        ·intro w'
         go_simp
         with_reducible rfl
        rotate_left
        ·simp only [Act.put,zz21,zz22,zz23,i64_w,i32_w]
         rfl
        refine done_ (by kernel_rfl) ?_
        go_upto_region 20 with (first | ((with_reducible refine gate_callee (f:=20) rfl ?_);refine goesL_ (some 59) rfl rfl Try.func20 (by kernel_rfl) rfl #[.slice A1 l1.length c1] rfl (by (try simp only [zz26,zz27,zz28]);first | done | rfl | (simp only [zz24,zz25];rfl)) ?_;(with_reducible refine (laws_toIntS.calls kj15 _ _ l1 t289 _ ?side1 ?side2 A69.out).mono ?_);(case side1=>repeat (first | exact (Kd.C_below HR1.out HB.out) | (with_reducible refine zz18 ?_ _) | (with_reducible refine zz19 ?_ _) | (with_reducible refine zz20 ?_)));(case side2=>exact HC1.out);rintro e w79 ⟨v290,rfl,ho0,hb⟩;refine ⟨_,rfl,?_⟩;have n0_:=zz31 (Kd.R_elder' (by (with_reducible repeat (first | apply zz12 | apply zz13 | apply zz14));exact HO_9.out) (Kd.R_base ho0) hb);have n1_:=zz31 (Kd.R_below (by (with_reducible repeat (first | apply zz12 | apply zz13 | apply zz14));exact HO_269001.out) hb);have n2_:=zz31 (Kd.R_below (by (with_reducible repeat (first | apply zz12 | apply zz13 | apply zz14));exact HO_274001.out) hb);have n3_:=zz31 (Kd.R_below (by (with_reducible repeat (first | apply zz12 | apply zz13 | apply zz14));exact HO_283001.out) hb);have n4_:=zz31 (Kd.R_below (by (with_reducible repeat (first | apply zz12 | apply zz13 | apply zz14));exact HO287.out) hb);have n5_:=zz31 (Kd.R_lower (Kd.R_new' ho0 (Kd.R_lt (by (with_reducible repeat (first | apply zz12 | apply zz13 | apply zz14));exact HO_9.out))) (zz5 (by repeat first | exact HB.out | apply zz2 | apply zz0 | apply zz1 | refine zz3 ?_ GE254.out | refine zz3 ?_ GE268.out | refine zz3 ?_ GE273.out | refine zz3 ?_ GE282.out)));have n6_:=zz31 (zz11 (g:=gb254) (o:=.cells #[.int .i64 a0_0,.slice A0_1 l0_1.length c0_1] 24 (0,0)) (by (with_reducible repeat (first | refine zz6 ?_ _ | refine zz7 ?_ | refine zz8 ?_ _));exact BK254.out) hb);have n7_:=zz31 (zz11 (g:=gb268) (o:=.cells #[.int .i64 t263,.slice Ao29 t264.length co29] 30 (0,0)) (by (with_reducible repeat (first | refine zz6 ?_ _ | refine zz7 ?_ | refine zz8 ?_ _));exact BK268.out) hb);have n8_:=zz31 (zz11 (g:=gb273) (o:=.cells #[.int .i64 t269,.slice Ao36 t270.length co36] 30 (0,0)) (by (with_reducible repeat (first | refine zz6 ?_ _ | refine zz7 ?_ | refine zz8 ?_ _));exact BK273.out) hb);have n9_:=zz31 (zz11 (g:=gb282) (o:=.cells #[.int .i64 t277,.slice Ao46 t278.length co46] 30 (0,0)) (by (with_reducible repeat (first | refine zz6 ?_ _ | refine zz7 ?_ | refine zz8 ?_ _));exact BK282.out) hb);have n10_:=zz31 (zz4 (by repeat first | exact HB.out | apply zz2 | apply zz0 | apply zz1 | refine zz3 ?_ GE254.out | refine zz3 ?_ GE268.out | refine zz3 ?_ GE273.out | refine zz3 ?_ GE282.out) hb);clear HO_9;clear HO_269001;clear HO_274001;clear HO_283001;clear HO287;clear BK254;clear BK268;clear BK273;clear BK282;clear HB;have HO_9:=n0_;have HO_269001:=n1_;have HO_274001:=n2_;have HO_283001:=n3_;have HO287:=n4_;have HO291:=n5_;have BK254:=n6_;have BK268:=n7_;have BK273:=n8_;have BK282:=n9_;have HB:=n10_;clear n0_ n1_ n2_ n3_ n4_ n5_ n6_ n7_ n8_ n9_ n10_;(try clear hb);(try clear hb2);(try clear hk);(try clear hi);(try clear ho0);obtain ⟨Ao80,co80,eo80⟩:=Kd.R_slice HO291.out;subst eo80) | ((with_reducible refine gate_callee (f:=22) rfl ?_);refine goesL_ (some 60) rfl rfl Try.func22 (by kernel_rfl) rfl #[.slice Ao39 t274.length co39,.slice Ao80 t289.length co80] rfl (by (try simp only [zz26,zz27,zz28]);first | done | rfl | (simp only [zz24,zz25];rfl)) ?_;(with_reducible refine (laws_eqIntS.calls kj15 _ _ t274 _ _ t289 true _ ?side1 ?side2 ?side3 ?side4 A70.out).mono ?_);(case side1=>repeat (first | exact (Kd.R_reads' HO_9.out).2.2 | (with_reducible refine zz18 ?_ _) | (with_reducible refine zz19 ?_ _) | (with_reducible refine zz20 ?_)));(case side2=>exact (Kd.R_reads' HO_9.out).2.1);(case side3=>repeat (first | exact (Kd.R_reads' HO291.out).2.2 | (with_reducible refine zz18 ?_ _) | (with_reducible refine zz19 ?_ _) | (with_reducible refine zz20 ?_)));(case side4=>exact (Kd.R_reads' HO291.out).2.1);rintro e w' ⟨rfl,⟨nd,rfl⟩⟩;refine ⟨_,rfl,?_⟩;have hnb81:=NB273_254.out;have hnc81:=NB254_273.out;have hnb82:=NB273_268.out;have hnc82:=NB268_273.out;have hnb83:=NB273_282.out;have hnc83:=NB282_273.out;have hcz84_0:w79.cell? ⟨gb273,0,none⟩=some (.int .i64 t269):=(zz9 BK273.out 0).trans rfl;have hcz84_1:w79.cell? ⟨gb273,1,none⟩=some (.slice Ao36 t270.length co36):=(zz9 BK273.out 1).trans rfl;have hfz84_0:=zz10 BK273.out 0;have hfz84_1:=zz10 BK273.out 1) | ((with_reducible refine gate_callee (f:=17) rfl ?_);refine goesL_ (some 64) rfl rfl Try.func17 (by kernel_rfl) rfl #[.agg #[.int .i64 t269,.slice Ao36 t270.length co36],.int .i64 1] rfl (by (try simp only [zz26,zz27,zz28]);first | done | rfl | (simp only [zz24,zz25];rfl)) ?_;(with_reducible refine (laws_markParty.calls kj15 t269 (fun k_=>some k_=(.slice Ao36 t270.length co36:Value).ownBlock) (.slice Ao36 t270.length co36) t270 1 t293 t294 w _ ?side1 ?side2 A72.out).mono ?_);(case side1=>repeat first | exact HB.out | apply zz2 | apply zz0 | apply zz1 | refine zz3 ?_ GE254.out | refine zz3 ?_ GE268.out | refine zz3 ?_ GE273.out | refine zz3 ?_ GE282.out);(case side2=>exact Kd.R_tight rfl HO_274001.out);rintro e w85 ⟨rfl,hy0,hb,hkp⟩;refine ⟨_,rfl,?_⟩;have n0_:=zz31 (Kd.R_mono (ok':=fun k_=>some k_ ≠ (.slice Ao80 t289.length co80:Value).ownBlock) (Kd.R_keptB ((Kd.R_apart' HO_9.out (Kd.R_typed HO_274001.out) (by decide))) hkp (fun k_ hk_ hs_=>(hk_.2) hs_)) (fun k_ hk_=>hk_.1.1.2));have n1_:=zz31 (Kd.R_mono (ok':=fun k_=>some k_ ≠ (.slice Ao36 t270.length co36:Value).ownBlock∧some k_ ≠ (.slice Ao46 t278.length co46:Value).ownBlock∧some k_ ≠ (.slice Ao77 t285.length co77:Value).ownBlock) (Kd.R_keptB (HO_269001.out) hkp (fun k_ hk_ hs_=>(hk_.1.1) hs_)) (fun k_ hk_=>⟨hk_.1.1.1,hk_.1.1.2,hk_.1.2⟩));have n2_:=zz31 (Kd.R_reok rfl hy0 (fun k_ e_=>HO_274001.out.1 k_ e_));have n3_:=zz31 (Kd.R_mono (ok':=fun k_=>some k_ ≠ (.slice Ao29 t264.length co29:Value).ownBlock∧some k_ ≠ (.slice Ao36 t270.length co36:Value).ownBlock∧some k_ ≠ (.slice Ao77 t285.length co77:Value).ownBlock) (Kd.R_keptB (HO_283001.out) hkp (fun k_ hk_ hs_=>(hk_.1.2) hs_)) (fun k_ hk_=>⟨hk_.1.1.1,hk_.1.1.2,hk_.1.2⟩));(first | have n4_:=zz31 (blk_kept BK254.out hkp (fun hs_=>(fun e_=>(Kd.R_ne HO_274001.out BK254.out (by decide)) e_) hs_)) | have n4_:=zz31 (blk_kept (by (with_reducible repeat (first | refine zz6 ?_ _ | refine zz7 ?_ | refine zz8 ?_ _));exact BK254.out) hkp (fun hs_=>(fun e_=>(Kd.R_ne HO_274001.out BK254.out (by decide)) e_) hs_)));(first | have n5_:=zz31 (blk_kept BK268.out hkp (fun hs_=>(fun e_=>(Kd.R_ne HO_274001.out BK268.out (by decide)) e_) hs_)) | have n5_:=zz31 (blk_kept (by (with_reducible repeat (first | refine zz6 ?_ _ | refine zz7 ?_ | refine zz8 ?_ _));exact BK268.out) hkp (fun hs_=>(fun e_=>(Kd.R_ne HO_274001.out BK268.out (by decide)) e_) hs_)));(first | have n6_:=zz31 (blk_kept BK273.out hkp (fun hs_=>(fun e_=>(Kd.R_ne HO_274001.out BK273.out (by decide)) e_) hs_)) | have n6_:=zz31 (blk_kept (by (with_reducible repeat (first | refine zz6 ?_ _ | refine zz7 ?_ | refine zz8 ?_ _));exact BK273.out) hkp (fun hs_=>(fun e_=>(Kd.R_ne HO_274001.out BK273.out (by decide)) e_) hs_)));(first | have n7_:=zz31 (blk_kept BK282.out hkp (fun hs_=>(fun e_=>(Kd.R_ne HO_274001.out BK282.out (by decide)) e_) hs_)) | have n7_:=zz31 (blk_kept (by (with_reducible repeat (first | refine zz6 ?_ _ | refine zz7 ?_ | refine zz8 ?_ _));exact BK282.out) hkp (fun hs_=>(fun e_=>(Kd.R_ne HO_274001.out BK282.out (by decide)) e_) hs_)));have n8_:=zz31 (Kd.R_mono (ok':=fun k_=>some k_ ≠ (.slice Ao29 t264.length co29:Value).ownBlock∧some k_ ≠ (.slice Ao36 t270.length co36:Value).ownBlock∧some k_ ≠ (.slice Ao46 t278.length co46:Value).ownBlock) (Kd.R_keptB (HO287.out) hkp (fun k_ hk_ hs_=>(hk_.1.2) hs_)) (fun k_ hk_=>⟨hk_.1.1.1.2,hk_.1.1.2,hk_.1.2⟩));have n9_:=zz31 (Kd.R_mono (ok':=fun k_=>some k_ ≠ (.slice Ao39 t274.length co39:Value).ownBlock) (Kd.R_keptB ((Kd.R_apart' HO291.out (Kd.R_typed HO_274001.out) (by decide))) hkp (fun k_ hk_ hs_=>(hk_.2) hs_)) (fun k_ hk_=>hk_.1.1.2));have n10_:=zz31 (hb);clear HO_9;clear HO_269001;clear HO_274001;clear HO_283001;clear BK254;clear BK268;clear BK273;clear BK282;clear HO287;clear HO291;clear HB;have HO_9:=n0_;have HO_269001:=n1_;have HO_274001:=n2_;have HO_283001:=n3_;have BK254:=n4_;have BK268:=n5_;have BK273:=n6_;have BK282:=n7_;have HO287:=n8_;have HO291:=n9_;have HB:=n10_;clear n0_ n1_ n2_ n3_ n4_ n5_ n6_ n7_ n8_ n9_ n10_;(try clear hb);(try clear hkp);(try clear hy0)) | ((with_reducible refine gate_callee (f:=23) rfl ?_);refine goesL_ (some 67) rfl rfl Try.func23 (by kernel_rfl) rfl #[.slice Ao39 t274.length co39,.int .i64 t293] rfl (by (try simp only [zz26,zz27,zz28]);first | done | rfl | (simp only [zz24,zz25];rfl)) ?_;(with_reducible refine (laws_markIntS.calls kj15 (fun k_=>some k_=(.slice Ao39 t274.length co39:Value).ownBlock) (.slice Ao39 t274.length co39) t274 t293 t295 t296 w _ ?side1 ?side2 A73.out).mono ?_);(case side1=>repeat first | exact HB.out | apply zz2 | apply zz0 | apply zz1 | refine zz3 ?_ GE254.out | refine zz3 ?_ GE268.out | refine zz3 ?_ GE273.out | refine zz3 ?_ GE282.out);(case side2=>exact Kd.R_tight rfl HO_9.out);rintro e w86 ⟨rfl,hy0,hb,hkp⟩;refine ⟨_,rfl,?_⟩;have n0_:=zz31 (Kd.R_reok rfl hy0 (fun k_ e_=>HO_9.out.1 k_ e_));have n1_:=zz31 (Kd.R_mono (ok':=fun k_=>some k_ ≠ (.slice Ao36 t270.length co36:Value).ownBlock∧some k_ ≠ (.slice Ao46 t278.length co46:Value).ownBlock∧some k_ ≠ (.slice Ao77 t285.length co77:Value).ownBlock) (Kd.R_keptB ((Kd.R_apart' HO_269001.out (Kd.R_typed HO_9.out) (by decide))) hkp (fun k_ hk_ hs_=>(hk_.2) hs_)) (fun k_ hk_=>⟨hk_.1.1.1,hk_.1.1.2.1,hk_.1.1.2.2⟩));have n2_:=zz31 (Kd.R_mono (ok':=fun k_=>some k_ ≠ (.slice Ao29 t264.length co29:Value).ownBlock∧some k_ ≠ (.slice Ao46 t278.length co46:Value).ownBlock∧some k_ ≠ (.slice Ao77 t285.length co77:Value).ownBlock) (Kd.R_keptB ((Kd.R_apart' HO_274001.out (Kd.R_typed HO_9.out) (by decide))) hkp (fun k_ hk_ hs_=>(hk_.2) hs_)) (fun k_ hk_=>⟨hk_.1.1.1.1,hk_.1.1.1.2,hk_.1.1.2⟩));have n3_:=zz31 (Kd.R_mono (ok':=fun k_=>some k_ ≠ (.slice Ao29 t264.length co29:Value).ownBlock∧some k_ ≠ (.slice Ao36 t270.length co36:Value).ownBlock∧some k_ ≠ (.slice Ao77 t285.length co77:Value).ownBlock) (Kd.R_keptB ((Kd.R_apart' HO_283001.out (Kd.R_typed HO_9.out) (by decide))) hkp (fun k_ hk_ hs_=>(hk_.2) hs_)) (fun k_ hk_=>⟨hk_.1.1.1,hk_.1.1.2.1,hk_.1.1.2.2⟩));(first | have n4_:=zz31 (blk_kept BK254.out hkp (fun hs_=>(fun e_=>(Kd.R_ne HO_9.out BK254.out (by decide)) e_) hs_)) | have n4_:=zz31 (blk_kept (by (with_reducible repeat (first | refine zz6 ?_ _ | refine zz7 ?_ | refine zz8 ?_ _));exact BK254.out) hkp (fun hs_=>(fun e_=>(Kd.R_ne HO_9.out BK254.out (by decide)) e_) hs_)));(first | have n5_:=zz31 (blk_kept BK268.out hkp (fun hs_=>(fun e_=>(Kd.R_ne HO_9.out BK268.out (by decide)) e_) hs_)) | have n5_:=zz31 (blk_kept (by (with_reducible repeat (first | refine zz6 ?_ _ | refine zz7 ?_ | refine zz8 ?_ _));exact BK268.out) hkp (fun hs_=>(fun e_=>(Kd.R_ne HO_9.out BK268.out (by decide)) e_) hs_)));(first | have n6_:=zz31 (blk_kept BK273.out hkp (fun hs_=>(fun e_=>(Kd.R_ne HO_9.out BK273.out (by decide)) e_) hs_)) | have n6_:=zz31 (blk_kept (by (with_reducible repeat (first | refine zz6 ?_ _ | refine zz7 ?_ | refine zz8 ?_ _));exact BK273.out) hkp (fun hs_=>(fun e_=>(Kd.R_ne HO_9.out BK273.out (by decide)) e_) hs_)));(first | have n7_:=zz31 (blk_kept BK282.out hkp (fun hs_=>(fun e_=>(Kd.R_ne HO_9.out BK282.out (by decide)) e_) hs_)) | have n7_:=zz31 (blk_kept (by (with_reducible repeat (first | refine zz6 ?_ _ | refine zz7 ?_ | refine zz8 ?_ _));exact BK282.out) hkp (fun hs_=>(fun e_=>(Kd.R_ne HO_9.out BK282.out (by decide)) e_) hs_)));have n8_:=zz31 (Kd.R_mono (ok':=fun k_=>some k_ ≠ (.slice Ao29 t264.length co29:Value).ownBlock∧some k_ ≠ (.slice Ao36 t270.length co36:Value).ownBlock∧some k_ ≠ (.slice Ao46 t278.length co46:Value).ownBlock) (Kd.R_keptB ((Kd.R_apart' HO287.out (Kd.R_typed HO_9.out) (by decide))) hkp (fun k_ hk_ hs_=>(hk_.2) hs_)) (fun k_ hk_=>⟨hk_.1.1.1,hk_.1.1.2.1,hk_.1.1.2.2⟩));have n9_:=zz31 (Kd.R_mono (ok':=fun k_=>some k_ ≠ (.slice Ao39 t274.length co39:Value).ownBlock) (Kd.R_keptB (HO291.out) hkp (fun k_ hk_ hs_=>(hk_) hs_)) (fun k_ hk_=>hk_.1));have n10_:=zz31 (hb);clear HO_9;clear HO_269001;clear HO_274001;clear HO_283001;clear BK254;clear BK268;clear BK273;clear BK282;clear HO287;clear HO291;clear HB;have HO_9:=n0_;have HO_269001:=n1_;have HO_274001:=n2_;have HO_283001:=n3_;have BK254:=n4_;have BK268:=n5_;have BK273:=n6_;have BK282:=n7_;have HO287:=n8_;have HO291:=n9_;have HB:=n10_;clear n0_ n1_ n2_ n3_ n4_ n5_ n6_ n7_ n8_ n9_ n10_;(try clear hb);(try clear hkp);(try clear hy0)))
        (try simp only [Act.put,zz21,zz22,zz23])
        go_cut [80] (fun v80 wc=>∃ (kq:Nat) (x80_73:Bool),v80=.bool x80_73∧Aside0 (laws_FnExactRenameParty.j1 kq l1 t267 x80_73 a0_0 l0_1 t263 t264 t277 t278=some r)∧Aside0 (kq≤kj15)∧Aside0 (Kd.R k70 70 wc w.heap.size (fun k_=>some k_ ≠ ((.slice Ao36 t270.length co36):Value).ownBlock∧some k_ ≠ ((.slice Ao46 t278.length co46):Value).ownBlock) (.slice Ao29 t264.length co29) t264)∧Aside0 (Kd.R k70 70 wc w.heap.size (fun k_=>some k_ ≠ ((.slice Ao29 t264.length co29):Value).ownBlock∧some k_ ≠ ((.slice Ao46 t278.length co46):Value).ownBlock) (.slice Ao36 t270.length co36) t294)∧Aside0 (Kd.R k70 70 wc w.heap.size (fun k_=>some k_ ≠ ((.slice Ao29 t264.length co29):Value).ownBlock∧some k_ ≠ ((.slice Ao36 t270.length co36):Value).ownBlock) (.slice Ao46 t278.length co46) t278)∧Aside0 (wc.heap[gb254]?=some (.cells #[.int .i64 a0_0,(.slice A0_1 l0_1.length c0_1)] 24 (0,0)))∧Aside0 (wc.heap[gb268]?=some (.cells #[.int .i64 t263,(.slice Ao29 t264.length co29)] 30 (0,0)))∧Aside0 (wc.heap[gb273]?=some (.cells #[.int .i64 t269,(.slice Ao36 t270.length co36)] 30 (0,0)))∧Aside0 (wc.heap[gb282]?=some (.cells #[.int .i64 t277,(.slice Ao46 t278.length co46)] 30 (0,0)))∧Aside0 (Below w.heap.size w wc))
        case first =>
         have H:=HC74.out
         clear HC74
         by_cases c87:t295 < 0
         ·rw [if_pos c87] at H
          have c87b0:decide (t295 < 0)=true:=decide_eq_true c87
          clear c87
          (first | rw [c87b0] | (simp only [i64_w,i32_w];rw [c87b0]) | skip)
          have H':=zz31 H
          clear H
          go_wp2
          go_meet
          case rel=>exact ⟨_,(true),(by first | rfl | (simp;done) | (simp [*];done)),H',⟨by have:=HJ15.out;first | omega | exact Nat.le_refl _⟩,⟨by (with_reducible repeat (first | apply zz12 | apply zz13 | apply zz14));exact Kd.R_mono HO_269001.out (fun _ hk=>⟨hk.1,hk.2.1⟩)⟩,⟨by (with_reducible repeat (first | apply zz12 | apply zz13 | apply zz14));exact Kd.R_mono HO_274001.out (fun _ hk=>⟨hk.1,hk.2.1⟩)⟩,⟨by (with_reducible repeat (first | apply zz12 | apply zz13 | apply zz14));exact Kd.R_mono HO_283001.out (fun _ hk=>⟨hk.1,hk.2.1⟩)⟩,⟨by (with_reducible repeat (first | refine zz6 ?_ _ | refine zz7 ?_ | refine zz8 ?_ _));exact BK254.out⟩,⟨by (with_reducible repeat (first | refine zz6 ?_ _ | refine zz7 ?_ | refine zz8 ?_ _));exact BK268.out⟩,⟨by (with_reducible repeat (first | refine zz6 ?_ _ | refine zz7 ?_ | refine zz8 ?_ _));exact BK273.out⟩,⟨by (with_reducible repeat (first | refine zz6 ?_ _ | refine zz7 ?_ | refine zz8 ?_ _));exact BK282.out⟩,⟨by repeat first | exact HB.out | apply zz2 | apply zz0 | apply zz1 | refine zz3 ?_ GE254.out | refine zz3 ?_ GE268.out | refine zz3 ?_ GE273.out | refine zz3 ?_ GE282.out⟩⟩
         ·rw [if_neg c87] at H
          have c87b0:decide (t295 < 0)=false:=decide_eq_false c87
          clear c87
          (first | rw [c87b0] | (simp only [i64_w,i32_w];rw [c87b0]) | skip)
          replace H:=zz30.mp H
          obtain ⟨t297,A880,H⟩:=H
          replace H:(if t297=true then (laws_FnExactRenameParty.j1 kj15 l1 t267 (t281 != t267) a0_0 l0_1 t263 t264 t277 t278) else (laws_FnExactRenameParty.j1 kj15 l1 t267 true a0_0 l0_1 t263 t264 t277 t278))=some r:=H
          have A88:=zz31 A880
          clear A880
          by_cases c89:t297=true
          ·subst c89
           have H1:(laws_FnExactRenameParty.j1 kj15 l1 t267 (t281 != t267) a0_0 l0_1 t263 t264 t277 t278)=some r:=by rw [if_pos rfl] at H;exact H
           clear H
           have H:=H1
           clear H1
           have H':=zz31 H
           clear H
           have hnb90:=NB282_254.out
           have hnc90:=NB254_282.out
           have hnb91:=NB282_268.out
           have hnc91:=NB268_282.out
           have hnb92:=NB282_273.out
           have hnc92:=NB273_282.out
           have hcz93_0:w86.cell? ⟨gb282,0,none⟩=some (.int .i64 t277):=(zz9 BK282.out 0).trans rfl
           have hcz93_1:w86.cell? ⟨gb282,1,none⟩=some (.slice Ao46 t278.length co46):=(zz9 BK282.out 1).trans rfl
           have hfz93_0:=zz10 BK282.out 0
           have hfz93_1:=zz10 BK282.out 1
           have hnb94:=NB268_254.out
           have hnc94:=NB254_268.out
           have hnb95:=NB268_273.out
           have hnc95:=NB273_268.out
           have hcz96_0:w86.cell? ⟨gb268,0,none⟩=some (.int .i64 t263):=(zz9 BK268.out 0).trans rfl
           have hcz96_1:w86.cell? ⟨gb268,1,none⟩=some (.slice Ao29 t264.length co29):=(zz9 BK268.out 1).trans rfl
           have hfz96_0:=zz10 BK268.out 0
           have hfz96_1:=zz10 BK268.out 1
           go_wp2_with (first | (go_at_call 12;(with_reducible refine (laws_eqParty.calls kj15 t277 _ _ t278 t263 _ _ t264 true _ ?side1 ?side2 ?side3 ?side4 A88.out).mono ?_);(case side1=>repeat (first | exact (Kd.R_reads' HO_283001.out).2.2 | (with_reducible refine zz18 ?_ _) | (with_reducible refine zz19 ?_ _) | (with_reducible refine zz20 ?_)));(case side2=>exact (Kd.R_reads' HO_283001.out).2.1);(case side3=>repeat (first | exact (Kd.R_reads' HO_269001.out).2.2 | (with_reducible refine zz18 ?_ _) | (with_reducible refine zz19 ?_ _) | (with_reducible refine zz20 ?_)));(case side4=>exact (Kd.R_reads' HO_269001.out).2.1);rintro e w97 ⟨rfl,hb⟩;have n0_:=zz31 (Kd.R_below (by (with_reducible repeat (first | apply zz12 | apply zz13 | apply zz14));exact HO_9.out) hb);have n1_:=zz31 (Kd.R_below (by (with_reducible repeat (first | apply zz12 | apply zz13 | apply zz14));exact HO_269001.out) hb);have n2_:=zz31 (Kd.R_below (by (with_reducible repeat (first | apply zz12 | apply zz13 | apply zz14));exact HO_274001.out) hb);have n3_:=zz31 (Kd.R_below (by (with_reducible repeat (first | apply zz12 | apply zz13 | apply zz14));exact HO_283001.out) hb);have n4_:=zz31 (Kd.R_below (by (with_reducible repeat (first | apply zz12 | apply zz13 | apply zz14));exact HO287.out) hb);have n5_:=zz31 (Kd.R_below (by (with_reducible repeat (first | apply zz12 | apply zz13 | apply zz14));exact HO291.out) hb);have n6_:=zz31 (zz11 (g:=gb254) (o:=.cells #[.int .i64 a0_0,.slice A0_1 l0_1.length c0_1] 24 (0,0)) (by (with_reducible repeat (first | refine zz6 ?_ _ | refine zz7 ?_ | refine zz8 ?_ _));exact BK254.out) hb);have n7_:=zz31 (zz11 (g:=gb268) (o:=.cells #[.int .i64 t263,.slice Ao29 t264.length co29] 30 (0,0)) (by (with_reducible repeat (first | refine zz6 ?_ _ | refine zz7 ?_ | refine zz8 ?_ _));exact BK268.out) hb);have n8_:=zz31 (zz11 (g:=gb273) (o:=.cells #[.int .i64 t269,.slice Ao36 t270.length co36] 30 (0,0)) (by (with_reducible repeat (first | refine zz6 ?_ _ | refine zz7 ?_ | refine zz8 ?_ _));exact BK273.out) hb);have n9_:=zz31 (zz11 (g:=gb282) (o:=.cells #[.int .i64 t277,.slice Ao46 t278.length co46] 30 (0,0)) (by (with_reducible repeat (first | refine zz6 ?_ _ | refine zz7 ?_ | refine zz8 ?_ _));exact BK282.out) hb);have n10_:=zz31 (zz4 (by repeat first | exact HB.out | apply zz2 | apply zz0 | apply zz1 | refine zz3 ?_ GE254.out | refine zz3 ?_ GE268.out | refine zz3 ?_ GE273.out | refine zz3 ?_ GE282.out) hb);clear HO_9;clear HO_269001;clear HO_274001;clear HO_283001;clear HO287;clear HO291;clear BK254;clear BK268;clear BK273;clear BK282;clear HB;have HO_9:=n0_;have HO_269001:=n1_;have HO_274001:=n2_;have HO_283001:=n3_;have HO287:=n4_;have HO291:=n5_;have BK254:=n6_;have BK268:=n7_;have BK273:=n8_;have BK282:=n9_;have HB:=n10_;clear n0_ n1_ n2_ n3_ n4_ n5_ n6_ n7_ n8_ n9_ n10_;(try clear hb);(try clear hb2);(try clear hk);(try clear hi)))
           go_meet
           case rel=>exact ⟨_,((t281 != t267)),(by first | rfl | (simp;done) | (simp [*];done)),H',⟨by have:=HJ15.out;first | omega | exact Nat.le_refl _⟩,⟨by (with_reducible repeat (first | apply zz12 | apply zz13 | apply zz14));exact Kd.R_mono HO_269001.out (fun _ hk=>⟨hk.1,hk.2.1⟩)⟩,⟨by (with_reducible repeat (first | apply zz12 | apply zz13 | apply zz14));exact Kd.R_mono HO_274001.out (fun _ hk=>⟨hk.1,hk.2.1⟩)⟩,⟨by (with_reducible repeat (first | apply zz12 | apply zz13 | apply zz14));exact Kd.R_mono HO_283001.out (fun _ hk=>⟨hk.1,hk.2.1⟩)⟩,⟨by (with_reducible repeat (first | refine zz6 ?_ _ | refine zz7 ?_ | refine zz8 ?_ _));exact BK254.out⟩,⟨by (with_reducible repeat (first | refine zz6 ?_ _ | refine zz7 ?_ | refine zz8 ?_ _));exact BK268.out⟩,⟨by (with_reducible repeat (first | refine zz6 ?_ _ | refine zz7 ?_ | refine zz8 ?_ _));exact BK273.out⟩,⟨by (with_reducible repeat (first | refine zz6 ?_ _ | refine zz7 ?_ | refine zz8 ?_ _));exact BK282.out⟩,⟨by repeat first | exact HB.out | apply zz2 | apply zz0 | apply zz1 | refine zz3 ?_ GE254.out | refine zz3 ?_ GE268.out | refine zz3 ?_ GE273.out | refine zz3 ?_ GE282.out⟩⟩
          ·replace c89:=Bool.eq_false_iff.mpr c89
           subst c89
           have H1:(laws_FnExactRenameParty.j1 kj15 l1 t267 true a0_0 l0_1 t263 t264 t277 t278)=some r:=by rw [if_neg (show ¬ (false=true) by decide)] at H;exact H
           clear H
           have H:=H1
           clear H1
           have H':=zz31 H
           clear H
           have hnb98:=NB282_254.out
           have hnc98:=NB254_282.out
           have hnb99:=NB282_268.out
           have hnc99:=NB268_282.out
           have hnb100:=NB282_273.out
           have hnc100:=NB273_282.out
           have hcz101_0:w86.cell? ⟨gb282,0,none⟩=some (.int .i64 t277):=(zz9 BK282.out 0).trans rfl
           have hcz101_1:w86.cell? ⟨gb282,1,none⟩=some (.slice Ao46 t278.length co46):=(zz9 BK282.out 1).trans rfl
           have hfz101_0:=zz10 BK282.out 0
           have hfz101_1:=zz10 BK282.out 1
           have hnb102:=NB268_254.out
           have hnc102:=NB254_268.out
           have hnb103:=NB268_273.out
           have hnc103:=NB273_268.out
           have hcz104_0:w86.cell? ⟨gb268,0,none⟩=some (.int .i64 t263):=(zz9 BK268.out 0).trans rfl
           have hcz104_1:w86.cell? ⟨gb268,1,none⟩=some (.slice Ao29 t264.length co29):=(zz9 BK268.out 1).trans rfl
           have hfz104_0:=zz10 BK268.out 0
           have hfz104_1:=zz10 BK268.out 1
           go_wp2_with (first | (go_at_call 12;(with_reducible refine (laws_eqParty.calls kj15 t277 _ _ t278 t263 _ _ t264 false _ ?side1 ?side2 ?side3 ?side4 A88.out).mono ?_);(case side1=>repeat (first | exact (Kd.R_reads' HO_283001.out).2.2 | (with_reducible refine zz18 ?_ _) | (with_reducible refine zz19 ?_ _) | (with_reducible refine zz20 ?_)));(case side2=>exact (Kd.R_reads' HO_283001.out).2.1);(case side3=>repeat (first | exact (Kd.R_reads' HO_269001.out).2.2 | (with_reducible refine zz18 ?_ _) | (with_reducible refine zz19 ?_ _) | (with_reducible refine zz20 ?_)));(case side4=>exact (Kd.R_reads' HO_269001.out).2.1);rintro e w105 ⟨rfl,hb⟩;have n0_:=zz31 (Kd.R_below (by (with_reducible repeat (first | apply zz12 | apply zz13 | apply zz14));exact HO_9.out) hb);have n1_:=zz31 (Kd.R_below (by (with_reducible repeat (first | apply zz12 | apply zz13 | apply zz14));exact HO_269001.out) hb);have n2_:=zz31 (Kd.R_below (by (with_reducible repeat (first | apply zz12 | apply zz13 | apply zz14));exact HO_274001.out) hb);have n3_:=zz31 (Kd.R_below (by (with_reducible repeat (first | apply zz12 | apply zz13 | apply zz14));exact HO_283001.out) hb);have n4_:=zz31 (Kd.R_below (by (with_reducible repeat (first | apply zz12 | apply zz13 | apply zz14));exact HO287.out) hb);have n5_:=zz31 (Kd.R_below (by (with_reducible repeat (first | apply zz12 | apply zz13 | apply zz14));exact HO291.out) hb);have n6_:=zz31 (zz11 (g:=gb254) (o:=.cells #[.int .i64 a0_0,.slice A0_1 l0_1.length c0_1] 24 (0,0)) (by (with_reducible repeat (first | refine zz6 ?_ _ | refine zz7 ?_ | refine zz8 ?_ _));exact BK254.out) hb);have n7_:=zz31 (zz11 (g:=gb268) (o:=.cells #[.int .i64 t263,.slice Ao29 t264.length co29] 30 (0,0)) (by (with_reducible repeat (first | refine zz6 ?_ _ | refine zz7 ?_ | refine zz8 ?_ _));exact BK268.out) hb);have n8_:=zz31 (zz11 (g:=gb273) (o:=.cells #[.int .i64 t269,.slice Ao36 t270.length co36] 30 (0,0)) (by (with_reducible repeat (first | refine zz6 ?_ _ | refine zz7 ?_ | refine zz8 ?_ _));exact BK273.out) hb);have n9_:=zz31 (zz11 (g:=gb282) (o:=.cells #[.int .i64 t277,.slice Ao46 t278.length co46] 30 (0,0)) (by (with_reducible repeat (first | refine zz6 ?_ _ | refine zz7 ?_ | refine zz8 ?_ _));exact BK282.out) hb);have n10_:=zz31 (zz4 (by repeat first | exact HB.out | apply zz2 | apply zz0 | apply zz1 | refine zz3 ?_ GE254.out | refine zz3 ?_ GE268.out | refine zz3 ?_ GE273.out | refine zz3 ?_ GE282.out) hb);clear HO_9;clear HO_269001;clear HO_274001;clear HO_283001;clear HO287;clear HO291;clear BK254;clear BK268;clear BK273;clear BK282;clear HB;have HO_9:=n0_;have HO_269001:=n1_;have HO_274001:=n2_;have HO_283001:=n3_;have HO287:=n4_;have HO291:=n5_;have BK254:=n6_;have BK268:=n7_;have BK273:=n8_;have BK282:=n9_;have HB:=n10_;clear n0_ n1_ n2_ n3_ n4_ n5_ n6_ n7_ n8_ n9_ n10_;(try clear hb);(try clear hb2);(try clear hk);(try clear hi)))
           go_meet
           case rel=>exact ⟨_,(true),(by first | rfl | (simp;done) | (simp [*];done)),H',⟨by have:=HJ15.out;first | omega | exact Nat.le_refl _⟩,⟨by (with_reducible repeat (first | apply zz12 | apply zz13 | apply zz14));exact Kd.R_mono HO_269001.out (fun _ hk=>⟨hk.1,hk.2.1⟩)⟩,⟨by (with_reducible repeat (first | apply zz12 | apply zz13 | apply zz14));exact Kd.R_mono HO_274001.out (fun _ hk=>⟨hk.1,hk.2.1⟩)⟩,⟨by (with_reducible repeat (first | apply zz12 | apply zz13 | apply zz14));exact Kd.R_mono HO_283001.out (fun _ hk=>⟨hk.1,hk.2.1⟩)⟩,⟨by (with_reducible repeat (first | refine zz6 ?_ _ | refine zz7 ?_ | refine zz8 ?_ _));exact BK254.out⟩,⟨by (with_reducible repeat (first | refine zz6 ?_ _ | refine zz7 ?_ | refine zz8 ?_ _));exact BK268.out⟩,⟨by (with_reducible repeat (first | refine zz6 ?_ _ | refine zz7 ?_ | refine zz8 ?_ _));exact BK273.out⟩,⟨by (with_reducible repeat (first | refine zz6 ?_ _ | refine zz7 ?_ | refine zz8 ?_ _));exact BK282.out⟩,⟨by repeat first | exact HB.out | apply zz2 | apply zz0 | apply zz1 | refine zz3 ?_ GE254.out | refine zz3 ?_ GE268.out | refine zz3 ?_ GE273.out | refine zz3 ?_ GE282.out⟩⟩
        case rest =>
         clear HC74
         try clear c1
         try clear c2
         try clear p2
         try clear c3
         try clear c3b0
         try clear c3b1
         try clear c4
         try clear c5
         try clear c6
         try clear c6b0
         try clear c7
         try clear c8
         try clear c9
         try clear c10
         try clear c12
         try clear c17
         try clear c19
         try clear c20
         try clear c21
         try clear c22
         try clear c23
         try clear c27
         try clear c33
         try clear c34
         try clear c42
         try clear c43
         try clear c44
         try clear c48
         try clear c49
         try clear c50
         try clear c51
         try clear c53
         try clear c54
         try clear c57
         try clear c58
         try clear c59
         try clear c61
         try clear c62
         try clear c65
         try clear c68
         try clear c71
         try clear c81
         try clear c82
         try clear c83
         try clear c87
         try clear c87b0
         try clear c89
         try clear c90
         try clear c91
         try clear c92
         try clear c94
         try clear c95
         try clear c98
         try clear c99
         try clear c100
         try clear c102
         try clear c103
         try clear hcz101_0
         try clear hcz101_1
         try clear hcz104_0
         try clear hcz104_1
         try clear hcz18_0
         try clear hcz18_1
         try clear hcz20_0
         try clear hcz20_1
         try clear hcz28_0
         try clear hcz28_1
         try clear hcz30_0
         try clear hcz30_1
         try clear hcz35_0
         try clear hcz35_1
         try clear hcz38_0
         try clear hcz38_1
         try clear hcz45_0
         try clear hcz45_1
         try clear hcz52_0
         try clear hcz52_1
         try clear hcz55_0
         try clear hcz55_1
         try clear hcz60_0
         try clear hcz60_1
         try clear hcz63_0
         try clear hcz63_1
         try clear hcz84_0
         try clear hcz84_1
         try clear hcz8_0
         try clear hcz8_1
         try clear hcz93_0
         try clear hcz93_1
         try clear hcz96_0
         try clear hcz96_1
         try clear hfz101_0
         try clear hfz101_1
         try clear hfz104_0
         try clear hfz104_1
         try clear hfz18_0
         try clear hfz18_1
         try clear hfz20_0
         try clear hfz20_1
         try clear hfz28_0
         try clear hfz28_1
         try clear hfz30_0
         try clear hfz30_1
         try clear hfz35_0
         try clear hfz35_1
         try clear hfz38_0
         try clear hfz38_1
         try clear hfz45_0
         try clear hfz45_1
         try clear hfz52_0
         try clear hfz52_1
         try clear hfz55_0
         try clear hfz55_1
         try clear hfz60_0
         try clear hfz60_1
         try clear hfz63_0
         try clear hfz63_1
         try clear hfz84_0
         try clear hfz84_1
         try clear hfz8_0
         try clear hfz8_1
         try clear hfz93_0
         try clear hfz93_1
         try clear hfz96_0
         try clear hfz96_1
         try clear p2
         obtain ⟨kq,x80_73,rfl,HA,HJ73,HO_269001,HO_274001,HO_283001,BK254,BK268,BK273,BK282,HB⟩:=hcut
         have hl274001_73:=(Kd.R_reads' HO_274001.out).1
         rw [hl274001_73] at HO_274001
         (try simp only [hl274001_73])
         (try simp only [hl274001_73] at BK254)
         (try simp only [hl274001_73] at BK268)
         (try simp only [hl274001_73] at BK273)
         (try simp only [hl274001_73] at BK282)
         (try simp only [hl274001_73] at HO_269001)
         (try simp only [hl274001_73] at HO_283001)
         cases kq with
         | zero=>exact absurd HA.out (by simp [laws_FnExactRenameParty.j1])
         | succ kj73 =>
          have H:=HA.out
          clear HA
          simp only [laws_FnExactRenameParty.j1] at H
          by_cases c106:x80_73=true
          ·subst c106
           have H1:(some false)=some r:=by rw [if_pos rfl] at H;exact H
           clear H
           have H:=H1
           clear H1
           obtain rfl:=Option.some.inj H
           go_wp2
           go_ret
           exact ⟨by first | rfl | (simp [errW_none,errW_some] <;> rfl) | (simp [*,errW_none,errW_some] <;> rfl),by repeat first | exact HB.out | apply zz2 | apply zz0 | apply zz1 | refine zz3 ?_ GE254.out | refine zz3 ?_ GE268.out | refine zz3 ?_ GE273.out | refine zz3 ?_ GE282.out⟩
          ·replace c106:=Bool.eq_false_iff.mpr c106
           subst c106
           have H1:((laws_markParty.f kj73 t277 t278 1).bind fun bt298=>((laws_heldParty.f kj73 t277 bt298.2 1).bind fun t300=>(if t300 < 0 then (some false) else (if t300=bt298.1 then ((laws_toParty.f kj73 a0_0 l0_1).bind fun bt301=>((laws_toIntS.f kj73 l1).bind fun t305=>((impl_RenameParty.f kj73 bt301.1 bt301.2 t305).bind fun bt308=>((laws_eqParty.f kj73 bt308.1 bt308.2.1 t263 t264).bind fun t314=>(if t314=true then (laws_FnExactRenameParty.j2 kj73 bt298.1 (bt308.2.2 != t267) t277 bt298.2) else (laws_FnExactRenameParty.j2 kj73 bt298.1 true t277 bt298.2)))))) else (some false)))))=some r:=by rw [if_neg (show ¬ (false=true) by decide)] at H;exact H
           clear H
           have H:=H1
           clear H1
           replace H:=zz30.mp H
           obtain ⟨⟨t298,t299⟩,A1070,H⟩:=H
           replace H:((laws_heldParty.f kj73 t277 t299 1).bind fun t300=>(if t300 < 0 then (some false) else (if t300=t298 then ((laws_toParty.f kj73 a0_0 l0_1).bind fun bt301=>((laws_toIntS.f kj73 l1).bind fun t305=>((impl_RenameParty.f kj73 bt301.1 bt301.2 t305).bind fun bt308=>((laws_eqParty.f kj73 bt308.1 bt308.2.1 t263 t264).bind fun t314=>(if t314=true then (laws_FnExactRenameParty.j2 kj73 t298 (bt308.2.2 != t267) t277 t299) else (laws_FnExactRenameParty.j2 kj73 t298 true t277 t299)))))) else (some false))))=some r:=H
           have A107:=zz31 A1070
           clear A1070
           replace H:=zz30.mp H
           obtain ⟨t300,A1080,H⟩:=H
           replace H:(if t300 < 0 then (some false) else (if t300=t298 then ((laws_toParty.f kj73 a0_0 l0_1).bind fun bt301=>((laws_toIntS.f kj73 l1).bind fun t305=>((impl_RenameParty.f kj73 bt301.1 bt301.2 t305).bind fun bt308=>((laws_eqParty.f kj73 bt308.1 bt308.2.1 t263 t264).bind fun t314=>(if t314=true then (laws_FnExactRenameParty.j2 kj73 t298 (bt308.2.2 != t267) t277 t299) else (laws_FnExactRenameParty.j2 kj73 t298 true t277 t299)))))) else (some false)))=some r:=H
           have A108:=zz31 A1080
           clear A1080
           by_cases c109:t300 < 0
           ·rw [if_pos c109] at H
            have c109b0:decide (t300 < 0)=true:=decide_eq_true c109
            clear c109
            obtain rfl:=Option.some.inj H
            have hnb110:=NB282_254.out
            have hnc110:=NB254_282.out
            have hnb111:=NB282_268.out
            have hnc111:=NB268_282.out
            have hnb112:=NB282_273.out
            have hnc112:=NB273_282.out
            have hcz113_0:wc.cell? ⟨gb282,0,none⟩=some (.int .i64 t277):=(zz9 BK282.out 0).trans rfl
            have hcz113_1:wc.cell? ⟨gb282,1,none⟩=some (.slice Ao46 t278.length co46):=(zz9 BK282.out 1).trans rfl
            have hfz113_0:=zz10 BK282.out 0
            have hfz113_1:=zz10 BK282.out 1
            go_wp2_with (first | ((with_reducible refine gate_callee (f:=17) rfl ?_);refine goesL_ (some 83) rfl rfl Try.func17 (by kernel_rfl) rfl #[.agg #[.int .i64 t277,.slice Ao46 t278.length co46],.int .i64 1] rfl (by (try simp only [zz26,zz27,zz28]);first | done | rfl | (simp only [zz24,zz25];rfl)) ?_;(with_reducible refine (laws_markParty.calls kj73 t277 (fun k_=>some k_=(.slice Ao46 t278.length co46:Value).ownBlock) (.slice Ao46 t278.length co46) t278 1 t298 t299 w _ ?side1 ?side2 A107.out).mono ?_);(case side1=>repeat first | exact HB.out | apply zz2 | apply zz0 | apply zz1 | refine zz3 ?_ GE254.out | refine zz3 ?_ GE268.out | refine zz3 ?_ GE273.out | refine zz3 ?_ GE282.out);(case side2=>exact Kd.R_tight rfl HO_283001.out);rintro e w114 ⟨rfl,hy0,hb,hkp⟩;refine ⟨_,rfl,?_⟩;have n0_:=zz31 (Kd.R_mono (ok':=fun k_=>some k_ ≠ (.slice Ao36 t294.length co36:Value).ownBlock∧some k_ ≠ (.slice Ao46 t278.length co46:Value).ownBlock) (Kd.R_keptB (HO_269001.out) hkp (fun k_ hk_ hs_=>(hk_.2) hs_)) (fun k_ hk_=>⟨hk_.1.1,hk_.1.2⟩));have n1_:=zz31 (Kd.R_mono (ok':=fun k_=>some k_ ≠ (.slice Ao29 t264.length co29:Value).ownBlock∧some k_ ≠ (.slice Ao46 t278.length co46:Value).ownBlock) (Kd.R_keptB (HO_274001.out) hkp (fun k_ hk_ hs_=>(hk_.2) hs_)) (fun k_ hk_=>⟨hk_.1.1,hk_.1.2⟩));have n2_:=zz31 (Kd.R_reok rfl hy0 (fun k_ e_=>HO_283001.out.1 k_ e_));(first | have n3_:=zz31 (blk_kept BK254.out hkp (fun hs_=>(fun e_=>(Kd.R_ne HO_283001.out BK254.out (by decide)) e_) hs_)) | have n3_:=zz31 (blk_kept (by (with_reducible repeat (first | refine zz6 ?_ _ | refine zz7 ?_ | refine zz8 ?_ _));exact BK254.out) hkp (fun hs_=>(fun e_=>(Kd.R_ne HO_283001.out BK254.out (by decide)) e_) hs_)));(first | have n4_:=zz31 (blk_kept BK268.out hkp (fun hs_=>(fun e_=>(Kd.R_ne HO_283001.out BK268.out (by decide)) e_) hs_)) | have n4_:=zz31 (blk_kept (by (with_reducible repeat (first | refine zz6 ?_ _ | refine zz7 ?_ | refine zz8 ?_ _));exact BK268.out) hkp (fun hs_=>(fun e_=>(Kd.R_ne HO_283001.out BK268.out (by decide)) e_) hs_)));(first | have n5_:=zz31 (blk_kept BK273.out hkp (fun hs_=>(fun e_=>(Kd.R_ne HO_283001.out BK273.out (by decide)) e_) hs_)) | have n5_:=zz31 (blk_kept (by (with_reducible repeat (first | refine zz6 ?_ _ | refine zz7 ?_ | refine zz8 ?_ _));exact BK273.out) hkp (fun hs_=>(fun e_=>(Kd.R_ne HO_283001.out BK273.out (by decide)) e_) hs_)));(first | have n6_:=zz31 (blk_kept BK282.out hkp (fun hs_=>(fun e_=>(Kd.R_ne HO_283001.out BK282.out (by decide)) e_) hs_)) | have n6_:=zz31 (blk_kept (by (with_reducible repeat (first | refine zz6 ?_ _ | refine zz7 ?_ | refine zz8 ?_ _));exact BK282.out) hkp (fun hs_=>(fun e_=>(Kd.R_ne HO_283001.out BK282.out (by decide)) e_) hs_)));have n7_:=zz31 (hb);clear HO_269001;clear HO_274001;clear HO_283001;clear BK254;clear BK268;clear BK273;clear BK282;clear HB;have HO_269001:=n0_;have HO_274001:=n1_;have HO_283001:=n2_;have BK254:=n3_;have BK268:=n4_;have BK273:=n5_;have BK282:=n6_;have HB:=n7_;clear n0_ n1_ n2_ n3_ n4_ n5_ n6_ n7_;(try clear hb);(try clear hkp);(try clear hy0);have hcz115_0:w114.cell? ⟨gb282,0,none⟩=some (.int .i64 t277):=(zz9 BK282.out 0).trans rfl;have hcz115_1:w114.cell? ⟨gb282,1,none⟩=some (.slice Ao46 t278.length co46):=(zz9 BK282.out 1).trans rfl;have hfz115_0:=zz10 BK282.out 0;have hfz115_1:=zz10 BK282.out 1) | ((with_reducible refine gate_callee (f:=18) rfl ?_);refine goesL_ (some 86) rfl rfl Try.func18 (by kernel_rfl) rfl #[.agg #[.int .i64 t277,.slice Ao46 t299.length co46],.int .i64 1] rfl (by (try simp only [zz26,zz27,zz28]);first | done | (rw [show t299.length=t278.length from (Kd.R_reads' HO_283001.out).1.symm] <;> rfl) | rfl | (simp only [zz24,zz25];rfl)) ?_;(with_reducible refine (laws_heldParty.calls kj73 t277 _ _ t299 1 t300 _ ?side1 ?side2 A108.out).mono ?_);(case side1=>repeat (first | exact (Kd.R_reads' HO_283001.out).2.2 | (with_reducible refine zz18 ?_ _) | (with_reducible refine zz19 ?_ _) | (with_reducible refine zz20 ?_)));(case side2=>rw [show t299.length=t278.length from (Kd.R_reads' HO_283001.out).1.symm];exact (Kd.R_reads' HO_283001.out).2.1);rintro e w116 ⟨rfl,hb⟩;refine ⟨_,rfl,?_⟩;have n0_:=zz31 (Kd.R_below (by (with_reducible repeat (first | apply zz12 | apply zz13 | apply zz14));exact HO_269001.out) hb);have n1_:=zz31 (Kd.R_below (by (with_reducible repeat (first | apply zz12 | apply zz13 | apply zz14));exact HO_274001.out) hb);have n2_:=zz31 (Kd.R_below (by (with_reducible repeat (first | apply zz12 | apply zz13 | apply zz14));exact HO_283001.out) hb);have n3_:=zz31 (zz11 (g:=gb254) (o:=.cells #[.int .i64 a0_0,.slice A0_1 l0_1.length c0_1] 24 (0,0)) (by (with_reducible repeat (first | refine zz6 ?_ _ | refine zz7 ?_ | refine zz8 ?_ _));exact BK254.out) hb);have n4_:=zz31 (zz11 (g:=gb268) (o:=.cells #[.int .i64 t263,.slice Ao29 t264.length co29] 30 (0,0)) (by (with_reducible repeat (first | refine zz6 ?_ _ | refine zz7 ?_ | refine zz8 ?_ _));exact BK268.out) hb);have n5_:=zz31 (zz11 (g:=gb273) (o:=.cells #[.int .i64 t269,.slice Ao36 t294.length co36] 30 (0,0)) (by (with_reducible repeat (first | refine zz6 ?_ _ | refine zz7 ?_ | refine zz8 ?_ _));exact BK273.out) hb);have n6_:=zz31 (zz11 (g:=gb282) (o:=.cells #[.int .i64 t277,.slice Ao46 t278.length co46] 30 (0,0)) (by (with_reducible repeat (first | refine zz6 ?_ _ | refine zz7 ?_ | refine zz8 ?_ _));exact BK282.out) hb);have n7_:=zz31 (zz4 (by repeat first | exact HB.out | apply zz2 | apply zz0 | apply zz1 | refine zz3 ?_ GE254.out | refine zz3 ?_ GE268.out | refine zz3 ?_ GE273.out | refine zz3 ?_ GE282.out) hb);clear HO_269001;clear HO_274001;clear HO_283001;clear BK254;clear BK268;clear BK273;clear BK282;clear HB;have HO_269001:=n0_;have HO_274001:=n1_;have HO_283001:=n2_;have BK254:=n3_;have BK268:=n4_;have BK273:=n5_;have BK282:=n6_;have HB:=n7_;clear n0_ n1_ n2_ n3_ n4_ n5_ n6_ n7_;(try clear hb);(try clear hb2);(try clear hk);(try clear hi)))
            go_ret
            exact ⟨by first | rfl | (simp [errW_none,errW_some] <;> rfl) | (simp [*,errW_none,errW_some] <;> rfl),by repeat first | exact HB.out | apply zz2 | apply zz0 | apply zz1 | refine zz3 ?_ GE254.out | refine zz3 ?_ GE268.out | refine zz3 ?_ GE273.out | refine zz3 ?_ GE282.out⟩
           ·rw [if_neg c109] at H
            have c109b0:decide (t300 < 0)=false:=decide_eq_false c109
            clear c109
            by_cases c117:t300=t298
            ·rw [if_pos c117] at H
             have c117b0:(t300 == t298)=true:=beq_iff_eq.mpr c117
             have c117b1:(t300 != t298)=false:=bne_eq_false_iff_eq.mpr c117
             clear c117
             replace H:=zz30.mp H
             obtain ⟨⟨t301,t302⟩,A1180,H⟩:=H
             replace H:((laws_toIntS.f kj73 l1).bind fun t305=>((impl_RenameParty.f kj73 t301 t302 t305).bind fun bt308=>((laws_eqParty.f kj73 bt308.1 bt308.2.1 t263 t264).bind fun t314=>(if t314=true then (laws_FnExactRenameParty.j2 kj73 t298 (bt308.2.2 != t267) t277 t299) else (laws_FnExactRenameParty.j2 kj73 t298 true t277 t299)))))=some r:=H
             have A118:=zz31 A1180
             clear A1180
             replace H:=zz30.mp H
             obtain ⟨t305,A1190,H⟩:=H
             replace H:((impl_RenameParty.f kj73 t301 t302 t305).bind fun bt308=>((laws_eqParty.f kj73 bt308.1 bt308.2.1 t263 t264).bind fun t314=>(if t314=true then (laws_FnExactRenameParty.j2 kj73 t298 (bt308.2.2 != t267) t277 t299) else (laws_FnExactRenameParty.j2 kj73 t298 true t277 t299))))=some r:=H
             have A119:=zz31 A1190
             clear A1190
             replace H:=zz30.mp H
             obtain ⟨⟨t308,t309,t312⟩,A1200,H⟩:=H
             replace H:((laws_eqParty.f kj73 t308 t309 t263 t264).bind fun t314=>(if t314=true then (laws_FnExactRenameParty.j2 kj73 t298 (t312 != t267) t277 t299) else (laws_FnExactRenameParty.j2 kj73 t298 true t277 t299)))=some r:=H
             have A120:=zz31 A1200
             clear A1200
             have HC121:=zz31 H
             clear H
             have hnb122:=NB282_254.out
             have hnc122:=NB254_282.out
             have hnb123:=NB282_268.out
             have hnc123:=NB268_282.out
             have hnb124:=NB282_273.out
             have hnc124:=NB273_282.out
             have hcz125_0:wc.cell? ⟨gb282,0,none⟩=some (.int .i64 t277):=(zz9 BK282.out 0).trans rfl
             have hcz125_1:wc.cell? ⟨gb282,1,none⟩=some (.slice Ao46 t278.length co46):=(zz9 BK282.out 1).trans rfl
             have hfz125_0:=zz10 BK282.out 0
             have hfz125_1:=zz10 BK282.out 1
             go_upto_region 31 with (first | ((with_reducible refine gate_callee (f:=17) rfl ?_);refine goesL_ (some 83) rfl rfl Try.func17 (by kernel_rfl) rfl #[.agg #[.int .i64 t277,.slice Ao46 t278.length co46],.int .i64 1] rfl (by (try simp only [zz26,zz27,zz28]);first | done | rfl | (simp only [zz24,zz25];rfl)) ?_;(with_reducible refine (laws_markParty.calls kj73 t277 (fun k_=>some k_=(.slice Ao46 t278.length co46:Value).ownBlock) (.slice Ao46 t278.length co46) t278 1 t298 t299 w _ ?side1 ?side2 A107.out).mono ?_);(case side1=>repeat first | exact HB.out | apply zz2 | apply zz0 | apply zz1 | refine zz3 ?_ GE254.out | refine zz3 ?_ GE268.out | refine zz3 ?_ GE273.out | refine zz3 ?_ GE282.out);(case side2=>exact Kd.R_tight rfl HO_283001.out);rintro e w126 ⟨rfl,hy0,hb,hkp⟩;refine ⟨_,rfl,?_⟩;have n0_:=zz31 (Kd.R_mono (ok':=fun k_=>some k_ ≠ (.slice Ao36 t294.length co36:Value).ownBlock∧some k_ ≠ (.slice Ao46 t278.length co46:Value).ownBlock) (Kd.R_keptB (HO_269001.out) hkp (fun k_ hk_ hs_=>(hk_.2) hs_)) (fun k_ hk_=>⟨hk_.1.1,hk_.1.2⟩));have n1_:=zz31 (Kd.R_mono (ok':=fun k_=>some k_ ≠ (.slice Ao29 t264.length co29:Value).ownBlock∧some k_ ≠ (.slice Ao46 t278.length co46:Value).ownBlock) (Kd.R_keptB (HO_274001.out) hkp (fun k_ hk_ hs_=>(hk_.2) hs_)) (fun k_ hk_=>⟨hk_.1.1,hk_.1.2⟩));have n2_:=zz31 (Kd.R_reok rfl hy0 (fun k_ e_=>HO_283001.out.1 k_ e_));(first | have n3_:=zz31 (blk_kept BK254.out hkp (fun hs_=>(fun e_=>(Kd.R_ne HO_283001.out BK254.out (by decide)) e_) hs_)) | have n3_:=zz31 (blk_kept (by (with_reducible repeat (first | refine zz6 ?_ _ | refine zz7 ?_ | refine zz8 ?_ _));exact BK254.out) hkp (fun hs_=>(fun e_=>(Kd.R_ne HO_283001.out BK254.out (by decide)) e_) hs_)));(first | have n4_:=zz31 (blk_kept BK268.out hkp (fun hs_=>(fun e_=>(Kd.R_ne HO_283001.out BK268.out (by decide)) e_) hs_)) | have n4_:=zz31 (blk_kept (by (with_reducible repeat (first | refine zz6 ?_ _ | refine zz7 ?_ | refine zz8 ?_ _));exact BK268.out) hkp (fun hs_=>(fun e_=>(Kd.R_ne HO_283001.out BK268.out (by decide)) e_) hs_)));(first | have n5_:=zz31 (blk_kept BK273.out hkp (fun hs_=>(fun e_=>(Kd.R_ne HO_283001.out BK273.out (by decide)) e_) hs_)) | have n5_:=zz31 (blk_kept (by (with_reducible repeat (first | refine zz6 ?_ _ | refine zz7 ?_ | refine zz8 ?_ _));exact BK273.out) hkp (fun hs_=>(fun e_=>(Kd.R_ne HO_283001.out BK273.out (by decide)) e_) hs_)));(first | have n6_:=zz31 (blk_kept BK282.out hkp (fun hs_=>(fun e_=>(Kd.R_ne HO_283001.out BK282.out (by decide)) e_) hs_)) | have n6_:=zz31 (blk_kept (by (with_reducible repeat (first | refine zz6 ?_ _ | refine zz7 ?_ | refine zz8 ?_ _));exact BK282.out) hkp (fun hs_=>(fun e_=>(Kd.R_ne HO_283001.out BK282.out (by decide)) e_) hs_)));have n7_:=zz31 (hb);clear HO_269001;clear HO_274001;clear HO_283001;clear BK254;clear BK268;clear BK273;clear BK282;clear HB;have HO_269001:=n0_;have HO_274001:=n1_;have HO_283001:=n2_;have BK254:=n3_;have BK268:=n4_;have BK273:=n5_;have BK282:=n6_;have HB:=n7_;clear n0_ n1_ n2_ n3_ n4_ n5_ n6_ n7_;(try clear hb);(try clear hkp);(try clear hy0);have hcz127_0:w126.cell? ⟨gb282,0,none⟩=some (.int .i64 t277):=(zz9 BK282.out 0).trans rfl;have hcz127_1:w126.cell? ⟨gb282,1,none⟩=some (.slice Ao46 t278.length co46):=(zz9 BK282.out 1).trans rfl;have hfz127_0:=zz10 BK282.out 0;have hfz127_1:=zz10 BK282.out 1) | ((with_reducible refine gate_callee (f:=18) rfl ?_);refine goesL_ (some 86) rfl rfl Try.func18 (by kernel_rfl) rfl #[.agg #[.int .i64 t277,.slice Ao46 t299.length co46],.int .i64 1] rfl (by (try simp only [zz26,zz27,zz28]);first | done | (rw [show t299.length=t278.length from (Kd.R_reads' HO_283001.out).1.symm] <;> rfl) | rfl | (simp only [zz24,zz25];rfl)) ?_;(with_reducible refine (laws_heldParty.calls kj73 t277 _ _ t299 1 t300 _ ?side1 ?side2 A108.out).mono ?_);(case side1=>repeat (first | exact (Kd.R_reads' HO_283001.out).2.2 | (with_reducible refine zz18 ?_ _) | (with_reducible refine zz19 ?_ _) | (with_reducible refine zz20 ?_)));(case side2=>rw [show t299.length=t278.length from (Kd.R_reads' HO_283001.out).1.symm];exact (Kd.R_reads' HO_283001.out).2.1);rintro e w128 ⟨rfl,hb⟩;refine ⟨_,rfl,?_⟩;have n0_:=zz31 (Kd.R_below (by (with_reducible repeat (first | apply zz12 | apply zz13 | apply zz14));exact HO_269001.out) hb);have n1_:=zz31 (Kd.R_below (by (with_reducible repeat (first | apply zz12 | apply zz13 | apply zz14));exact HO_274001.out) hb);have n2_:=zz31 (Kd.R_below (by (with_reducible repeat (first | apply zz12 | apply zz13 | apply zz14));exact HO_283001.out) hb);have n3_:=zz31 (zz11 (g:=gb254) (o:=.cells #[.int .i64 a0_0,.slice A0_1 l0_1.length c0_1] 24 (0,0)) (by (with_reducible repeat (first | refine zz6 ?_ _ | refine zz7 ?_ | refine zz8 ?_ _));exact BK254.out) hb);have n4_:=zz31 (zz11 (g:=gb268) (o:=.cells #[.int .i64 t263,.slice Ao29 t264.length co29] 30 (0,0)) (by (with_reducible repeat (first | refine zz6 ?_ _ | refine zz7 ?_ | refine zz8 ?_ _));exact BK268.out) hb);have n5_:=zz31 (zz11 (g:=gb273) (o:=.cells #[.int .i64 t269,.slice Ao36 t294.length co36] 30 (0,0)) (by (with_reducible repeat (first | refine zz6 ?_ _ | refine zz7 ?_ | refine zz8 ?_ _));exact BK273.out) hb);have n6_:=zz31 (zz11 (g:=gb282) (o:=.cells #[.int .i64 t277,.slice Ao46 t278.length co46] 30 (0,0)) (by (with_reducible repeat (first | refine zz6 ?_ _ | refine zz7 ?_ | refine zz8 ?_ _));exact BK282.out) hb);have n7_:=zz31 (zz4 (by repeat first | exact HB.out | apply zz2 | apply zz0 | apply zz1 | refine zz3 ?_ GE254.out | refine zz3 ?_ GE268.out | refine zz3 ?_ GE273.out | refine zz3 ?_ GE282.out) hb);clear HO_269001;clear HO_274001;clear HO_283001;clear BK254;clear BK268;clear BK273;clear BK282;clear HB;have HO_269001:=n0_;have HO_274001:=n1_;have HO_283001:=n2_;have BK254:=n3_;have BK268:=n4_;have BK273:=n5_;have BK282:=n6_;have HB:=n7_;clear n0_ n1_ n2_ n3_ n4_ n5_ n6_ n7_;(try clear hb);(try clear hb2);(try clear hk);(try clear hi);have hnb129:=NB254_268.out;have hnc129:=NB268_254.out;have hnb130:=NB254_273.out;have hnc130:=NB273_254.out;have hcz131_0:w128.cell? ⟨gb254,0,none⟩=some (.int .i64 a0_0):=(zz9 BK254.out 0).trans rfl;have hcz131_1:w128.cell? ⟨gb254,1,none⟩=some (.slice A0_1 l0_1.length c0_1):=(zz9 BK254.out 1).trans rfl;have hfz131_0:=zz10 BK254.out 0;have hfz131_1:=zz10 BK254.out 1) | ((with_reducible refine gate_callee (f:=10) rfl ?_);refine goesL_ (some 94) rfl rfl Try.func10 (by kernel_rfl) rfl #[.agg #[.int .i64 a0_0,.slice A0_1 l0_1.length c0_1]] rfl (by (try simp only [zz26,zz27,zz28]);first | done | rfl | (simp only [zz24,zz25];rfl)) ?_;(with_reducible refine (laws_toParty.calls kj73 a0_0 _ _ l0_1 t301 t302 _ ?side1 ?side2 A118.out).mono ?_);(case side1=>repeat (first | exact (Kd.C_below HR0_1.out HB.out) | (with_reducible refine zz18 ?_ _) | (with_reducible refine zz19 ?_ _) | (with_reducible refine zz20 ?_)));(case side2=>exact HC0_1.out);rintro e w132 ⟨v303,rfl,ho0,hb⟩;refine ⟨_,rfl,?_⟩;have n0_:=zz31 (Kd.R_elder' (by (with_reducible repeat (first | apply zz12 | apply zz13 | apply zz14));exact HO_269001.out) (Kd.R_base ho0) hb);have n1_:=zz31 (Kd.R_elder' (by (with_reducible repeat (first | apply zz12 | apply zz13 | apply zz14));exact HO_274001.out) (Kd.R_base ho0) hb);have n2_:=zz31 (Kd.R_elder' (by (with_reducible repeat (first | apply zz12 | apply zz13 | apply zz14));exact HO_283001.out) (Kd.R_base ho0) hb);have n3_:=zz31 (Kd.R_lower (Kd.R_new' (Kd.R_new' (Kd.R_new' ho0 (Kd.R_lt (by (with_reducible repeat (first | apply zz12 | apply zz13 | apply zz14));exact HO_269001.out))) (Kd.R_lt (by (with_reducible repeat (first | apply zz12 | apply zz13 | apply zz14));exact HO_274001.out))) (Kd.R_lt (by (with_reducible repeat (first | apply zz12 | apply zz13 | apply zz14));exact HO_283001.out))) (zz5 (by repeat first | exact HB.out | apply zz2 | apply zz0 | apply zz1 | refine zz3 ?_ GE254.out | refine zz3 ?_ GE268.out | refine zz3 ?_ GE273.out | refine zz3 ?_ GE282.out)));have n4_:=zz31 (zz11 (g:=gb254) (o:=.cells #[.int .i64 a0_0,.slice A0_1 l0_1.length c0_1] 24 (0,0)) (by (with_reducible repeat (first | refine zz6 ?_ _ | refine zz7 ?_ | refine zz8 ?_ _));exact BK254.out) hb);have n5_:=zz31 (zz11 (g:=gb268) (o:=.cells #[.int .i64 t263,.slice Ao29 t264.length co29] 30 (0,0)) (by (with_reducible repeat (first | refine zz6 ?_ _ | refine zz7 ?_ | refine zz8 ?_ _));exact BK268.out) hb);have n6_:=zz31 (zz11 (g:=gb273) (o:=.cells #[.int .i64 t269,.slice Ao36 t294.length co36] 30 (0,0)) (by (with_reducible repeat (first | refine zz6 ?_ _ | refine zz7 ?_ | refine zz8 ?_ _));exact BK273.out) hb);have n7_:=zz31 (zz11 (g:=gb282) (o:=.cells #[.int .i64 t277,.slice Ao46 t278.length co46] 30 (0,0)) (by (with_reducible repeat (first | refine zz6 ?_ _ | refine zz7 ?_ | refine zz8 ?_ _));exact BK282.out) hb);have n8_:=zz31 (zz4 (by repeat first | exact HB.out | apply zz2 | apply zz0 | apply zz1 | refine zz3 ?_ GE254.out | refine zz3 ?_ GE268.out | refine zz3 ?_ GE273.out | refine zz3 ?_ GE282.out) hb);clear HO_269001;clear HO_274001;clear HO_283001;clear BK254;clear BK268;clear BK273;clear BK282;clear HB;have HO_269001:=n0_;have HO_274001:=n1_;have HO_283001:=n2_;have HO304:=n3_;have BK254:=n4_;have BK268:=n5_;have BK273:=n6_;have BK282:=n7_;have HB:=n8_;clear n0_ n1_ n2_ n3_ n4_ n5_ n6_ n7_ n8_;(try clear hb);(try clear hb2);(try clear hk);(try clear hi);(try clear ho0)) | ((with_reducible refine gate_callee (f:=20) rfl ?_);refine goesL_ (some 96) rfl rfl Try.func20 (by kernel_rfl) rfl #[.slice A1 l1.length c1] rfl (by (try simp only [zz26,zz27,zz28]);first | done | rfl | (simp only [zz24,zz25];rfl)) ?_;(with_reducible refine (laws_toIntS.calls kj73 _ _ l1 t305 _ ?side1 ?side2 A119.out).mono ?_);(case side1=>repeat (first | exact (Kd.C_below HR1.out HB.out) | (with_reducible refine zz18 ?_ _) | (with_reducible refine zz19 ?_ _) | (with_reducible refine zz20 ?_)));(case side2=>exact HC1.out);rintro e w133 ⟨v306,rfl,ho0,hb⟩;refine ⟨_,rfl,?_⟩;have n0_:=zz31 (Kd.R_below (by (with_reducible repeat (first | apply zz12 | apply zz13 | apply zz14));exact HO_269001.out) hb);have n1_:=zz31 (Kd.R_below (by (with_reducible repeat (first | apply zz12 | apply zz13 | apply zz14));exact HO_274001.out) hb);have n2_:=zz31 (Kd.R_below (by (with_reducible repeat (first | apply zz12 | apply zz13 | apply zz14));exact HO_283001.out) hb);have n3_:=zz31 (Kd.R_below (by (with_reducible repeat (first | apply zz12 | apply zz13 | apply zz14));exact HO304.out) hb);have n4_:=zz31 (Kd.R_lower ho0 (zz5 (by repeat first | exact HB.out | apply zz2 | apply zz0 | apply zz1 | refine zz3 ?_ GE254.out | refine zz3 ?_ GE268.out | refine zz3 ?_ GE273.out | refine zz3 ?_ GE282.out)));have n5_:=zz31 (zz11 (g:=gb254) (o:=.cells #[.int .i64 a0_0,.slice A0_1 l0_1.length c0_1] 24 (0,0)) (by (with_reducible repeat (first | refine zz6 ?_ _ | refine zz7 ?_ | refine zz8 ?_ _));exact BK254.out) hb);have n6_:=zz31 (zz11 (g:=gb268) (o:=.cells #[.int .i64 t263,.slice Ao29 t264.length co29] 30 (0,0)) (by (with_reducible repeat (first | refine zz6 ?_ _ | refine zz7 ?_ | refine zz8 ?_ _));exact BK268.out) hb);have n7_:=zz31 (zz11 (g:=gb273) (o:=.cells #[.int .i64 t269,.slice Ao36 t294.length co36] 30 (0,0)) (by (with_reducible repeat (first | refine zz6 ?_ _ | refine zz7 ?_ | refine zz8 ?_ _));exact BK273.out) hb);have n8_:=zz31 (zz11 (g:=gb282) (o:=.cells #[.int .i64 t277,.slice Ao46 t278.length co46] 30 (0,0)) (by (with_reducible repeat (first | refine zz6 ?_ _ | refine zz7 ?_ | refine zz8 ?_ _));exact BK282.out) hb);have n9_:=zz31 (zz4 (by repeat first | exact HB.out | apply zz2 | apply zz0 | apply zz1 | refine zz3 ?_ GE254.out | refine zz3 ?_ GE268.out | refine zz3 ?_ GE273.out | refine zz3 ?_ GE282.out) hb);clear HO_269001;clear HO_274001;clear HO_283001;clear HO304;clear BK254;clear BK268;clear BK273;clear BK282;clear HB;have HO_269001:=n0_;have HO_274001:=n1_;have HO_283001:=n2_;have HO304:=n3_;have HO307:=n4_;have BK254:=n5_;have BK268:=n6_;have BK273:=n7_;have BK282:=n8_;have HB:=n9_;clear n0_ n1_ n2_ n3_ n4_ n5_ n6_ n7_ n8_ n9_;(try clear hb);(try clear hb2);(try clear hk);(try clear hi);(try clear ho0);obtain ⟨Ao134,co134,eo134⟩:=Kd.R_slice HO304.out;subst eo134;obtain ⟨Ao135,co135,eo135⟩:=Kd.R_slice HO307.out;subst eo135) | ((with_reducible refine gate_callee (f:=21) rfl ?_);refine goesL_ (some 97) rfl rfl Try.func21 (by kernel_rfl) rfl #[.agg #[.int .i64 t301,.slice Ao134 t302.length co134],.slice Ao135 t305.length co135] rfl (by (try simp only [zz26,zz27,zz28]);first | done | rfl | (simp only [zz24,zz25];rfl)) ?_;(with_reducible refine (impl_RenameParty.calls kj73 t301 _ _ t302 _ _ t305 t308 t309 t312 _ ?side1 ?side2 ?side3 ?side4 A120.out).mono ?_);(case side1=>repeat (first | exact (Kd.R_reads' HO304.out).2.2 | (with_reducible refine zz18 ?_ _) | (with_reducible refine zz19 ?_ _) | (with_reducible refine zz20 ?_)));(case side2=>exact (Kd.R_reads' HO304.out).2.1);(case side3=>repeat (first | exact (Kd.R_reads' HO307.out).2.2 | (with_reducible refine zz18 ?_ _) | (with_reducible refine zz19 ?_ _) | (with_reducible refine zz20 ?_)));(case side4=>exact (Kd.R_reads' HO307.out).2.1);rintro e w136 ⟨v310,rfl,ho0,hb⟩;refine ⟨_,rfl,?_⟩;have n0_:=zz31 (Kd.R_elder' (by (with_reducible repeat (first | apply zz12 | apply zz13 | apply zz14));exact HO_269001.out) (Kd.R_base ho0) hb);have n1_:=zz31 (Kd.R_elder' (by (with_reducible repeat (first | apply zz12 | apply zz13 | apply zz14));exact HO_274001.out) (Kd.R_base ho0) hb);have n2_:=zz31 (Kd.R_elder' (by (with_reducible repeat (first | apply zz12 | apply zz13 | apply zz14));exact HO_283001.out) (Kd.R_base ho0) hb);have n3_:=zz31 (Kd.R_elder' (by (with_reducible repeat (first | apply zz12 | apply zz13 | apply zz14));exact HO304.out) (Kd.R_base ho0) hb);have n4_:=zz31 (Kd.R_below (by (with_reducible repeat (first | apply zz12 | apply zz13 | apply zz14));exact HO307.out) hb);have n5_:=zz31 (Kd.R_lower (Kd.R_new' (Kd.R_new' (Kd.R_new' (Kd.R_new' ho0 (Kd.R_lt (by (with_reducible repeat (first | apply zz12 | apply zz13 | apply zz14));exact HO_269001.out))) (Kd.R_lt (by (with_reducible repeat (first | apply zz12 | apply zz13 | apply zz14));exact HO_274001.out))) (Kd.R_lt (by (with_reducible repeat (first | apply zz12 | apply zz13 | apply zz14));exact HO_283001.out))) (Kd.R_lt (by (with_reducible repeat (first | apply zz12 | apply zz13 | apply zz14));exact HO304.out))) (zz5 (by repeat first | exact HB.out | apply zz2 | apply zz0 | apply zz1 | refine zz3 ?_ GE254.out | refine zz3 ?_ GE268.out | refine zz3 ?_ GE273.out | refine zz3 ?_ GE282.out)));have n6_:=zz31 (zz11 (g:=gb254) (o:=.cells #[.int .i64 a0_0,.slice A0_1 l0_1.length c0_1] 24 (0,0)) (by (with_reducible repeat (first | refine zz6 ?_ _ | refine zz7 ?_ | refine zz8 ?_ _));exact BK254.out) hb);have n7_:=zz31 (zz11 (g:=gb268) (o:=.cells #[.int .i64 t263,.slice Ao29 t264.length co29] 30 (0,0)) (by (with_reducible repeat (first | refine zz6 ?_ _ | refine zz7 ?_ | refine zz8 ?_ _));exact BK268.out) hb);have n8_:=zz31 (zz11 (g:=gb273) (o:=.cells #[.int .i64 t269,.slice Ao36 t294.length co36] 30 (0,0)) (by (with_reducible repeat (first | refine zz6 ?_ _ | refine zz7 ?_ | refine zz8 ?_ _));exact BK273.out) hb);have n9_:=zz31 (zz11 (g:=gb282) (o:=.cells #[.int .i64 t277,.slice Ao46 t278.length co46] 30 (0,0)) (by (with_reducible repeat (first | refine zz6 ?_ _ | refine zz7 ?_ | refine zz8 ?_ _));exact BK282.out) hb);have n10_:=zz31 (zz4 (by repeat first | exact HB.out | apply zz2 | apply zz0 | apply zz1 | refine zz3 ?_ GE254.out | refine zz3 ?_ GE268.out | refine zz3 ?_ GE273.out | refine zz3 ?_ GE282.out) hb);clear HO_269001;clear HO_274001;clear HO_283001;clear HO304;clear HO307;clear BK254;clear BK268;clear BK273;clear BK282;clear HB;have HO_269001:=n0_;have HO_274001:=n1_;have HO_283001:=n2_;have HO304:=n3_;have HO307:=n4_;have HO311:=n5_;have BK254:=n6_;have BK268:=n7_;have BK273:=n8_;have BK282:=n9_;have HB:=n10_;clear n0_ n1_ n2_ n3_ n4_ n5_ n6_ n7_ n8_ n9_ n10_;(try clear hb);(try clear hb2);(try clear hk);(try clear hi);(try clear ho0)) | ((with_reducible refine gate_dst (N:=15) rfl ?_);refine box_event ?hg (N:=15) ?hd (cs:=#[.int .i64 0,.slice none 0 0]) (t:=30) ?hr ?_;(case hd=>rfl);(case hg=>rfl);(case hr=>first | (go_simp;done) | (go_simp;rfl));intro gb313 hg w137 hbox hb;have n0_:=zz31 (Kd.R_below (by (with_reducible repeat (first | apply zz12 | apply zz13 | apply zz14));exact HO_269001.out) hb);have n1_:=zz31 (Kd.R_below (by (with_reducible repeat (first | apply zz12 | apply zz13 | apply zz14));exact HO_274001.out) hb);have n2_:=zz31 (Kd.R_below (by (with_reducible repeat (first | apply zz12 | apply zz13 | apply zz14));exact HO_283001.out) hb);have n3_:=zz31 (Kd.R_below (by (with_reducible repeat (first | apply zz12 | apply zz13 | apply zz14));exact HO304.out) hb);have n4_:=zz31 (Kd.R_below (by (with_reducible repeat (first | apply zz12 | apply zz13 | apply zz14));exact HO307.out) hb);have n5_:=zz31 (Kd.R_below (by (with_reducible repeat (first | apply zz12 | apply zz13 | apply zz14));exact HO311.out) hb);have n6_:=zz31 (zz11 (g:=gb254) (o:=.cells #[.int .i64 a0_0,.slice A0_1 l0_1.length c0_1] 24 (0,0)) (by (with_reducible repeat (first | refine zz6 ?_ _ | refine zz7 ?_ | refine zz8 ?_ _));exact BK254.out) hb);have n7_:=zz31 (zz11 (g:=gb268) (o:=.cells #[.int .i64 t263,.slice Ao29 t264.length co29] 30 (0,0)) (by (with_reducible repeat (first | refine zz6 ?_ _ | refine zz7 ?_ | refine zz8 ?_ _));exact BK268.out) hb);have n8_:=zz31 (zz11 (g:=gb273) (o:=.cells #[.int .i64 t269,.slice Ao36 t294.length co36] 30 (0,0)) (by (with_reducible repeat (first | refine zz6 ?_ _ | refine zz7 ?_ | refine zz8 ?_ _));exact BK273.out) hb);have n9_:=zz31 (zz11 (g:=gb282) (o:=.cells #[.int .i64 t277,.slice Ao46 t278.length co46] 30 (0,0)) (by (with_reducible repeat (first | refine zz6 ?_ _ | refine zz7 ?_ | refine zz8 ?_ _));exact BK282.out) hb);have n10_:=zz31 (zz4 (by repeat first | exact HB.out | apply zz2 | apply zz0 | apply zz1 | refine zz3 ?_ GE254.out | refine zz3 ?_ GE268.out | refine zz3 ?_ GE273.out | refine zz3 ?_ GE282.out) hb);have n11_:=zz31 (hbox);have n12_:=zz31 ((by rw [hg];exact (zz5 (by repeat first | exact HB.out | apply zz2 | apply zz0 | apply zz1 | refine zz3 ?_ GE254.out | refine zz3 ?_ GE268.out | refine zz3 ?_ GE273.out | refine zz3 ?_ GE282.out)):w.heap.size≤gb313));have n13_:=zz31 ((by rw [hg];exact (zz5 (by repeat first | exact HB.out | apply zz2 | apply zz0 | apply zz1 | refine zz3 ?_ GE254.out | refine zz3 ?_ GE268.out | refine zz3 ?_ GE273.out | refine zz3 ?_ GE282.out)):w.heap.size≤gb313));have n14_:=zz31 ((by rw [hg];exact Nat.ne_of_lt (blk_lt (g:=gb254) (o:=.cells #[.int .i64 a0_0,.slice A0_1 l0_1.length c0_1] 24 (0,0)) (by (with_reducible repeat (first | refine zz6 ?_ _ | refine zz7 ?_ | refine zz8 ?_ _));exact BK254.out)):gb254 ≠ gb313));have n15_:=zz31 ((by rw [hg];exact Nat.ne_of_gt (blk_lt (g:=gb254) (o:=.cells #[.int .i64 a0_0,.slice A0_1 l0_1.length c0_1] 24 (0,0)) (by (with_reducible repeat (first | refine zz6 ?_ _ | refine zz7 ?_ | refine zz8 ?_ _));exact BK254.out)):gb313 ≠ gb254));have n16_:=zz31 ((by rw [hg];exact Nat.ne_of_lt (blk_lt (g:=gb268) (o:=.cells #[.int .i64 t263,.slice Ao29 t264.length co29] 30 (0,0)) (by (with_reducible repeat (first | refine zz6 ?_ _ | refine zz7 ?_ | refine zz8 ?_ _));exact BK268.out)):gb268 ≠ gb313));have n17_:=zz31 ((by rw [hg];exact Nat.ne_of_gt (blk_lt (g:=gb268) (o:=.cells #[.int .i64 t263,.slice Ao29 t264.length co29] 30 (0,0)) (by (with_reducible repeat (first | refine zz6 ?_ _ | refine zz7 ?_ | refine zz8 ?_ _));exact BK268.out)):gb313 ≠ gb268));have n18_:=zz31 ((by rw [hg];exact Nat.ne_of_lt (blk_lt (g:=gb273) (o:=.cells #[.int .i64 t269,.slice Ao36 t294.length co36] 30 (0,0)) (by (with_reducible repeat (first | refine zz6 ?_ _ | refine zz7 ?_ | refine zz8 ?_ _));exact BK273.out)):gb273 ≠ gb313));have n19_:=zz31 ((by rw [hg];exact Nat.ne_of_gt (blk_lt (g:=gb273) (o:=.cells #[.int .i64 t269,.slice Ao36 t294.length co36] 30 (0,0)) (by (with_reducible repeat (first | refine zz6 ?_ _ | refine zz7 ?_ | refine zz8 ?_ _));exact BK273.out)):gb313 ≠ gb273));have n20_:=zz31 ((by rw [hg];exact Nat.ne_of_lt (blk_lt (g:=gb282) (o:=.cells #[.int .i64 t277,.slice Ao46 t278.length co46] 30 (0,0)) (by (with_reducible repeat (first | refine zz6 ?_ _ | refine zz7 ?_ | refine zz8 ?_ _));exact BK282.out)):gb282 ≠ gb313));have n21_:=zz31 ((by rw [hg];exact Nat.ne_of_gt (blk_lt (g:=gb282) (o:=.cells #[.int .i64 t277,.slice Ao46 t278.length co46] 30 (0,0)) (by (with_reducible repeat (first | refine zz6 ?_ _ | refine zz7 ?_ | refine zz8 ?_ _));exact BK282.out)):gb313 ≠ gb282));clear HO_269001;clear HO_274001;clear HO_283001;clear HO304;clear HO307;clear HO311;clear BK254;clear BK268;clear BK273;clear BK282;clear HB;have HO_269001:=n0_;have HO_274001:=n1_;have HO_283001:=n2_;have HO304:=n3_;have HO307:=n4_;have HO311:=n5_;have BK254:=n6_;have BK268:=n7_;have BK273:=n8_;have BK282:=n9_;have HB:=n10_;have BK313:=n11_;have GW313:=n12_;have GE313:=n13_;have NB254_313:=n14_;have NB313_254:=n15_;have NB268_313:=n16_;have NB313_268:=n17_;have NB273_313:=n18_;have NB313_273:=n19_;have NB282_313:=n20_;have NB313_282:=n21_;clear n0_ n1_ n2_ n3_ n4_ n5_ n6_ n7_ n8_ n9_ n10_ n11_ n12_ n13_ n14_ n15_ n16_ n17_ n18_ n19_ n20_ n21_;clear hb hbox hg;have hnb138:=NB313_254.out;have hnc138:=NB254_313.out;have hnb139:=NB313_268.out;have hnc139:=NB268_313.out;have hnb140:=NB313_273.out;have hnc140:=NB273_313.out;have hnb141:=NB313_282.out;have hnc141:=NB282_313.out;have hcz142_0:w137.cell? ⟨gb313,0,none⟩=some (.int .i64 0):=(zz9 BK313.out 0).trans rfl;have hcz142_1:w137.cell? ⟨gb313,1,none⟩=some (.slice none 0 0):=(zz9 BK313.out 1).trans rfl;have hfz142_0:=zz10 BK313.out 0;have hfz142_1:=zz10 BK313.out 1;obtain ⟨Ao143,co143,eo143⟩:=Kd.R_slice HO311.out;subst eo143))
             (try simp only [Act.put,zz21,zz22,zz23])
             go_cut [108] (fun v108 wc=>∃ (kq:Nat) (x108_120:Bool),v108=.bool x108_120∧Aside0 (laws_FnExactRenameParty.j2 kq t298 x108_120 t277 t299=some r)∧Aside0 (kq≤kj73)∧Aside0 (Kd.R k70 70 wc w.heap.size (fun k_=>some k_ ≠ ((.slice Ao36 t294.length co36):Value).ownBlock∧some k_ ≠ ((.slice Ao46 t278.length co46):Value).ownBlock∧some k_ ≠ ((.slice Ao143 t309.length co143):Value).ownBlock) (.slice Ao29 t264.length co29) t264)∧Aside0 (Kd.R k70 70 wc w.heap.size (fun k_=>some k_ ≠ ((.slice Ao29 t264.length co29):Value).ownBlock∧some k_ ≠ ((.slice Ao46 t278.length co46):Value).ownBlock∧some k_ ≠ ((.slice Ao143 t309.length co143):Value).ownBlock) (.slice Ao36 t294.length co36) t294)∧Aside0 (Kd.R k70 70 wc w.heap.size (fun k_=>some k_ ≠ ((.slice Ao29 t264.length co29):Value).ownBlock∧some k_ ≠ ((.slice Ao36 t294.length co36):Value).ownBlock∧some k_ ≠ ((.slice Ao143 t309.length co143):Value).ownBlock) (.slice Ao46 t278.length co46) t299)∧Aside0 (Kd.R k70 70 wc w.heap.size (fun k_=>some k_ ≠ ((.slice Ao29 t264.length co29):Value).ownBlock∧some k_ ≠ ((.slice Ao36 t294.length co36):Value).ownBlock∧some k_ ≠ ((.slice Ao46 t278.length co46):Value).ownBlock) (.slice Ao143 t309.length co143) t309)∧Aside0 (wc.heap[gb254]?=some (.cells #[.int .i64 a0_0,(.slice A0_1 l0_1.length c0_1)] 24 (0,0)))∧Aside0 (wc.heap[gb268]?=some (.cells #[.int .i64 t263,(.slice Ao29 t264.length co29)] 30 (0,0)))∧Aside0 (wc.heap[gb273]?=some (.cells #[.int .i64 t269,(.slice Ao36 t294.length co36)] 30 (0,0)))∧Aside0 (wc.heap[gb282]?=some (.cells #[.int .i64 t277,(.slice Ao46 t278.length co46)] 30 (0,0)))∧Aside0 (wc.heap[gb313]?=some (.cells #[.int .i64 t308,(.slice Ao143 t309.length co143)] 30 (0,0)))∧Aside0 (Below w.heap.size w wc))
             case first =>
              have H:=HC121.out
              clear HC121
              replace H:=zz30.mp H
              obtain ⟨t314,A1440,H⟩:=H
              replace H:(if t314=true then (laws_FnExactRenameParty.j2 kj73 t298 (t312 != t267) t277 t299) else (laws_FnExactRenameParty.j2 kj73 t298 true t277 t299))=some r:=H
              have A144:=zz31 A1440
              clear A1440
              by_cases c145:t314=true
              ·subst c145
               have H1:(laws_FnExactRenameParty.j2 kj73 t298 (t312 != t267) t277 t299)=some r:=by rw [if_pos rfl] at H;exact H
               clear H
               have H:=H1
               clear H1
               have H':=zz31 H
               clear H
               have hnb146:=NB313_254.out
               have hnc146:=NB254_313.out
               have hnb147:=NB313_268.out
               have hnc147:=NB268_313.out
               have hnb148:=NB313_273.out
               have hnc148:=NB273_313.out
               have hnb149:=NB313_282.out
               have hnc149:=NB282_313.out
               have hcz150_0:w137.cell? ⟨gb313,0,none⟩=some (.int .i64 0):=(zz9 BK313.out 0).trans rfl
               have hcz150_1:w137.cell? ⟨gb313,1,none⟩=some (.slice none 0 0):=(zz9 BK313.out 1).trans rfl
               have hfz150_0:=zz10 BK313.out 0
               have hfz150_1:=zz10 BK313.out 1
               have hnb151:=NB268_254.out
               have hnc151:=NB254_268.out
               have hnb152:=NB268_273.out
               have hnc152:=NB273_268.out
               have hnb153:=NB268_282.out
               have hnc153:=NB282_268.out
               have hcz154_0:w137.cell? ⟨gb268,0,none⟩=some (.int .i64 t263):=(zz9 BK268.out 0).trans rfl
               have hcz154_1:w137.cell? ⟨gb268,1,none⟩=some (.slice Ao29 t264.length co29):=(zz9 BK268.out 1).trans rfl
               have hfz154_0:=zz10 BK268.out 0
               have hfz154_1:=zz10 BK268.out 1
               go_wp2_with (first | ((with_reducible refine gate_callee (f:=12) rfl ?_);refine goesL_ (some 102) rfl rfl Try.func12 (by kernel_rfl) rfl #[.agg #[.int .i64 t308,.slice Ao143 t309.length co143],.agg #[.int .i64 t263,.slice Ao29 t264.length co29]] rfl (by (try simp only [zz26,zz27,zz28]);first | done | rfl | (simp only [zz24,zz25];rfl)) ?_;(with_reducible refine (laws_eqParty.calls kj73 t308 _ _ t309 t263 _ _ t264 true _ ?side1 ?side2 ?side3 ?side4 A144.out).mono ?_);(case side1=>refine (Kd.R_reads' (e:=70) (base:=w.heap.size) (ok:=fun k_=>((((True∧some k_ ≠ (.slice Ao29 t264.length co29:Value).ownBlock)∧some k_ ≠ (.slice Ao36 t294.length co36:Value).ownBlock)∧some k_ ≠ (.slice Ao46 t278.length co46:Value).ownBlock)∧some k_ ≠ (.slice Ao134 t302.length co134:Value).ownBlock)) (n:=t309.length) (c:=co143) ?_).2.2;exact (by (with_reducible repeat (first | apply zz12 | apply zz13 | apply zz14));exact (Kd.R_mono (Kd.R_far (p:=⟨gb313,1,none⟩) (Kd.R_far (p:=⟨gb313,0,none⟩) (Kd.R_types HO311.out BK313.out (by decide)) (fun _ hk=>hk.2) (.int .i64 t308)) (fun _ hk=>hk.2) (.slice Ao143 t309.length co143)) (fun _ h_=>h_.1))));(case side2=>exact (Kd.R_reads' HO311.out).2.1);(case side3=>refine (Kd.R_reads' (e:=70) (base:=w.heap.size) (ok:=fun k_=>(((some k_ ≠ (.slice Ao36 t294.length co36:Value).ownBlock∧some k_ ≠ (.slice Ao46 t278.length co46:Value).ownBlock)∧some k_ ≠ (.slice Ao134 t302.length co134:Value).ownBlock)∧some k_ ≠ (.slice Ao143 t309.length co143:Value).ownBlock)) (n:=t264.length) (c:=co29) ?_).2.2;exact (by (with_reducible repeat (first | apply zz12 | apply zz13 | apply zz14));exact (Kd.R_mono (Kd.R_far (p:=⟨gb313,1,none⟩) (Kd.R_far (p:=⟨gb313,0,none⟩) (Kd.R_types HO_269001.out BK313.out (by decide)) (fun _ hk=>hk.2) (.int .i64 t308)) (fun _ hk=>hk.2) (.slice Ao143 t309.length co143)) (fun _ h_=>h_.1))));(case side4=>exact (Kd.R_reads' HO_269001.out).2.1);rintro e w155 ⟨rfl,hb⟩;refine ⟨_,rfl,?_⟩;have n0_:=zz31 (Kd.R_below (by (with_reducible repeat (first | apply zz12 | apply zz13 | apply zz14));exact (Kd.R_mono (Kd.R_far (p:=⟨gb313,1,none⟩) (Kd.R_far (p:=⟨gb313,0,none⟩) (Kd.R_types HO_269001.out BK313.out (by decide)) (fun _ hk=>hk.2) (.int .i64 t308)) (fun _ hk=>hk.2) (.slice Ao143 t309.length co143)) (fun _ h_=>h_.1))) hb);have n1_:=zz31 (Kd.R_below (by (with_reducible repeat (first | apply zz12 | apply zz13 | apply zz14));exact (Kd.R_mono (Kd.R_far (p:=⟨gb313,1,none⟩) (Kd.R_far (p:=⟨gb313,0,none⟩) (Kd.R_types HO_274001.out BK313.out (by decide)) (fun _ hk=>hk.2) (.int .i64 t308)) (fun _ hk=>hk.2) (.slice Ao143 t309.length co143)) (fun _ h_=>h_.1))) hb);have n2_:=zz31 (Kd.R_below (by (with_reducible repeat (first | apply zz12 | apply zz13 | apply zz14));exact (Kd.R_mono (Kd.R_far (p:=⟨gb313,1,none⟩) (Kd.R_far (p:=⟨gb313,0,none⟩) (Kd.R_types HO_283001.out BK313.out (by decide)) (fun _ hk=>hk.2) (.int .i64 t308)) (fun _ hk=>hk.2) (.slice Ao143 t309.length co143)) (fun _ h_=>h_.1))) hb);have n3_:=zz31 (Kd.R_below (by (with_reducible repeat (first | apply zz12 | apply zz13 | apply zz14));exact (Kd.R_mono (Kd.R_far (p:=⟨gb313,1,none⟩) (Kd.R_far (p:=⟨gb313,0,none⟩) (Kd.R_types HO304.out BK313.out (by decide)) (fun _ hk=>hk.2) (.int .i64 t308)) (fun _ hk=>hk.2) (.slice Ao143 t309.length co143)) (fun _ h_=>h_.1))) hb);have n4_:=zz31 (Kd.R_below (by (with_reducible repeat (first | apply zz12 | apply zz13 | apply zz14));exact (Kd.R_mono (Kd.R_far (p:=⟨gb313,1,none⟩) (Kd.R_far (p:=⟨gb313,0,none⟩) (Kd.R_types HO307.out BK313.out (by decide)) (fun _ hk=>hk.2) (.int .i64 t308)) (fun _ hk=>hk.2) (.slice Ao143 t309.length co143)) (fun _ h_=>h_.1))) hb);have n5_:=zz31 (Kd.R_below (by (with_reducible repeat (first | apply zz12 | apply zz13 | apply zz14));exact (Kd.R_mono (Kd.R_far (p:=⟨gb313,1,none⟩) (Kd.R_far (p:=⟨gb313,0,none⟩) (Kd.R_types HO311.out BK313.out (by decide)) (fun _ hk=>hk.2) (.int .i64 t308)) (fun _ hk=>hk.2) (.slice Ao143 t309.length co143)) (fun _ h_=>h_.1))) hb);have n6_:=zz31 (zz11 (g:=gb254) (o:=.cells #[.int .i64 a0_0,.slice A0_1 l0_1.length c0_1] 24 (0,0)) (by (with_reducible repeat (first | refine zz6 ?_ _ | refine zz7 ?_ | refine zz8 ?_ _));refine blk_far ?_ NB254_313.out _;(with_reducible repeat (first | refine zz6 ?_ _ | refine zz7 ?_ | refine zz8 ?_ _));refine blk_far ?_ NB254_313.out _;(with_reducible repeat (first | refine zz6 ?_ _ | refine zz7 ?_ | refine zz8 ?_ _));exact BK254.out) hb);have n7_:=zz31 (zz11 (g:=gb268) (o:=.cells #[.int .i64 t263,.slice Ao29 t264.length co29] 30 (0,0)) (by (with_reducible repeat (first | refine zz6 ?_ _ | refine zz7 ?_ | refine zz8 ?_ _));refine blk_far ?_ NB268_313.out _;(with_reducible repeat (first | refine zz6 ?_ _ | refine zz7 ?_ | refine zz8 ?_ _));refine blk_far ?_ NB268_313.out _;(with_reducible repeat (first | refine zz6 ?_ _ | refine zz7 ?_ | refine zz8 ?_ _));exact BK268.out) hb);have n8_:=zz31 (zz11 (g:=gb273) (o:=.cells #[.int .i64 t269,.slice Ao36 t294.length co36] 30 (0,0)) (by (with_reducible repeat (first | refine zz6 ?_ _ | refine zz7 ?_ | refine zz8 ?_ _));refine blk_far ?_ NB273_313.out _;(with_reducible repeat (first | refine zz6 ?_ _ | refine zz7 ?_ | refine zz8 ?_ _));refine blk_far ?_ NB273_313.out _;(with_reducible repeat (first | refine zz6 ?_ _ | refine zz7 ?_ | refine zz8 ?_ _));exact BK273.out) hb);have n9_:=zz31 (zz11 (g:=gb282) (o:=.cells #[.int .i64 t277,.slice Ao46 t278.length co46] 30 (0,0)) (by (with_reducible repeat (first | refine zz6 ?_ _ | refine zz7 ?_ | refine zz8 ?_ _));refine blk_far ?_ NB282_313.out _;(with_reducible repeat (first | refine zz6 ?_ _ | refine zz7 ?_ | refine zz8 ?_ _));refine blk_far ?_ NB282_313.out _;(with_reducible repeat (first | refine zz6 ?_ _ | refine zz7 ?_ | refine zz8 ?_ _));exact BK282.out) hb);have n10_:=zz31 (zz11 (g:=gb313) (o:=.cells #[.int .i64 t308,.slice Ao143 t309.length co143] 30 (0,0)) (by (with_reducible repeat (first | refine zz6 ?_ _ | refine zz7 ?_ | refine zz8 ?_ _));refine blk_put (cs:=#[.int .i64 t308,.slice none 0 0]) ?_ 1 _ rfl;(with_reducible repeat (first | refine zz6 ?_ _ | refine zz7 ?_ | refine zz8 ?_ _));refine blk_put (cs:=#[.int .i64 0,.slice none 0 0]) ?_ 0 _ rfl;(with_reducible repeat (first | refine zz6 ?_ _ | refine zz7 ?_ | refine zz8 ?_ _));exact BK313.out) hb);have n11_:=zz31 (zz4 (by repeat first | exact HB.out | apply zz2 | apply zz0 | apply zz1 | refine zz3 ?_ GE254.out | refine zz3 ?_ GE268.out | refine zz3 ?_ GE273.out | refine zz3 ?_ GE282.out | refine zz3 ?_ GE313.out) hb);clear HO_269001;clear HO_274001;clear HO_283001;clear HO304;clear HO307;clear HO311;clear BK254;clear BK268;clear BK273;clear BK282;clear BK313;clear HB;have HO_269001:=n0_;have HO_274001:=n1_;have HO_283001:=n2_;have HO304:=n3_;have HO307:=n4_;have HO311:=n5_;have BK254:=n6_;have BK268:=n7_;have BK273:=n8_;have BK282:=n9_;have BK313:=n10_;have HB:=n11_;clear n0_ n1_ n2_ n3_ n4_ n5_ n6_ n7_ n8_ n9_ n10_ n11_;(try clear hb);(try clear hb2);(try clear hk);(try clear hi)))
               go_meet
               case rel=>exact ⟨_,((t312 != t267)),(by first | rfl | (simp;done) | (simp [*];done)),H',⟨by have:=HJ15.out;have:=HJ73.out;first | omega | exact Nat.le_refl _⟩,⟨by (try simp only [hl274001_73]);(with_reducible repeat (first | apply zz12 | apply zz13 | apply zz14));exact Kd.R_mono HO_269001.out (fun _ hk=>⟨hk.1.1.1,⟨hk.1.1.2,hk.2⟩⟩)⟩,⟨by (try simp only [hl274001_73]);(with_reducible repeat (first | apply zz12 | apply zz13 | apply zz14));exact Kd.R_mono HO_274001.out (fun _ hk=>⟨hk.1.1.1,⟨hk.1.1.2,hk.2⟩⟩)⟩,⟨by (try simp only [hl274001_73]);(with_reducible repeat (first | apply zz12 | apply zz13 | apply zz14));exact Kd.R_mono HO_283001.out (fun _ hk=>⟨hk.1.1.1,⟨hk.1.1.2,hk.2⟩⟩)⟩,⟨by (try simp only [hl274001_73]);(with_reducible repeat (first | apply zz12 | apply zz13 | apply zz14));exact Kd.R_mono HO311.out (fun _ hk=>⟨hk.1.1.1.2,⟨hk.1.1.2,hk.1.2⟩⟩)⟩,⟨by (try simp only [hl274001_73]);(with_reducible repeat (first | refine zz6 ?_ _ | refine zz7 ?_ | refine zz8 ?_ _));exact BK254.out⟩,⟨by (try simp only [hl274001_73]);(with_reducible repeat (first | refine zz6 ?_ _ | refine zz7 ?_ | refine zz8 ?_ _));exact BK268.out⟩,⟨by (try simp only [hl274001_73]);(with_reducible repeat (first | refine zz6 ?_ _ | refine zz7 ?_ | refine zz8 ?_ _));exact BK273.out⟩,⟨by (try simp only [hl274001_73]);(with_reducible repeat (first | refine zz6 ?_ _ | refine zz7 ?_ | refine zz8 ?_ _));exact BK282.out⟩,⟨by (try simp only [hl274001_73]);(with_reducible repeat (first | refine zz6 ?_ _ | refine zz7 ?_ | refine zz8 ?_ _));exact BK313.out⟩,⟨by repeat first | exact HB.out | apply zz2 | apply zz0 | apply zz1 | refine zz3 ?_ GE254.out | refine zz3 ?_ GE268.out | refine zz3 ?_ GE273.out | refine zz3 ?_ GE282.out | refine zz3 ?_ GE313.out⟩⟩
              ·replace c145:=Bool.eq_false_iff.mpr c145
               subst c145
               have H1:(laws_FnExactRenameParty.j2 kj73 t298 true t277 t299)=some r:=by rw [if_neg (show ¬ (false=true) by decide)] at H;exact H
               clear H
               have H:=H1
               clear H1
               have H':=zz31 H
               clear H
               have hnb156:=NB313_254.out
               have hnc156:=NB254_313.out
               have hnb157:=NB313_268.out
               have hnc157:=NB268_313.out
               have hnb158:=NB313_273.out
               have hnc158:=NB273_313.out
               have hnb159:=NB313_282.out
               have hnc159:=NB282_313.out
               have hcz160_0:w137.cell? ⟨gb313,0,none⟩=some (.int .i64 0):=(zz9 BK313.out 0).trans rfl
               have hcz160_1:w137.cell? ⟨gb313,1,none⟩=some (.slice none 0 0):=(zz9 BK313.out 1).trans rfl
               have hfz160_0:=zz10 BK313.out 0
               have hfz160_1:=zz10 BK313.out 1
               have hnb161:=NB268_254.out
               have hnc161:=NB254_268.out
               have hnb162:=NB268_273.out
               have hnc162:=NB273_268.out
               have hnb163:=NB268_282.out
               have hnc163:=NB282_268.out
               have hcz164_0:w137.cell? ⟨gb268,0,none⟩=some (.int .i64 t263):=(zz9 BK268.out 0).trans rfl
               have hcz164_1:w137.cell? ⟨gb268,1,none⟩=some (.slice Ao29 t264.length co29):=(zz9 BK268.out 1).trans rfl
               have hfz164_0:=zz10 BK268.out 0
               have hfz164_1:=zz10 BK268.out 1
               go_wp2_with (first | ((with_reducible refine gate_callee (f:=12) rfl ?_);refine goesL_ (some 102) rfl rfl Try.func12 (by kernel_rfl) rfl #[.agg #[.int .i64 t308,.slice Ao143 t309.length co143],.agg #[.int .i64 t263,.slice Ao29 t264.length co29]] rfl (by (try simp only [zz26,zz27,zz28]);first | done | rfl | (simp only [zz24,zz25];rfl)) ?_;(with_reducible refine (laws_eqParty.calls kj73 t308 _ _ t309 t263 _ _ t264 false _ ?side1 ?side2 ?side3 ?side4 A144.out).mono ?_);(case side1=>refine (Kd.R_reads' (e:=70) (base:=w.heap.size) (ok:=fun k_=>((((True∧some k_ ≠ (.slice Ao29 t264.length co29:Value).ownBlock)∧some k_ ≠ (.slice Ao36 t294.length co36:Value).ownBlock)∧some k_ ≠ (.slice Ao46 t278.length co46:Value).ownBlock)∧some k_ ≠ (.slice Ao134 t302.length co134:Value).ownBlock)) (n:=t309.length) (c:=co143) ?_).2.2;exact (by (with_reducible repeat (first | apply zz12 | apply zz13 | apply zz14));exact (Kd.R_mono (Kd.R_far (p:=⟨gb313,1,none⟩) (Kd.R_far (p:=⟨gb313,0,none⟩) (Kd.R_types HO311.out BK313.out (by decide)) (fun _ hk=>hk.2) (.int .i64 t308)) (fun _ hk=>hk.2) (.slice Ao143 t309.length co143)) (fun _ h_=>h_.1))));(case side2=>exact (Kd.R_reads' HO311.out).2.1);(case side3=>refine (Kd.R_reads' (e:=70) (base:=w.heap.size) (ok:=fun k_=>(((some k_ ≠ (.slice Ao36 t294.length co36:Value).ownBlock∧some k_ ≠ (.slice Ao46 t278.length co46:Value).ownBlock)∧some k_ ≠ (.slice Ao134 t302.length co134:Value).ownBlock)∧some k_ ≠ (.slice Ao143 t309.length co143:Value).ownBlock)) (n:=t264.length) (c:=co29) ?_).2.2;exact (by (with_reducible repeat (first | apply zz12 | apply zz13 | apply zz14));exact (Kd.R_mono (Kd.R_far (p:=⟨gb313,1,none⟩) (Kd.R_far (p:=⟨gb313,0,none⟩) (Kd.R_types HO_269001.out BK313.out (by decide)) (fun _ hk=>hk.2) (.int .i64 t308)) (fun _ hk=>hk.2) (.slice Ao143 t309.length co143)) (fun _ h_=>h_.1))));(case side4=>exact (Kd.R_reads' HO_269001.out).2.1);rintro e w165 ⟨rfl,hb⟩;refine ⟨_,rfl,?_⟩;have n0_:=zz31 (Kd.R_below (by (with_reducible repeat (first | apply zz12 | apply zz13 | apply zz14));exact (Kd.R_mono (Kd.R_far (p:=⟨gb313,1,none⟩) (Kd.R_far (p:=⟨gb313,0,none⟩) (Kd.R_types HO_269001.out BK313.out (by decide)) (fun _ hk=>hk.2) (.int .i64 t308)) (fun _ hk=>hk.2) (.slice Ao143 t309.length co143)) (fun _ h_=>h_.1))) hb);have n1_:=zz31 (Kd.R_below (by (with_reducible repeat (first | apply zz12 | apply zz13 | apply zz14));exact (Kd.R_mono (Kd.R_far (p:=⟨gb313,1,none⟩) (Kd.R_far (p:=⟨gb313,0,none⟩) (Kd.R_types HO_274001.out BK313.out (by decide)) (fun _ hk=>hk.2) (.int .i64 t308)) (fun _ hk=>hk.2) (.slice Ao143 t309.length co143)) (fun _ h_=>h_.1))) hb);have n2_:=zz31 (Kd.R_below (by (with_reducible repeat (first | apply zz12 | apply zz13 | apply zz14));exact (Kd.R_mono (Kd.R_far (p:=⟨gb313,1,none⟩) (Kd.R_far (p:=⟨gb313,0,none⟩) (Kd.R_types HO_283001.out BK313.out (by decide)) (fun _ hk=>hk.2) (.int .i64 t308)) (fun _ hk=>hk.2) (.slice Ao143 t309.length co143)) (fun _ h_=>h_.1))) hb);have n3_:=zz31 (Kd.R_below (by (with_reducible repeat (first | apply zz12 | apply zz13 | apply zz14));exact (Kd.R_mono (Kd.R_far (p:=⟨gb313,1,none⟩) (Kd.R_far (p:=⟨gb313,0,none⟩) (Kd.R_types HO304.out BK313.out (by decide)) (fun _ hk=>hk.2) (.int .i64 t308)) (fun _ hk=>hk.2) (.slice Ao143 t309.length co143)) (fun _ h_=>h_.1))) hb);have n4_:=zz31 (Kd.R_below (by (with_reducible repeat (first | apply zz12 | apply zz13 | apply zz14));exact (Kd.R_mono (Kd.R_far (p:=⟨gb313,1,none⟩) (Kd.R_far (p:=⟨gb313,0,none⟩) (Kd.R_types HO307.out BK313.out (by decide)) (fun _ hk=>hk.2) (.int .i64 t308)) (fun _ hk=>hk.2) (.slice Ao143 t309.length co143)) (fun _ h_=>h_.1))) hb);have n5_:=zz31 (Kd.R_below (by (with_reducible repeat (first | apply zz12 | apply zz13 | apply zz14));exact (Kd.R_mono (Kd.R_far (p:=⟨gb313,1,none⟩) (Kd.R_far (p:=⟨gb313,0,none⟩) (Kd.R_types HO311.out BK313.out (by decide)) (fun _ hk=>hk.2) (.int .i64 t308)) (fun _ hk=>hk.2) (.slice Ao143 t309.length co143)) (fun _ h_=>h_.1))) hb);have n6_:=zz31 (zz11 (g:=gb254) (o:=.cells #[.int .i64 a0_0,.slice A0_1 l0_1.length c0_1] 24 (0,0)) (by (with_reducible repeat (first | refine zz6 ?_ _ | refine zz7 ?_ | refine zz8 ?_ _));refine blk_far ?_ NB254_313.out _;(with_reducible repeat (first | refine zz6 ?_ _ | refine zz7 ?_ | refine zz8 ?_ _));refine blk_far ?_ NB254_313.out _;(with_reducible repeat (first | refine zz6 ?_ _ | refine zz7 ?_ | refine zz8 ?_ _));exact BK254.out) hb);have n7_:=zz31 (zz11 (g:=gb268) (o:=.cells #[.int .i64 t263,.slice Ao29 t264.length co29] 30 (0,0)) (by (with_reducible repeat (first | refine zz6 ?_ _ | refine zz7 ?_ | refine zz8 ?_ _));refine blk_far ?_ NB268_313.out _;(with_reducible repeat (first | refine zz6 ?_ _ | refine zz7 ?_ | refine zz8 ?_ _));refine blk_far ?_ NB268_313.out _;(with_reducible repeat (first | refine zz6 ?_ _ | refine zz7 ?_ | refine zz8 ?_ _));exact BK268.out) hb);have n8_:=zz31 (zz11 (g:=gb273) (o:=.cells #[.int .i64 t269,.slice Ao36 t294.length co36] 30 (0,0)) (by (with_reducible repeat (first | refine zz6 ?_ _ | refine zz7 ?_ | refine zz8 ?_ _));refine blk_far ?_ NB273_313.out _;(with_reducible repeat (first | refine zz6 ?_ _ | refine zz7 ?_ | refine zz8 ?_ _));refine blk_far ?_ NB273_313.out _;(with_reducible repeat (first | refine zz6 ?_ _ | refine zz7 ?_ | refine zz8 ?_ _));exact BK273.out) hb);have n9_:=zz31 (zz11 (g:=gb282) (o:=.cells #[.int .i64 t277,.slice Ao46 t278.length co46] 30 (0,0)) (by (with_reducible repeat (first | refine zz6 ?_ _ | refine zz7 ?_ | refine zz8 ?_ _));refine blk_far ?_ NB282_313.out _;(with_reducible repeat (first | refine zz6 ?_ _ | refine zz7 ?_ | refine zz8 ?_ _));refine blk_far ?_ NB282_313.out _;(with_reducible repeat (first | refine zz6 ?_ _ | refine zz7 ?_ | refine zz8 ?_ _));exact BK282.out) hb);have n10_:=zz31 (zz11 (g:=gb313) (o:=.cells #[.int .i64 t308,.slice Ao143 t309.length co143] 30 (0,0)) (by (with_reducible repeat (first | refine zz6 ?_ _ | refine zz7 ?_ | refine zz8 ?_ _));refine blk_put (cs:=#[.int .i64 t308,.slice none 0 0]) ?_ 1 _ rfl;(with_reducible repeat (first | refine zz6 ?_ _ | refine zz7 ?_ | refine zz8 ?_ _));refine blk_put (cs:=#[.int .i64 0,.slice none 0 0]) ?_ 0 _ rfl;(with_reducible repeat (first | refine zz6 ?_ _ | refine zz7 ?_ | refine zz8 ?_ _));exact BK313.out) hb);have n11_:=zz31 (zz4 (by repeat first | exact HB.out | apply zz2 | apply zz0 | apply zz1 | refine zz3 ?_ GE254.out | refine zz3 ?_ GE268.out | refine zz3 ?_ GE273.out | refine zz3 ?_ GE282.out | refine zz3 ?_ GE313.out) hb);clear HO_269001;clear HO_274001;clear HO_283001;clear HO304;clear HO307;clear HO311;clear BK254;clear BK268;clear BK273;clear BK282;clear BK313;clear HB;have HO_269001:=n0_;have HO_274001:=n1_;have HO_283001:=n2_;have HO304:=n3_;have HO307:=n4_;have HO311:=n5_;have BK254:=n6_;have BK268:=n7_;have BK273:=n8_;have BK282:=n9_;have BK313:=n10_;have HB:=n11_;clear n0_ n1_ n2_ n3_ n4_ n5_ n6_ n7_ n8_ n9_ n10_ n11_;(try clear hb);(try clear hb2);(try clear hk);(try clear hi)))
               go_meet
               case rel=>exact ⟨_,(true),(by first | rfl | (simp;done) | (simp [*];done)),H',⟨by have:=HJ15.out;have:=HJ73.out;first | omega | exact Nat.le_refl _⟩,⟨by (try simp only [hl274001_73]);(with_reducible repeat (first | apply zz12 | apply zz13 | apply zz14));exact Kd.R_mono HO_269001.out (fun _ hk=>⟨hk.1.1.1,⟨hk.1.1.2,hk.2⟩⟩)⟩,⟨by (try simp only [hl274001_73]);(with_reducible repeat (first | apply zz12 | apply zz13 | apply zz14));exact Kd.R_mono HO_274001.out (fun _ hk=>⟨hk.1.1.1,⟨hk.1.1.2,hk.2⟩⟩)⟩,⟨by (try simp only [hl274001_73]);(with_reducible repeat (first | apply zz12 | apply zz13 | apply zz14));exact Kd.R_mono HO_283001.out (fun _ hk=>⟨hk.1.1.1,⟨hk.1.1.2,hk.2⟩⟩)⟩,⟨by (try simp only [hl274001_73]);(with_reducible repeat (first | apply zz12 | apply zz13 | apply zz14));exact Kd.R_mono HO311.out (fun _ hk=>⟨hk.1.1.1.2,⟨hk.1.1.2,hk.1.2⟩⟩)⟩,⟨by (try simp only [hl274001_73]);(with_reducible repeat (first | refine zz6 ?_ _ | refine zz7 ?_ | refine zz8 ?_ _));exact BK254.out⟩,⟨by (try simp only [hl274001_73]);(with_reducible repeat (first | refine zz6 ?_ _ | refine zz7 ?_ | refine zz8 ?_ _));exact BK268.out⟩,⟨by (try simp only [hl274001_73]);(with_reducible repeat (first | refine zz6 ?_ _ | refine zz7 ?_ | refine zz8 ?_ _));exact BK273.out⟩,⟨by (try simp only [hl274001_73]);(with_reducible repeat (first | refine zz6 ?_ _ | refine zz7 ?_ | refine zz8 ?_ _));exact BK282.out⟩,⟨by (try simp only [hl274001_73]);(with_reducible repeat (first | refine zz6 ?_ _ | refine zz7 ?_ | refine zz8 ?_ _));exact BK313.out⟩,⟨by repeat first | exact HB.out | apply zz2 | apply zz0 | apply zz1 | refine zz3 ?_ GE254.out | refine zz3 ?_ GE268.out | refine zz3 ?_ GE273.out | refine zz3 ?_ GE282.out | refine zz3 ?_ GE313.out⟩⟩
             case rest =>
              clear HC121
              try clear c1
              try clear c2
              try clear p2
              try clear c3
              try clear c3b0
              try clear c3b1
              try clear c4
              try clear c5
              try clear c6
              try clear c6b0
              try clear c7
              try clear c8
              try clear c9
              try clear c10
              try clear c11
              try clear c12
              try clear c13
              try clear c14
              try clear c15
              try clear c16
              try clear c17
              try clear c18
              try clear c19
              try clear c20
              try clear c21
              try clear c22
              try clear c23
              try clear c27
              try clear c33
              try clear c34
              try clear c42
              try clear c43
              try clear c44
              try clear c48
              try clear c49
              try clear c50
              try clear c51
              try clear c53
              try clear c54
              try clear c57
              try clear c58
              try clear c59
              try clear c61
              try clear c62
              try clear c65
              try clear c68
              try clear c71
              try clear c81
              try clear c82
              try clear c83
              try clear c87
              try clear c87b0
              try clear c89
              try clear c90
              try clear c91
              try clear c92
              try clear c94
              try clear c95
              try clear c98
              try clear c99
              try clear c100
              try clear c102
              try clear c103
              try clear c106
              try clear c109
              try clear c109b0
              try clear c110
              try clear c111
              try clear c112
              try clear c117
              try clear c117b0
              try clear c117b1
              try clear c122
              try clear c123
              try clear c124
              try clear c129
              try clear c130
              try clear c138
              try clear c139
              try clear c140
              try clear c141
              try clear c145
              try clear c146
              try clear c147
              try clear c148
              try clear c149
              try clear c151
              try clear c152
              try clear c153
              try clear c156
              try clear c157
              try clear c158
              try clear c159
              try clear c161
              try clear c162
              try clear c163
              try clear hcz101_0
              try clear hcz101_1
              try clear hcz104_0
              try clear hcz104_1
              try clear hcz113_0
              try clear hcz113_1
              try clear hcz115_0
              try clear hcz115_1
              try clear hcz125_0
              try clear hcz125_1
              try clear hcz127_0
              try clear hcz127_1
              try clear hcz131_0
              try clear hcz131_1
              try clear hcz142_0
              try clear hcz142_1
              try clear hcz150_0
              try clear hcz150_1
              try clear hcz154_0
              try clear hcz154_1
              try clear hcz160_0
              try clear hcz160_1
              try clear hcz164_0
              try clear hcz164_1
              try clear hcz18_0
              try clear hcz18_1
              try clear hcz20_0
              try clear hcz20_1
              try clear hcz28_0
              try clear hcz28_1
              try clear hcz30_0
              try clear hcz30_1
              try clear hcz35_0
              try clear hcz35_1
              try clear hcz38_0
              try clear hcz38_1
              try clear hcz45_0
              try clear hcz45_1
              try clear hcz52_0
              try clear hcz52_1
              try clear hcz55_0
              try clear hcz55_1
              try clear hcz60_0
              try clear hcz60_1
              try clear hcz63_0
              try clear hcz63_1
              try clear hcz84_0
              try clear hcz84_1
              try clear hcz8_0
              try clear hcz8_1
              try clear hcz93_0
              try clear hcz93_1
              try clear hcz96_0
              try clear hcz96_1
              try clear hfz101_0
              try clear hfz101_1
              try clear hfz104_0
              try clear hfz104_1
              try clear hfz113_0
              try clear hfz113_1
              try clear hfz115_0
              try clear hfz115_1
              try clear hfz125_0
              try clear hfz125_1
              try clear hfz127_0
              try clear hfz127_1
              try clear hfz131_0
              try clear hfz131_1
              try clear hfz142_0
              try clear hfz142_1
              try clear hfz150_0
              try clear hfz150_1
              try clear hfz154_0
              try clear hfz154_1
              try clear hfz160_0
              try clear hfz160_1
              try clear hfz164_0
              try clear hfz164_1
              try clear hfz18_0
              try clear hfz18_1
              try clear hfz20_0
              try clear hfz20_1
              try clear hfz28_0
              try clear hfz28_1
              try clear hfz30_0
              try clear hfz30_1
              try clear hfz35_0
              try clear hfz35_1
              try clear hfz38_0
              try clear hfz38_1
              try clear hfz45_0
              try clear hfz45_1
              try clear hfz52_0
              try clear hfz52_1
              try clear hfz55_0
              try clear hfz55_1
              try clear hfz60_0
              try clear hfz60_1
              try clear hfz63_0
              try clear hfz63_1
              try clear hfz84_0
              try clear hfz84_1
              try clear hfz8_0
              try clear hfz8_1
              try clear hfz93_0
              try clear hfz93_1
              try clear hfz96_0
              try clear hfz96_1
              try clear p2
              obtain ⟨kq,x108_120,rfl,HA,HJ120,HO_269001,HO_274001,HO_283001,HO_314001,BK254,BK268,BK273,BK282,BK313,HB⟩:=hcut
              have hl283001_120:=(Kd.R_reads' HO_283001.out).1
              rw [hl283001_120] at HO_283001
              (try simp only [hl283001_120])
              (try simp only [hl283001_120] at BK254)
              (try simp only [hl283001_120] at BK268)
              (try simp only [hl283001_120] at BK273)
              (try simp only [hl283001_120] at BK282)
              (try simp only [hl283001_120] at BK313)
              (try simp only [hl283001_120] at HO_269001)
              (try simp only [hl283001_120] at HO_274001)
              (try simp only [hl283001_120] at HO_314001)
              cases kq with
              | zero=>exact absurd HA.out (by simp [laws_FnExactRenameParty.j2])
              | succ kj120 =>
               have H:=HA.out
               clear HA
               simp only [laws_FnExactRenameParty.j2] at H
               by_cases c166:x108_120=true
               ·subst c166
                have H1:(some false)=some r:=by rw [if_pos rfl] at H;exact H
                clear H
                have H:=H1
                clear H1
                obtain rfl:=Option.some.inj H
                go_wp2
                go_ret
                exact ⟨by first | rfl | (simp [errW_none,errW_some] <;> rfl) | (simp [*,errW_none,errW_some] <;> rfl),by repeat first | exact HB.out | apply zz2 | apply zz0 | apply zz1 | refine zz3 ?_ GE254.out | refine zz3 ?_ GE268.out | refine zz3 ?_ GE273.out | refine zz3 ?_ GE282.out | refine zz3 ?_ GE313.out⟩
               ·replace c166:=Bool.eq_false_iff.mpr c166
                subst c166
                have H1:((laws_heldParty.f kj120 t277 t299 1).bind fun t315=>(if t315 < 0 then (some false) else (if t315=t298 then (some true) else (some false))))=some r:=by rw [if_neg (show ¬ (false=true) by decide)] at H;exact H
                clear H
                have H:=H1
                clear H1
                replace H:=zz30.mp H
                obtain ⟨t315,A1670,H⟩:=H
                replace H:(if t315 < 0 then (some false) else (if t315=t298 then (some true) else (some false)))=some r:=H
                have A167:=zz31 A1670
                clear A1670
                by_cases c168:t315 < 0
                ·rw [if_pos c168] at H
                 have c168b0:decide (t315 < 0)=true:=decide_eq_true c168
                 clear c168
                 obtain rfl:=Option.some.inj H
                 have hnb169:=NB282_254.out
                 have hnc169:=NB254_282.out
                 have hnb170:=NB282_268.out
                 have hnc170:=NB268_282.out
                 have hnb171:=NB282_273.out
                 have hnc171:=NB273_282.out
                 have hnb172:=NB282_313.out
                 have hnc172:=NB313_282.out
                 have hcz173_0:wc.cell? ⟨gb282,0,none⟩=some (.int .i64 t277):=(zz9 BK282.out 0).trans rfl
                 have hcz173_1:wc.cell? ⟨gb282,1,none⟩=some (.slice Ao46 t299.length co46):=(zz9 BK282.out 1).trans rfl
                 have hfz173_0:=zz10 BK282.out 0
                 have hfz173_1:=zz10 BK282.out 1
                 go_wp2_with (first | ((with_reducible refine gate_callee (f:=18) rfl ?_);refine goesL_ (some 111) rfl rfl Try.func18 (by kernel_rfl) rfl #[.agg #[.int .i64 t277,.slice Ao46 t299.length co46],.int .i64 1] rfl (by (try simp only [zz26,zz27,zz28]);first | done | rfl | (simp only [zz24,zz25];rfl)) ?_;(with_reducible refine (laws_heldParty.calls kj120 t277 _ _ t299 1 t315 _ ?side1 ?side2 A167.out).mono ?_);(case side1=>repeat (first | exact (Kd.R_reads' HO_283001.out).2.2 | (with_reducible refine zz18 ?_ _) | (with_reducible refine zz19 ?_ _) | (with_reducible refine zz20 ?_)));(case side2=>exact (Kd.R_reads' HO_283001.out).2.1);rintro e w174 ⟨rfl,hb⟩;refine ⟨_,rfl,?_⟩;have n0_:=zz31 (Kd.R_below (by (with_reducible repeat (first | apply zz12 | apply zz13 | apply zz14));exact HO_269001.out) hb);have n1_:=zz31 (Kd.R_below (by (with_reducible repeat (first | apply zz12 | apply zz13 | apply zz14));exact HO_274001.out) hb);have n2_:=zz31 (Kd.R_below (by (with_reducible repeat (first | apply zz12 | apply zz13 | apply zz14));exact HO_283001.out) hb);have n3_:=zz31 (Kd.R_below (by (with_reducible repeat (first | apply zz12 | apply zz13 | apply zz14));exact HO_314001.out) hb);have n4_:=zz31 (zz11 (g:=gb254) (o:=.cells #[.int .i64 a0_0,.slice A0_1 l0_1.length c0_1] 24 (0,0)) (by (with_reducible repeat (first | refine zz6 ?_ _ | refine zz7 ?_ | refine zz8 ?_ _));exact BK254.out) hb);have n5_:=zz31 (zz11 (g:=gb268) (o:=.cells #[.int .i64 t263,.slice Ao29 t264.length co29] 30 (0,0)) (by (with_reducible repeat (first | refine zz6 ?_ _ | refine zz7 ?_ | refine zz8 ?_ _));exact BK268.out) hb);have n6_:=zz31 (zz11 (g:=gb273) (o:=.cells #[.int .i64 t269,.slice Ao36 t294.length co36] 30 (0,0)) (by (with_reducible repeat (first | refine zz6 ?_ _ | refine zz7 ?_ | refine zz8 ?_ _));exact BK273.out) hb);have n7_:=zz31 (zz11 (g:=gb282) (o:=.cells #[.int .i64 t277,.slice Ao46 t299.length co46] 30 (0,0)) (by (with_reducible repeat (first | refine zz6 ?_ _ | refine zz7 ?_ | refine zz8 ?_ _));exact BK282.out) hb);have n8_:=zz31 (zz11 (g:=gb313) (o:=.cells #[.int .i64 t308,.slice Ao143 t309.length co143] 30 (0,0)) (by (with_reducible repeat (first | refine zz6 ?_ _ | refine zz7 ?_ | refine zz8 ?_ _));exact BK313.out) hb);have n9_:=zz31 (zz4 (by repeat first | exact HB.out | apply zz2 | apply zz0 | apply zz1 | refine zz3 ?_ GE254.out | refine zz3 ?_ GE268.out | refine zz3 ?_ GE273.out | refine zz3 ?_ GE282.out | refine zz3 ?_ GE313.out) hb);clear HO_269001;clear HO_274001;clear HO_283001;clear HO_314001;clear BK254;clear BK268;clear BK273;clear BK282;clear BK313;clear HB;have HO_269001:=n0_;have HO_274001:=n1_;have HO_283001:=n2_;have HO_314001:=n3_;have BK254:=n4_;have BK268:=n5_;have BK273:=n6_;have BK282:=n7_;have BK313:=n8_;have HB:=n9_;clear n0_ n1_ n2_ n3_ n4_ n5_ n6_ n7_ n8_ n9_;(try clear hb);(try clear hb2);(try clear hk);(try clear hi)))
                 go_ret
                 exact ⟨by first | rfl | (simp [errW_none,errW_some] <;> rfl) | (simp [*,errW_none,errW_some] <;> rfl),by repeat first | exact HB.out | apply zz2 | apply zz0 | apply zz1 | refine zz3 ?_ GE254.out | refine zz3 ?_ GE268.out | refine zz3 ?_ GE273.out | refine zz3 ?_ GE282.out | refine zz3 ?_ GE313.out⟩
                ·rw [if_neg c168] at H
                 have c168b0:decide (t315 < 0)=false:=decide_eq_false c168
                 clear c168
                 by_cases c175:t315=t298
                 ·rw [if_pos c175] at H
                  have c175b0:(t315 == t298)=true:=beq_iff_eq.mpr c175
                  have c175b1:(t315 != t298)=false:=bne_eq_false_iff_eq.mpr c175
                  clear c175
                  obtain rfl:=Option.some.inj H
                  have hnb176:=NB282_254.out
                  have hnc176:=NB254_282.out
                  have hnb177:=NB282_268.out
                  have hnc177:=NB268_282.out
                  have hnb178:=NB282_273.out
                  have hnc178:=NB273_282.out
                  have hnb179:=NB282_313.out
                  have hnc179:=NB313_282.out
                  have hcz180_0:wc.cell? ⟨gb282,0,none⟩=some (.int .i64 t277):=(zz9 BK282.out 0).trans rfl
                  have hcz180_1:wc.cell? ⟨gb282,1,none⟩=some (.slice Ao46 t299.length co46):=(zz9 BK282.out 1).trans rfl
                  have hfz180_0:=zz10 BK282.out 0
                  have hfz180_1:=zz10 BK282.out 1
                  go_wp2_with (first | ((with_reducible refine gate_callee (f:=18) rfl ?_);refine goesL_ (some 111) rfl rfl Try.func18 (by kernel_rfl) rfl #[.agg #[.int .i64 t277,.slice Ao46 t299.length co46],.int .i64 1] rfl (by (try simp only [zz26,zz27,zz28]);first | done | rfl | (simp only [zz24,zz25];rfl)) ?_;(with_reducible refine (laws_heldParty.calls kj120 t277 _ _ t299 1 t315 _ ?side1 ?side2 A167.out).mono ?_);(case side1=>repeat (first | exact (Kd.R_reads' HO_283001.out).2.2 | (with_reducible refine zz18 ?_ _) | (with_reducible refine zz19 ?_ _) | (with_reducible refine zz20 ?_)));(case side2=>exact (Kd.R_reads' HO_283001.out).2.1);rintro e w181 ⟨rfl,hb⟩;refine ⟨_,rfl,?_⟩;have n0_:=zz31 (Kd.R_below (by (with_reducible repeat (first | apply zz12 | apply zz13 | apply zz14));exact HO_269001.out) hb);have n1_:=zz31 (Kd.R_below (by (with_reducible repeat (first | apply zz12 | apply zz13 | apply zz14));exact HO_274001.out) hb);have n2_:=zz31 (Kd.R_below (by (with_reducible repeat (first | apply zz12 | apply zz13 | apply zz14));exact HO_283001.out) hb);have n3_:=zz31 (Kd.R_below (by (with_reducible repeat (first | apply zz12 | apply zz13 | apply zz14));exact HO_314001.out) hb);have n4_:=zz31 (zz11 (g:=gb254) (o:=.cells #[.int .i64 a0_0,.slice A0_1 l0_1.length c0_1] 24 (0,0)) (by (with_reducible repeat (first | refine zz6 ?_ _ | refine zz7 ?_ | refine zz8 ?_ _));exact BK254.out) hb);have n5_:=zz31 (zz11 (g:=gb268) (o:=.cells #[.int .i64 t263,.slice Ao29 t264.length co29] 30 (0,0)) (by (with_reducible repeat (first | refine zz6 ?_ _ | refine zz7 ?_ | refine zz8 ?_ _));exact BK268.out) hb);have n6_:=zz31 (zz11 (g:=gb273) (o:=.cells #[.int .i64 t269,.slice Ao36 t294.length co36] 30 (0,0)) (by (with_reducible repeat (first | refine zz6 ?_ _ | refine zz7 ?_ | refine zz8 ?_ _));exact BK273.out) hb);have n7_:=zz31 (zz11 (g:=gb282) (o:=.cells #[.int .i64 t277,.slice Ao46 t299.length co46] 30 (0,0)) (by (with_reducible repeat (first | refine zz6 ?_ _ | refine zz7 ?_ | refine zz8 ?_ _));exact BK282.out) hb);have n8_:=zz31 (zz11 (g:=gb313) (o:=.cells #[.int .i64 t308,.slice Ao143 t309.length co143] 30 (0,0)) (by (with_reducible repeat (first | refine zz6 ?_ _ | refine zz7 ?_ | refine zz8 ?_ _));exact BK313.out) hb);have n9_:=zz31 (zz4 (by repeat first | exact HB.out | apply zz2 | apply zz0 | apply zz1 | refine zz3 ?_ GE254.out | refine zz3 ?_ GE268.out | refine zz3 ?_ GE273.out | refine zz3 ?_ GE282.out | refine zz3 ?_ GE313.out) hb);clear HO_269001;clear HO_274001;clear HO_283001;clear HO_314001;clear BK254;clear BK268;clear BK273;clear BK282;clear BK313;clear HB;have HO_269001:=n0_;have HO_274001:=n1_;have HO_283001:=n2_;have HO_314001:=n3_;have BK254:=n4_;have BK268:=n5_;have BK273:=n6_;have BK282:=n7_;have BK313:=n8_;have HB:=n9_;clear n0_ n1_ n2_ n3_ n4_ n5_ n6_ n7_ n8_ n9_;(try clear hb);(try clear hb2);(try clear hk);(try clear hi)))
                  go_ret
                  exact ⟨by first | rfl | (simp [errW_none,errW_some] <;> rfl) | (simp [*,errW_none,errW_some] <;> rfl),by repeat first | exact HB.out | apply zz2 | apply zz0 | apply zz1 | refine zz3 ?_ GE254.out | refine zz3 ?_ GE268.out | refine zz3 ?_ GE273.out | refine zz3 ?_ GE282.out | refine zz3 ?_ GE313.out⟩
                 ·rw [if_neg c175] at H
                  have c175b0:(t315 == t298)=false:=beq_eq_false_iff_ne.mpr c175
                  have c175b1:(t315 != t298)=true:=bne_iff_ne.mpr c175
                  obtain rfl:=Option.some.inj H
                  have hnb182:=NB282_254.out
                  have hnc182:=NB254_282.out
                  have hnb183:=NB282_268.out
                  have hnc183:=NB268_282.out
                  have hnb184:=NB282_273.out
                  have hnc184:=NB273_282.out
                  have hnb185:=NB282_313.out
                  have hnc185:=NB313_282.out
                  have hcz186_0:wc.cell? ⟨gb282,0,none⟩=some (.int .i64 t277):=(zz9 BK282.out 0).trans rfl
                  have hcz186_1:wc.cell? ⟨gb282,1,none⟩=some (.slice Ao46 t299.length co46):=(zz9 BK282.out 1).trans rfl
                  have hfz186_0:=zz10 BK282.out 0
                  have hfz186_1:=zz10 BK282.out 1
                  go_wp2_with (first | ((with_reducible refine gate_callee (f:=18) rfl ?_);refine goesL_ (some 111) rfl rfl Try.func18 (by kernel_rfl) rfl #[.agg #[.int .i64 t277,.slice Ao46 t299.length co46],.int .i64 1] rfl (by (try simp only [zz26,zz27,zz28]);first | done | rfl | (simp only [zz24,zz25];rfl)) ?_;(with_reducible refine (laws_heldParty.calls kj120 t277 _ _ t299 1 t315 _ ?side1 ?side2 A167.out).mono ?_);(case side1=>repeat (first | exact (Kd.R_reads' HO_283001.out).2.2 | (with_reducible refine zz18 ?_ _) | (with_reducible refine zz19 ?_ _) | (with_reducible refine zz20 ?_)));(case side2=>exact (Kd.R_reads' HO_283001.out).2.1);rintro e w187 ⟨rfl,hb⟩;refine ⟨_,rfl,?_⟩;have n0_:=zz31 (Kd.R_below (by (with_reducible repeat (first | apply zz12 | apply zz13 | apply zz14));exact HO_269001.out) hb);have n1_:=zz31 (Kd.R_below (by (with_reducible repeat (first | apply zz12 | apply zz13 | apply zz14));exact HO_274001.out) hb);have n2_:=zz31 (Kd.R_below (by (with_reducible repeat (first | apply zz12 | apply zz13 | apply zz14));exact HO_283001.out) hb);have n3_:=zz31 (Kd.R_below (by (with_reducible repeat (first | apply zz12 | apply zz13 | apply zz14));exact HO_314001.out) hb);have n4_:=zz31 (zz11 (g:=gb254) (o:=.cells #[.int .i64 a0_0,.slice A0_1 l0_1.length c0_1] 24 (0,0)) (by (with_reducible repeat (first | refine zz6 ?_ _ | refine zz7 ?_ | refine zz8 ?_ _));exact BK254.out) hb);have n5_:=zz31 (zz11 (g:=gb268) (o:=.cells #[.int .i64 t263,.slice Ao29 t264.length co29] 30 (0,0)) (by (with_reducible repeat (first | refine zz6 ?_ _ | refine zz7 ?_ | refine zz8 ?_ _));exact BK268.out) hb);have n6_:=zz31 (zz11 (g:=gb273) (o:=.cells #[.int .i64 t269,.slice Ao36 t294.length co36] 30 (0,0)) (by (with_reducible repeat (first | refine zz6 ?_ _ | refine zz7 ?_ | refine zz8 ?_ _));exact BK273.out) hb);have n7_:=zz31 (zz11 (g:=gb282) (o:=.cells #[.int .i64 t277,.slice Ao46 t299.length co46] 30 (0,0)) (by (with_reducible repeat (first | refine zz6 ?_ _ | refine zz7 ?_ | refine zz8 ?_ _));exact BK282.out) hb);have n8_:=zz31 (zz11 (g:=gb313) (o:=.cells #[.int .i64 t308,.slice Ao143 t309.length co143] 30 (0,0)) (by (with_reducible repeat (first | refine zz6 ?_ _ | refine zz7 ?_ | refine zz8 ?_ _));exact BK313.out) hb);have n9_:=zz31 (zz4 (by repeat first | exact HB.out | apply zz2 | apply zz0 | apply zz1 | refine zz3 ?_ GE254.out | refine zz3 ?_ GE268.out | refine zz3 ?_ GE273.out | refine zz3 ?_ GE282.out | refine zz3 ?_ GE313.out) hb);clear HO_269001;clear HO_274001;clear HO_283001;clear HO_314001;clear BK254;clear BK268;clear BK273;clear BK282;clear BK313;clear HB;have HO_269001:=n0_;have HO_274001:=n1_;have HO_283001:=n2_;have HO_314001:=n3_;have BK254:=n4_;have BK268:=n5_;have BK273:=n6_;have BK282:=n7_;have BK313:=n8_;have HB:=n9_;clear n0_ n1_ n2_ n3_ n4_ n5_ n6_ n7_ n8_ n9_;(try clear hb);(try clear hb2);(try clear hk);(try clear hi)))
                  go_ret
                  exact ⟨by first | rfl | (simp [errW_none,errW_some] <;> rfl) | (simp [*,errW_none,errW_some] <;> rfl),by repeat first | exact HB.out | apply zz2 | apply zz0 | apply zz1 | refine zz3 ?_ GE254.out | refine zz3 ?_ GE268.out | refine zz3 ?_ GE273.out | refine zz3 ?_ GE282.out | refine zz3 ?_ GE313.out⟩
            ·rw [if_neg c117] at H
             have c117b0:(t300 == t298)=false:=beq_eq_false_iff_ne.mpr c117
             have c117b1:(t300 != t298)=true:=bne_iff_ne.mpr c117
             obtain rfl:=Option.some.inj H
             have hnb188:=NB282_254.out
             have hnc188:=NB254_282.out
             have hnb189:=NB282_268.out
             have hnc189:=NB268_282.out
             have hnb190:=NB282_273.out
             have hnc190:=NB273_282.out
             have hcz191_0:wc.cell? ⟨gb282,0,none⟩=some (.int .i64 t277):=(zz9 BK282.out 0).trans rfl
             have hcz191_1:wc.cell? ⟨gb282,1,none⟩=some (.slice Ao46 t278.length co46):=(zz9 BK282.out 1).trans rfl
             have hfz191_0:=zz10 BK282.out 0
             have hfz191_1:=zz10 BK282.out 1
             go_wp2_with (first | ((with_reducible refine gate_callee (f:=17) rfl ?_);refine goesL_ (some 83) rfl rfl Try.func17 (by kernel_rfl) rfl #[.agg #[.int .i64 t277,.slice Ao46 t278.length co46],.int .i64 1] rfl (by (try simp only [zz26,zz27,zz28]);first | done | rfl | (simp only [zz24,zz25];rfl)) ?_;(with_reducible refine (laws_markParty.calls kj73 t277 (fun k_=>some k_=(.slice Ao46 t278.length co46:Value).ownBlock) (.slice Ao46 t278.length co46) t278 1 t298 t299 w _ ?side1 ?side2 A107.out).mono ?_);(case side1=>repeat first | exact HB.out | apply zz2 | apply zz0 | apply zz1 | refine zz3 ?_ GE254.out | refine zz3 ?_ GE268.out | refine zz3 ?_ GE273.out | refine zz3 ?_ GE282.out);(case side2=>exact Kd.R_tight rfl HO_283001.out);rintro e w192 ⟨rfl,hy0,hb,hkp⟩;refine ⟨_,rfl,?_⟩;have n0_:=zz31 (Kd.R_mono (ok':=fun k_=>some k_ ≠ (.slice Ao36 t294.length co36:Value).ownBlock∧some k_ ≠ (.slice Ao46 t278.length co46:Value).ownBlock) (Kd.R_keptB (HO_269001.out) hkp (fun k_ hk_ hs_=>(hk_.2) hs_)) (fun k_ hk_=>⟨hk_.1.1,hk_.1.2⟩));have n1_:=zz31 (Kd.R_mono (ok':=fun k_=>some k_ ≠ (.slice Ao29 t264.length co29:Value).ownBlock∧some k_ ≠ (.slice Ao46 t278.length co46:Value).ownBlock) (Kd.R_keptB (HO_274001.out) hkp (fun k_ hk_ hs_=>(hk_.2) hs_)) (fun k_ hk_=>⟨hk_.1.1,hk_.1.2⟩));have n2_:=zz31 (Kd.R_reok rfl hy0 (fun k_ e_=>HO_283001.out.1 k_ e_));(first | have n3_:=zz31 (blk_kept BK254.out hkp (fun hs_=>(fun e_=>(Kd.R_ne HO_283001.out BK254.out (by decide)) e_) hs_)) | have n3_:=zz31 (blk_kept (by (with_reducible repeat (first | refine zz6 ?_ _ | refine zz7 ?_ | refine zz8 ?_ _));exact BK254.out) hkp (fun hs_=>(fun e_=>(Kd.R_ne HO_283001.out BK254.out (by decide)) e_) hs_)));(first | have n4_:=zz31 (blk_kept BK268.out hkp (fun hs_=>(fun e_=>(Kd.R_ne HO_283001.out BK268.out (by decide)) e_) hs_)) | have n4_:=zz31 (blk_kept (by (with_reducible repeat (first | refine zz6 ?_ _ | refine zz7 ?_ | refine zz8 ?_ _));exact BK268.out) hkp (fun hs_=>(fun e_=>(Kd.R_ne HO_283001.out BK268.out (by decide)) e_) hs_)));(first | have n5_:=zz31 (blk_kept BK273.out hkp (fun hs_=>(fun e_=>(Kd.R_ne HO_283001.out BK273.out (by decide)) e_) hs_)) | have n5_:=zz31 (blk_kept (by (with_reducible repeat (first | refine zz6 ?_ _ | refine zz7 ?_ | refine zz8 ?_ _));exact BK273.out) hkp (fun hs_=>(fun e_=>(Kd.R_ne HO_283001.out BK273.out (by decide)) e_) hs_)));(first | have n6_:=zz31 (blk_kept BK282.out hkp (fun hs_=>(fun e_=>(Kd.R_ne HO_283001.out BK282.out (by decide)) e_) hs_)) | have n6_:=zz31 (blk_kept (by (with_reducible repeat (first | refine zz6 ?_ _ | refine zz7 ?_ | refine zz8 ?_ _));exact BK282.out) hkp (fun hs_=>(fun e_=>(Kd.R_ne HO_283001.out BK282.out (by decide)) e_) hs_)));have n7_:=zz31 (hb);clear HO_269001;clear HO_274001;clear HO_283001;clear BK254;clear BK268;clear BK273;clear BK282;clear HB;have HO_269001:=n0_;have HO_274001:=n1_;have HO_283001:=n2_;have BK254:=n3_;have BK268:=n4_;have BK273:=n5_;have BK282:=n6_;have HB:=n7_;clear n0_ n1_ n2_ n3_ n4_ n5_ n6_ n7_;(try clear hb);(try clear hkp);(try clear hy0);have hcz193_0:w192.cell? ⟨gb282,0,none⟩=some (.int .i64 t277):=(zz9 BK282.out 0).trans rfl;have hcz193_1:w192.cell? ⟨gb282,1,none⟩=some (.slice Ao46 t278.length co46):=(zz9 BK282.out 1).trans rfl;have hfz193_0:=zz10 BK282.out 0;have hfz193_1:=zz10 BK282.out 1) | ((with_reducible refine gate_callee (f:=18) rfl ?_);refine goesL_ (some 86) rfl rfl Try.func18 (by kernel_rfl) rfl #[.agg #[.int .i64 t277,.slice Ao46 t299.length co46],.int .i64 1] rfl (by (try simp only [zz26,zz27,zz28]);first | done | (rw [show t299.length=t278.length from (Kd.R_reads' HO_283001.out).1.symm] <;> rfl) | rfl | (simp only [zz24,zz25];rfl)) ?_;(with_reducible refine (laws_heldParty.calls kj73 t277 _ _ t299 1 t300 _ ?side1 ?side2 A108.out).mono ?_);(case side1=>repeat (first | exact (Kd.R_reads' HO_283001.out).2.2 | (with_reducible refine zz18 ?_ _) | (with_reducible refine zz19 ?_ _) | (with_reducible refine zz20 ?_)));(case side2=>rw [show t299.length=t278.length from (Kd.R_reads' HO_283001.out).1.symm];exact (Kd.R_reads' HO_283001.out).2.1);rintro e w194 ⟨rfl,hb⟩;refine ⟨_,rfl,?_⟩;have n0_:=zz31 (Kd.R_below (by (with_reducible repeat (first | apply zz12 | apply zz13 | apply zz14));exact HO_269001.out) hb);have n1_:=zz31 (Kd.R_below (by (with_reducible repeat (first | apply zz12 | apply zz13 | apply zz14));exact HO_274001.out) hb);have n2_:=zz31 (Kd.R_below (by (with_reducible repeat (first | apply zz12 | apply zz13 | apply zz14));exact HO_283001.out) hb);have n3_:=zz31 (zz11 (g:=gb254) (o:=.cells #[.int .i64 a0_0,.slice A0_1 l0_1.length c0_1] 24 (0,0)) (by (with_reducible repeat (first | refine zz6 ?_ _ | refine zz7 ?_ | refine zz8 ?_ _));exact BK254.out) hb);have n4_:=zz31 (zz11 (g:=gb268) (o:=.cells #[.int .i64 t263,.slice Ao29 t264.length co29] 30 (0,0)) (by (with_reducible repeat (first | refine zz6 ?_ _ | refine zz7 ?_ | refine zz8 ?_ _));exact BK268.out) hb);have n5_:=zz31 (zz11 (g:=gb273) (o:=.cells #[.int .i64 t269,.slice Ao36 t294.length co36] 30 (0,0)) (by (with_reducible repeat (first | refine zz6 ?_ _ | refine zz7 ?_ | refine zz8 ?_ _));exact BK273.out) hb);have n6_:=zz31 (zz11 (g:=gb282) (o:=.cells #[.int .i64 t277,.slice Ao46 t278.length co46] 30 (0,0)) (by (with_reducible repeat (first | refine zz6 ?_ _ | refine zz7 ?_ | refine zz8 ?_ _));exact BK282.out) hb);have n7_:=zz31 (zz4 (by repeat first | exact HB.out | apply zz2 | apply zz0 | apply zz1 | refine zz3 ?_ GE254.out | refine zz3 ?_ GE268.out | refine zz3 ?_ GE273.out | refine zz3 ?_ GE282.out) hb);clear HO_269001;clear HO_274001;clear HO_283001;clear BK254;clear BK268;clear BK273;clear BK282;clear HB;have HO_269001:=n0_;have HO_274001:=n1_;have HO_283001:=n2_;have BK254:=n3_;have BK268:=n4_;have BK273:=n5_;have BK282:=n6_;have HB:=n7_;clear n0_ n1_ n2_ n3_ n4_ n5_ n6_ n7_;(try clear hb);(try clear hb2);(try clear hk);(try clear hi)))
             go_ret
             exact ⟨by first | rfl | (simp [errW_none,errW_some] <;> rfl) | (simp [*,errW_none,errW_some] <;> rfl),by repeat first | exact HB.out | apply zz2 | apply zz0 | apply zz1 | refine zz3 ?_ GE254.out | refine zz3 ?_ GE268.out | refine zz3 ?_ GE273.out | refine zz3 ?_ GE282.out⟩
       ·replace c71:=Bool.eq_false_iff.mpr c71
        subst c71
        have H1:(some false)=some r:=by rw [if_neg (show ¬ (false=true) by decide)] at H;exact H
        clear H
        have H:=H1
        clear H1
        obtain rfl:=Option.some.inj H
        try go_wp2
        have n0_:=zz31 (zz14 HO_9.out)
        have n1_:=zz31 (zz14 HO_269001.out)
        have n2_:=zz31 (zz14 HO_274001.out)
        have n3_:=zz31 (zz14 HO_283001.out)
        have n4_:=zz31 (zz7 BK254.out)
        have n5_:=zz31 (zz7 BK268.out)
        have n6_:=zz31 (zz7 BK273.out)
        have n7_:=zz31 (zz7 BK282.out)
        have n8_:=zz31 (zz1 HB.out)
        clear HO_9
        clear HO_269001
        clear HO_274001
        clear HO_283001
        clear BK254
        clear BK268
        clear BK273
        clear BK282
        clear HB
        have HO_9:=n0_
        have HO_269001:=n1_
        have HO_274001:=n2_
        have HO_283001:=n3_
        have BK254:=n4_
        have BK268:=n5_
        have BK273:=n6_
        have BK282:=n7_
        have HB:=n8_
        clear n0_ n1_ n2_ n3_ n4_ n5_ n6_ n7_ n8_
        refine start_ (n:=5) (S:=fun w'=>w'.cell? ⟨gb273,0,none⟩=some (.int .i64 t269)∧w'.cell? ⟨gb273,1,none⟩=some (.slice Ao36 t270.length co36)∧w'.cell? ⟨gb254,0,none⟩=some (.int .i64 a0_0)∧w'.cell? ⟨gb254,1,none⟩=some (.slice A0_1 l0_1.length c0_1)) (ds:=[]) #[F,F,F,F,F] (by kernel_rfl) rfl rfl ⟨(zz9 BK273.out 0).trans rfl,(zz9 BK273.out 1).trans rfl,(zz9 BK254.out 0).trans rfl,(zz9 BK254.out 1).trans rfl⟩ (fun hHeld=>?_)
        generalize wc.drew=w195 at HO_9 HO_269001 HO_274001 HO_283001 BK254 BK268 BK273 BK282 HB hHeld ⊢
        refine take_ (i:=0) (N:=some 52) (v:=?_) (a':=?_) #[T,F,F,F,F] rfl rfl (by kernel_rfl) (fun _ _ _ h=>h) (Or.inl ⟨by rfl,?_⟩) hHeld ?_ ?_
        rotate_left
        ·rintro w' ⟨s0,s1,s2,s3⟩
         go_simp
         with_reducible rfl
        rotate_left
        ·simp only [Act.put,zz21,zz22,zz23,i64_w,i32_w]
         rfl
        refine take_ (i:=1) (N:=some 53) (v:=?_) (a':=?_) #[T,T,F,F,F] rfl rfl (by kernel_rfl) (fun _ _ _ h=>h) (Or.inl ⟨by rfl,?_⟩) hHeld ?_ ?_
        rotate_left
        ·rintro w' ⟨s0,s1,s2,s3⟩
         go_simp
         with_reducible rfl
        rotate_left
        ·simp only [Act.put,zz21,zz22,zz23,i64_w,i32_w]
         rfl
        refine one_ (i:=2) (N:=some 54) #[T,T,T,F,F] rfl rfl (by kernel_rfl) (by decide) (fun K hK=>?_)
        refine goes_ Try.func10 (by kernel_rfl) rfl #[.agg #[.int .i64 a0_0,.slice A0_1 l0_1.length c0_1]] (by rfl) rfl rfl (by (try simp only [zz26,zz27,zz28]);first | done | rfl | (simp only [zz24,zz25];rfl)) ?_
        with_reducible refine (laws_toParty.calls kj15 a0_0 _ _ l0_1 t284 t285 _ ?side1 ?side2 A66.out).mono ?_
        (case side1=>repeat (first | exact (Kd.C_below HR0_1.out HB.out) | (with_reducible refine zz18 ?_ _) | (with_reducible refine zz19 ?_ _) | (with_reducible refine zz20 ?_)))
        (case side2=>exact HC0_1.out)
        rintro e w196 ⟨v286,rfl,ho0,hb⟩
        refine ⟨_,rfl,?_⟩
        have n0_:=zz31 (Kd.R_below (by (with_reducible repeat (first | apply zz12 | apply zz13 | apply zz14));exact HO_9.out) hb)
        have n1_:=zz31 (Kd.R_elder' (by (with_reducible repeat (first | apply zz12 | apply zz13 | apply zz14));exact HO_269001.out) (Kd.R_base ho0) hb)
        have n2_:=zz31 (Kd.R_elder' (by (with_reducible repeat (first | apply zz12 | apply zz13 | apply zz14));exact HO_274001.out) (Kd.R_base ho0) hb)
        have n3_:=zz31 (Kd.R_elder' (by (with_reducible repeat (first | apply zz12 | apply zz13 | apply zz14));exact HO_283001.out) (Kd.R_base ho0) hb)
        have n4_:=zz31 (Kd.R_lower (Kd.R_new' (Kd.R_new' (Kd.R_new' ho0 (Kd.R_lt (by (with_reducible repeat (first | apply zz12 | apply zz13 | apply zz14));exact HO_269001.out))) (Kd.R_lt (by (with_reducible repeat (first | apply zz12 | apply zz13 | apply zz14));exact HO_274001.out))) (Kd.R_lt (by (with_reducible repeat (first | apply zz12 | apply zz13 | apply zz14));exact HO_283001.out))) (zz5 (by repeat first | exact HB.out | apply zz2 | apply zz0 | apply zz1 | refine zz3 ?_ GE254.out | refine zz3 ?_ GE268.out | refine zz3 ?_ GE273.out | refine zz3 ?_ GE282.out)))
        have n5_:=zz31 (zz11 (g:=gb254) (o:=.cells #[.int .i64 a0_0,.slice A0_1 l0_1.length c0_1] 24 (0,0)) (by (with_reducible repeat (first | refine zz6 ?_ _ | refine zz7 ?_ | refine zz8 ?_ _));exact BK254.out) hb)
        have n6_:=zz31 (zz11 (g:=gb268) (o:=.cells #[.int .i64 t263,.slice Ao29 t264.length co29] 30 (0,0)) (by (with_reducible repeat (first | refine zz6 ?_ _ | refine zz7 ?_ | refine zz8 ?_ _));exact BK268.out) hb)
        have n7_:=zz31 (zz11 (g:=gb273) (o:=.cells #[.int .i64 t269,.slice Ao36 t270.length co36] 30 (0,0)) (by (with_reducible repeat (first | refine zz6 ?_ _ | refine zz7 ?_ | refine zz8 ?_ _));exact BK273.out) hb)
        have n8_:=zz31 (zz11 (g:=gb282) (o:=.cells #[.int .i64 t277,.slice Ao46 t278.length co46] 30 (0,0)) (by (with_reducible repeat (first | refine zz6 ?_ _ | refine zz7 ?_ | refine zz8 ?_ _));exact BK282.out) hb)
        have n9_:=zz31 (zz4 (by repeat first | exact HB.out | apply zz2 | apply zz0 | apply zz1 | refine zz3 ?_ GE254.out | refine zz3 ?_ GE268.out | refine zz3 ?_ GE273.out | refine zz3 ?_ GE282.out) hb)
        clear HO_9
        clear HO_269001
        clear HO_274001
        clear HO_283001
        clear BK254
        clear BK268
        clear BK273
        clear BK282
        clear HB
        have HO_9:=n0_
        have HO_269001:=n1_
        have HO_274001:=n2_
        have HO_283001:=n3_
        have HO287:=n4_
        have BK254:=n5_
        have BK268:=n6_
        have BK273:=n7_
        have BK282:=n8_
        have HB:=n9_
        clear n0_ n1_ n2_ n3_ n4_ n5_ n6_ n7_ n8_ n9_
        (try clear hb)
        (try clear hb2)
        (try clear hk)
        (try clear hi)
        (try clear ho0)
        obtain ⟨Ao197,co197,eo197⟩:=Kd.R_slice HO287.out
        (first | subst eo197 | (injection eo197 with f1_ f2_ f3_;have f4_:=f1_.symm;have f5_:=f3_.symm;clear f1_ f2_ f3_;subst f4_;subst f5_))
        refine hK.out _ _ ⟨(zz9 BK273.out 0).trans rfl,(zz9 BK273.out 1).trans rfl,(zz9 BK254.out 0).trans rfl,(zz9 BK254.out 1).trans rfl⟩ (fun hHeld=>?_)
        clear hK K
        refine norm_ (a':=?_) ?_ ?_
        rotate_left
        ·show Act.put _ (some 54) _=_
         simp only [Act.put,zz21,zz22,zz23,i64_w,i32_w]
         rfl
        refine one_ (i:=3) (N:=some 55) #[T,T,T,T,F] rfl rfl (by kernel_rfl) (by decide) (fun K hK=>?_)
        refine goes_ Try.func12 (by kernel_rfl) rfl #[.agg #[.int .i64 t269,.slice Ao36 t270.length co36],.agg #[.int .i64 t284,.slice Ao197 t285.length co197]] (by rfl) rfl rfl (by (try simp only [zz26,zz27,zz28]);first | done | rfl | (simp only [zz24,zz25];rfl)) ?_
        with_reducible refine (laws_eqParty.calls kj15 t269 _ _ t270 t284 _ _ t285 true _ ?side1 ?side2 ?side3 ?side4 A67.out).mono ?_
        (case side1=>repeat (first | exact (Kd.R_reads' HO_274001.out).2.2 | (with_reducible refine zz18 ?_ _) | (with_reducible refine zz19 ?_ _) | (with_reducible refine zz20 ?_)))
        (case side2=>exact (Kd.R_reads' HO_274001.out).2.1)
        (case side3=>repeat (first | exact (Kd.R_reads' HO287.out).2.2 | (with_reducible refine zz18 ?_ _) | (with_reducible refine zz19 ?_ _) | (with_reducible refine zz20 ?_)))
        (case side4=>exact (Kd.R_reads' HO287.out).2.1)
        rintro e w198 ⟨rfl,hb⟩
        refine ⟨_,rfl,?_⟩
        have n0_:=zz31 (Kd.R_below (by (with_reducible repeat (first | apply zz12 | apply zz13 | apply zz14));exact HO_9.out) hb)
        have n1_:=zz31 (Kd.R_below (by (with_reducible repeat (first | apply zz12 | apply zz13 | apply zz14));exact HO_269001.out) hb)
        have n2_:=zz31 (Kd.R_below (by (with_reducible repeat (first | apply zz12 | apply zz13 | apply zz14));exact HO_274001.out) hb)
        have n3_:=zz31 (Kd.R_below (by (with_reducible repeat (first | apply zz12 | apply zz13 | apply zz14));exact HO_283001.out) hb)
        have n4_:=zz31 (Kd.R_below (by (with_reducible repeat (first | apply zz12 | apply zz13 | apply zz14));exact HO287.out) hb)
        have n5_:=zz31 (zz11 (g:=gb254) (o:=.cells #[.int .i64 a0_0,.slice A0_1 l0_1.length c0_1] 24 (0,0)) (by (with_reducible repeat (first | refine zz6 ?_ _ | refine zz7 ?_ | refine zz8 ?_ _));exact BK254.out) hb)
        have n6_:=zz31 (zz11 (g:=gb268) (o:=.cells #[.int .i64 t263,.slice Ao29 t264.length co29] 30 (0,0)) (by (with_reducible repeat (first | refine zz6 ?_ _ | refine zz7 ?_ | refine zz8 ?_ _));exact BK268.out) hb)
        have n7_:=zz31 (zz11 (g:=gb273) (o:=.cells #[.int .i64 t269,.slice Ao36 t270.length co36] 30 (0,0)) (by (with_reducible repeat (first | refine zz6 ?_ _ | refine zz7 ?_ | refine zz8 ?_ _));exact BK273.out) hb)
        have n8_:=zz31 (zz11 (g:=gb282) (o:=.cells #[.int .i64 t277,.slice Ao46 t278.length co46] 30 (0,0)) (by (with_reducible repeat (first | refine zz6 ?_ _ | refine zz7 ?_ | refine zz8 ?_ _));exact BK282.out) hb)
        have n9_:=zz31 (zz4 (by repeat first | exact HB.out | apply zz2 | apply zz0 | apply zz1 | refine zz3 ?_ GE254.out | refine zz3 ?_ GE268.out | refine zz3 ?_ GE273.out | refine zz3 ?_ GE282.out) hb)
        clear HO_9
        clear HO_269001
        clear HO_274001
        clear HO_283001
        clear HO287
        clear BK254
        clear BK268
        clear BK273
        clear BK282
        clear HB
        have HO_9:=n0_
        have HO_269001:=n1_
        have HO_274001:=n2_
        have HO_283001:=n3_
        have HO287:=n4_
        have BK254:=n5_
        have BK268:=n6_
        have BK273:=n7_
        have BK282:=n8_
        have HB:=n9_
        clear n0_ n1_ n2_ n3_ n4_ n5_ n6_ n7_ n8_ n9_
        (try clear hb)
        (try clear hb2)
        (try clear hk)
        (try clear hi)
        refine hK.out _ _ ⟨(zz9 BK273.out 0).trans rfl,(zz9 BK273.out 1).trans rfl,(zz9 BK254.out 0).trans rfl,(zz9 BK254.out 1).trans rfl⟩ (fun hHeld=>?_)
        clear hK K
        refine norm_ (a':=?_) ?_ ?_
        rotate_left
        ·show Act.put _ (some 55) _=_
         simp only [Act.put,zz21,zz22,zz23,i64_w,i32_w]
         rfl
        refine pure_ (i:=4) (N:=some 56) (v:=?_) (a':=?_) #[T,T,T,T,T] rfl rfl (by kernel_rfl) (fun _ _ _ h=>h) (Or.inl ⟨by rfl,?_⟩) ?_ ?_
        rotate_left
        ·intro w'
         go_simp
         with_reducible rfl
        rotate_left
        ·simp only [Act.put,zz21,zz22,zz23,i64_w,i32_w]
         rfl
        refine done_ (by kernel_rfl) ?_
        try go_wp2_with (first | ((with_reducible refine gate_callee (f:=20) rfl ?_);refine goesL_ (some 59) rfl rfl Try.func20 (by kernel_rfl) rfl #[.slice A1 l1.length c1] rfl (by (try simp only [zz26,zz27,zz28]);first | done | rfl | (simp only [zz24,zz25];rfl)) ?_;(with_reducible refine (laws_toIntS.calls kj15 _ _ l1 t289 _ ?side1 ?side2 A69.out).mono ?_);(case side1=>repeat (first | exact (Kd.C_below HR1.out HB.out) | (with_reducible refine zz18 ?_ _) | (with_reducible refine zz19 ?_ _) | (with_reducible refine zz20 ?_)));(case side2=>exact HC1.out);rintro e w199 ⟨v290,rfl,ho0,hb⟩;refine ⟨_,rfl,?_⟩;have n0_:=zz31 (Kd.R_elder' (by (with_reducible repeat (first | apply zz12 | apply zz13 | apply zz14));exact HO_9.out) (Kd.R_base ho0) hb);have n1_:=zz31 (Kd.R_below (by (with_reducible repeat (first | apply zz12 | apply zz13 | apply zz14));exact HO_269001.out) hb);have n2_:=zz31 (Kd.R_below (by (with_reducible repeat (first | apply zz12 | apply zz13 | apply zz14));exact HO_274001.out) hb);have n3_:=zz31 (Kd.R_below (by (with_reducible repeat (first | apply zz12 | apply zz13 | apply zz14));exact HO_283001.out) hb);have n4_:=zz31 (Kd.R_below (by (with_reducible repeat (first | apply zz12 | apply zz13 | apply zz14));exact HO287.out) hb);have n5_:=zz31 (Kd.R_lower (Kd.R_new' ho0 (Kd.R_lt (by (with_reducible repeat (first | apply zz12 | apply zz13 | apply zz14));exact HO_9.out))) (zz5 (by repeat first | exact HB.out | apply zz2 | apply zz0 | apply zz1 | refine zz3 ?_ GE254.out | refine zz3 ?_ GE268.out | refine zz3 ?_ GE273.out | refine zz3 ?_ GE282.out)));have n6_:=zz31 (zz11 (g:=gb254) (o:=.cells #[.int .i64 a0_0,.slice A0_1 l0_1.length c0_1] 24 (0,0)) (by (with_reducible repeat (first | refine zz6 ?_ _ | refine zz7 ?_ | refine zz8 ?_ _));exact BK254.out) hb);have n7_:=zz31 (zz11 (g:=gb268) (o:=.cells #[.int .i64 t263,.slice Ao29 t264.length co29] 30 (0,0)) (by (with_reducible repeat (first | refine zz6 ?_ _ | refine zz7 ?_ | refine zz8 ?_ _));exact BK268.out) hb);have n8_:=zz31 (zz11 (g:=gb273) (o:=.cells #[.int .i64 t269,.slice Ao36 t270.length co36] 30 (0,0)) (by (with_reducible repeat (first | refine zz6 ?_ _ | refine zz7 ?_ | refine zz8 ?_ _));exact BK273.out) hb);have n9_:=zz31 (zz11 (g:=gb282) (o:=.cells #[.int .i64 t277,.slice Ao46 t278.length co46] 30 (0,0)) (by (with_reducible repeat (first | refine zz6 ?_ _ | refine zz7 ?_ | refine zz8 ?_ _));exact BK282.out) hb);have n10_:=zz31 (zz4 (by repeat first | exact HB.out | apply zz2 | apply zz0 | apply zz1 | refine zz3 ?_ GE254.out | refine zz3 ?_ GE268.out | refine zz3 ?_ GE273.out | refine zz3 ?_ GE282.out) hb);clear HO_9;clear HO_269001;clear HO_274001;clear HO_283001;clear HO287;clear BK254;clear BK268;clear BK273;clear BK282;clear HB;have HO_9:=n0_;have HO_269001:=n1_;have HO_274001:=n2_;have HO_283001:=n3_;have HO287:=n4_;have HO291:=n5_;have BK254:=n6_;have BK268:=n7_;have BK273:=n8_;have BK282:=n9_;have HB:=n10_;clear n0_ n1_ n2_ n3_ n4_ n5_ n6_ n7_ n8_ n9_ n10_;(try clear hb);(try clear hb2);(try clear hk);(try clear hi);(try clear ho0);obtain ⟨Ao200,co200,eo200⟩:=Kd.R_slice HO291.out;subst eo200) | ((with_reducible refine gate_callee (f:=22) rfl ?_);refine goesL_ (some 60) rfl rfl Try.func22 (by kernel_rfl) rfl #[.slice Ao39 t274.length co39,.slice Ao200 t289.length co200] rfl (by (try simp only [zz26,zz27,zz28]);first | done | rfl | (simp only [zz24,zz25];rfl)) ?_;(with_reducible refine (laws_eqIntS.calls kj15 _ _ t274 _ _ t289 false _ ?side1 ?side2 ?side3 ?side4 A70.out).mono ?_);(case side1=>repeat (first | exact (Kd.R_reads' HO_9.out).2.2 | (with_reducible refine zz18 ?_ _) | (with_reducible refine zz19 ?_ _) | (with_reducible refine zz20 ?_)));(case side2=>exact (Kd.R_reads' HO_9.out).2.1);(case side3=>repeat (first | exact (Kd.R_reads' HO291.out).2.2 | (with_reducible refine zz18 ?_ _) | (with_reducible refine zz19 ?_ _) | (with_reducible refine zz20 ?_)));(case side4=>exact (Kd.R_reads' HO291.out).2.1);rintro e w' ⟨rfl,⟨nd,rfl⟩⟩;refine ⟨_,rfl,?_⟩))
        go_ret
        exact ⟨by first | rfl | (simp [errW_none,errW_some] <;> rfl) | (simp [*,errW_none,errW_some] <;> rfl),by repeat first | exact HB.out | apply zz2 | apply zz0 | apply zz1 | refine zz3 ?_ GE254.out | refine zz3 ?_ GE268.out | refine zz3 ?_ GE273.out | refine zz3 ?_ GE282.out⟩
      ·replace c68:=Bool.eq_false_iff.mpr c68
       subst c68
       have H1:(some false)=some r:=by rw [if_neg (show ¬ (false=true) by decide)] at H;exact H
       clear H
       have H:=H1
       clear H1
       obtain rfl:=Option.some.inj H
       try go_wp2
       have n0_:=zz31 (zz14 HO_9.out)
       have n1_:=zz31 (zz14 HO_269001.out)
       have n2_:=zz31 (zz14 HO_274001.out)
       have n3_:=zz31 (zz14 HO_283001.out)
       have n4_:=zz31 (zz7 BK254.out)
       have n5_:=zz31 (zz7 BK268.out)
       have n6_:=zz31 (zz7 BK273.out)
       have n7_:=zz31 (zz7 BK282.out)
       have n8_:=zz31 (zz1 HB.out)
       clear HO_9
       clear HO_269001
       clear HO_274001
       clear HO_283001
       clear BK254
       clear BK268
       clear BK273
       clear BK282
       clear HB
       have HO_9:=n0_
       have HO_269001:=n1_
       have HO_274001:=n2_
       have HO_283001:=n3_
       have BK254:=n4_
       have BK268:=n5_
       have BK273:=n6_
       have BK282:=n7_
       have HB:=n8_
       clear n0_ n1_ n2_ n3_ n4_ n5_ n6_ n7_ n8_
       refine start_ (n:=5) (S:=fun w'=>w'.cell? ⟨gb273,0,none⟩=some (.int .i64 t269)∧w'.cell? ⟨gb273,1,none⟩=some (.slice Ao36 t270.length co36)∧w'.cell? ⟨gb254,0,none⟩=some (.int .i64 a0_0)∧w'.cell? ⟨gb254,1,none⟩=some (.slice A0_1 l0_1.length c0_1)) (ds:=[]) #[F,F,F,F,F] (by kernel_rfl) rfl rfl ⟨(zz9 BK273.out 0).trans rfl,(zz9 BK273.out 1).trans rfl,(zz9 BK254.out 0).trans rfl,(zz9 BK254.out 1).trans rfl⟩ (fun hHeld=>?_)
       generalize wc.drew=w201 at HO_9 HO_269001 HO_274001 HO_283001 BK254 BK268 BK273 BK282 HB hHeld ⊢
       refine take_ (i:=0) (N:=some 52) (v:=?_) (a':=?_) #[T,F,F,F,F] rfl rfl (by kernel_rfl) (fun _ _ _ h=>h) (Or.inl ⟨by rfl,?_⟩) hHeld ?_ ?_
       rotate_left
       ·rintro w' ⟨s0,s1,s2,s3⟩
        go_simp
        with_reducible rfl
       rotate_left
       ·simp only [Act.put,zz21,zz22,zz23,i64_w,i32_w]
        rfl
       refine take_ (i:=1) (N:=some 53) (v:=?_) (a':=?_) #[T,T,F,F,F] rfl rfl (by kernel_rfl) (fun _ _ _ h=>h) (Or.inl ⟨by rfl,?_⟩) hHeld ?_ ?_
       rotate_left
       ·rintro w' ⟨s0,s1,s2,s3⟩
        go_simp
        with_reducible rfl
       rotate_left
       ·simp only [Act.put,zz21,zz22,zz23,i64_w,i32_w]
        rfl
       refine one_ (i:=2) (N:=some 54) #[T,T,T,F,F] rfl rfl (by kernel_rfl) (by decide) (fun K hK=>?_)
       refine goes_ Try.func10 (by kernel_rfl) rfl #[.agg #[.int .i64 a0_0,.slice A0_1 l0_1.length c0_1]] (by rfl) rfl rfl (by (try simp only [zz26,zz27,zz28]);first | done | rfl | (simp only [zz24,zz25];rfl)) ?_
       with_reducible refine (laws_toParty.calls kj15 a0_0 _ _ l0_1 t284 t285 _ ?side1 ?side2 A66.out).mono ?_
       (case side1=>repeat (first | exact (Kd.C_below HR0_1.out HB.out) | (with_reducible refine zz18 ?_ _) | (with_reducible refine zz19 ?_ _) | (with_reducible refine zz20 ?_)))
       (case side2=>exact HC0_1.out)
       rintro e w202 ⟨v286,rfl,ho0,hb⟩
       refine ⟨_,rfl,?_⟩
       have n0_:=zz31 (Kd.R_below (by (with_reducible repeat (first | apply zz12 | apply zz13 | apply zz14));exact HO_9.out) hb)
       have n1_:=zz31 (Kd.R_elder' (by (with_reducible repeat (first | apply zz12 | apply zz13 | apply zz14));exact HO_269001.out) (Kd.R_base ho0) hb)
       have n2_:=zz31 (Kd.R_elder' (by (with_reducible repeat (first | apply zz12 | apply zz13 | apply zz14));exact HO_274001.out) (Kd.R_base ho0) hb)
       have n3_:=zz31 (Kd.R_elder' (by (with_reducible repeat (first | apply zz12 | apply zz13 | apply zz14));exact HO_283001.out) (Kd.R_base ho0) hb)
       have n4_:=zz31 (Kd.R_lower (Kd.R_new' (Kd.R_new' (Kd.R_new' ho0 (Kd.R_lt (by (with_reducible repeat (first | apply zz12 | apply zz13 | apply zz14));exact HO_269001.out))) (Kd.R_lt (by (with_reducible repeat (first | apply zz12 | apply zz13 | apply zz14));exact HO_274001.out))) (Kd.R_lt (by (with_reducible repeat (first | apply zz12 | apply zz13 | apply zz14));exact HO_283001.out))) (zz5 (by repeat first | exact HB.out | apply zz2 | apply zz0 | apply zz1 | refine zz3 ?_ GE254.out | refine zz3 ?_ GE268.out | refine zz3 ?_ GE273.out | refine zz3 ?_ GE282.out)))
       have n5_:=zz31 (zz11 (g:=gb254) (o:=.cells #[.int .i64 a0_0,.slice A0_1 l0_1.length c0_1] 24 (0,0)) (by (with_reducible repeat (first | refine zz6 ?_ _ | refine zz7 ?_ | refine zz8 ?_ _));exact BK254.out) hb)
       have n6_:=zz31 (zz11 (g:=gb268) (o:=.cells #[.int .i64 t263,.slice Ao29 t264.length co29] 30 (0,0)) (by (with_reducible repeat (first | refine zz6 ?_ _ | refine zz7 ?_ | refine zz8 ?_ _));exact BK268.out) hb)
       have n7_:=zz31 (zz11 (g:=gb273) (o:=.cells #[.int .i64 t269,.slice Ao36 t270.length co36] 30 (0,0)) (by (with_reducible repeat (first | refine zz6 ?_ _ | refine zz7 ?_ | refine zz8 ?_ _));exact BK273.out) hb)
       have n8_:=zz31 (zz11 (g:=gb282) (o:=.cells #[.int .i64 t277,.slice Ao46 t278.length co46] 30 (0,0)) (by (with_reducible repeat (first | refine zz6 ?_ _ | refine zz7 ?_ | refine zz8 ?_ _));exact BK282.out) hb)
       have n9_:=zz31 (zz4 (by repeat first | exact HB.out | apply zz2 | apply zz0 | apply zz1 | refine zz3 ?_ GE254.out | refine zz3 ?_ GE268.out | refine zz3 ?_ GE273.out | refine zz3 ?_ GE282.out) hb)
       clear HO_9
       clear HO_269001
       clear HO_274001
       clear HO_283001
       clear BK254
       clear BK268
       clear BK273
       clear BK282
       clear HB
       have HO_9:=n0_
       have HO_269001:=n1_
       have HO_274001:=n2_
       have HO_283001:=n3_
       have HO287:=n4_
       have BK254:=n5_
       have BK268:=n6_
       have BK273:=n7_
       have BK282:=n8_
       have HB:=n9_
       clear n0_ n1_ n2_ n3_ n4_ n5_ n6_ n7_ n8_ n9_
       (try clear hb)
       (try clear hb2)
       (try clear hk)
       (try clear hi)
       (try clear ho0)
       obtain ⟨Ao203,co203,eo203⟩:=Kd.R_slice HO287.out
       (first | subst eo203 | (injection eo203 with f1_ f2_ f3_;have f4_:=f1_.symm;have f5_:=f3_.symm;clear f1_ f2_ f3_;subst f4_;subst f5_))
       refine hK.out _ _ ⟨(zz9 BK273.out 0).trans rfl,(zz9 BK273.out 1).trans rfl,(zz9 BK254.out 0).trans rfl,(zz9 BK254.out 1).trans rfl⟩ (fun hHeld=>?_)
       clear hK K
       refine norm_ (a':=?_) ?_ ?_
       rotate_left
       ·show Act.put _ (some 54) _=_
        simp only [Act.put,zz21,zz22,zz23,i64_w,i32_w]
        rfl
       refine one_ (i:=3) (N:=some 55) #[T,T,T,T,F] rfl rfl (by kernel_rfl) (by decide) (fun K hK=>?_)
       refine goes_ Try.func12 (by kernel_rfl) rfl #[.agg #[.int .i64 t269,.slice Ao36 t270.length co36],.agg #[.int .i64 t284,.slice Ao203 t285.length co203]] (by rfl) rfl rfl (by (try simp only [zz26,zz27,zz28]);first | done | rfl | (simp only [zz24,zz25];rfl)) ?_
       with_reducible refine (laws_eqParty.calls kj15 t269 _ _ t270 t284 _ _ t285 false _ ?side1 ?side2 ?side3 ?side4 A67.out).mono ?_
       (case side1=>repeat (first | exact (Kd.R_reads' HO_274001.out).2.2 | (with_reducible refine zz18 ?_ _) | (with_reducible refine zz19 ?_ _) | (with_reducible refine zz20 ?_)))
       (case side2=>exact (Kd.R_reads' HO_274001.out).2.1)
       (case side3=>repeat (first | exact (Kd.R_reads' HO287.out).2.2 | (with_reducible refine zz18 ?_ _) | (with_reducible refine zz19 ?_ _) | (with_reducible refine zz20 ?_)))
       (case side4=>exact (Kd.R_reads' HO287.out).2.1)
       rintro e w204 ⟨rfl,hb⟩
       refine ⟨_,rfl,?_⟩
       have n0_:=zz31 (Kd.R_below (by (with_reducible repeat (first | apply zz12 | apply zz13 | apply zz14));exact HO_9.out) hb)
       have n1_:=zz31 (Kd.R_below (by (with_reducible repeat (first | apply zz12 | apply zz13 | apply zz14));exact HO_269001.out) hb)
       have n2_:=zz31 (Kd.R_below (by (with_reducible repeat (first | apply zz12 | apply zz13 | apply zz14));exact HO_274001.out) hb)
       have n3_:=zz31 (Kd.R_below (by (with_reducible repeat (first | apply zz12 | apply zz13 | apply zz14));exact HO_283001.out) hb)
       have n4_:=zz31 (Kd.R_below (by (with_reducible repeat (first | apply zz12 | apply zz13 | apply zz14));exact HO287.out) hb)
       have n5_:=zz31 (zz11 (g:=gb254) (o:=.cells #[.int .i64 a0_0,.slice A0_1 l0_1.length c0_1] 24 (0,0)) (by (with_reducible repeat (first | refine zz6 ?_ _ | refine zz7 ?_ | refine zz8 ?_ _));exact BK254.out) hb)
       have n6_:=zz31 (zz11 (g:=gb268) (o:=.cells #[.int .i64 t263,.slice Ao29 t264.length co29] 30 (0,0)) (by (with_reducible repeat (first | refine zz6 ?_ _ | refine zz7 ?_ | refine zz8 ?_ _));exact BK268.out) hb)
       have n7_:=zz31 (zz11 (g:=gb273) (o:=.cells #[.int .i64 t269,.slice Ao36 t270.length co36] 30 (0,0)) (by (with_reducible repeat (first | refine zz6 ?_ _ | refine zz7 ?_ | refine zz8 ?_ _));exact BK273.out) hb)
       have n8_:=zz31 (zz11 (g:=gb282) (o:=.cells #[.int .i64 t277,.slice Ao46 t278.length co46] 30 (0,0)) (by (with_reducible repeat (first | refine zz6 ?_ _ | refine zz7 ?_ | refine zz8 ?_ _));exact BK282.out) hb)
       have n9_:=zz31 (zz4 (by repeat first | exact HB.out | apply zz2 | apply zz0 | apply zz1 | refine zz3 ?_ GE254.out | refine zz3 ?_ GE268.out | refine zz3 ?_ GE273.out | refine zz3 ?_ GE282.out) hb)
       clear HO_9
       clear HO_269001
       clear HO_274001
       clear HO_283001
       clear HO287
       clear BK254
       clear BK268
       clear BK273
       clear BK282
       clear HB
       have HO_9:=n0_
       have HO_269001:=n1_
       have HO_274001:=n2_
       have HO_283001:=n3_
       have HO287:=n4_
       have BK254:=n5_
       have BK268:=n6_
       have BK273:=n7_
       have BK282:=n8_
       have HB:=n9_
       clear n0_ n1_ n2_ n3_ n4_ n5_ n6_ n7_ n8_ n9_
       (try clear hb)
       (try clear hb2)
       (try clear hk)
       (try clear hi)
       refine hK.out _ _ ⟨(zz9 BK273.out 0).trans rfl,(zz9 BK273.out 1).trans rfl,(zz9 BK254.out 0).trans rfl,(zz9 BK254.out 1).trans rfl⟩ (fun hHeld=>?_)
       clear hK K
       refine norm_ (a':=?_) ?_ ?_
       rotate_left
       ·show Act.put _ (some 55) _=_
        simp only [Act.put,zz21,zz22,zz23,i64_w,i32_w]
        rfl
       refine pure_ (i:=4) (N:=some 56) (v:=?_) (a':=?_) #[T,T,T,T,T] rfl rfl (by kernel_rfl) (fun _ _ _ h=>h) (Or.inl ⟨by rfl,?_⟩) ?_ ?_
       rotate_left
       ·intro w'
        go_simp
        with_reducible rfl
       rotate_left
       ·simp only [Act.put,zz21,zz22,zz23,i64_w,i32_w]
        rfl
       refine done_ (by kernel_rfl) ?_
       try go_wp2
       go_ret
       exact ⟨by first | rfl | (simp [errW_none,errW_some] <;> rfl) | (simp [*,errW_none,errW_some] <;> rfl),by repeat first | exact HB.out | apply zz2 | apply zz0 | apply zz1 | refine zz3 ?_ GE254.out | refine zz3 ?_ GE268.out | refine zz3 ?_ GE273.out | refine zz3 ?_ GE282.out⟩

end Go.Proofs.Ytoedkkoafidalaa.P
