-- PRINTED by print.py (a twelfth state) out of the translation. Not trusted: Lean checks it.
import Derived.Test.YtialimbdkokdcaaPx0
namespace Go.Proofs.Ytialimbdkokdcaa.P
open Go.RowKit Go.Proofs.YtialimbdkokdcaaW.PrintWords Go.Proofs.YtialimbdkokdcaaW.PrintLast Go.Proofs.YtialimbdkokdcaaW.PrintMore
open Bool renaming true → T, false → F
attribute [local go_sem] max2_int min2_int max_two min_two max_three min_three max_four min_four   -- for this text's walks alone
set_option linter.unusedVariables false
set_option linter.unusedSimpArgs false

/-! ### laws_szPairS: function 41 -/
def laws_szPairS.f (l0:List (S94)) (a1:Int):Option (Int):=if (wrap64 (a1 - (l0.length:Int))) < 0 then (some (-1)) else (some (wrap64 (a1 - (l0.length:Int))))
set_option maxHeartbeats 8000000 in
set_option maxRecDepth 100000 in
theorem laws_szPairS.calls (A0:Option Addr) (c0:Nat) (l0:List (S94)) (a1:Int) (r:Int) (w:World) (hr0:Kd.C k94 w A0 l0.length l0) (hc0:l0.length≤c0) (h:laws_szPairS.f l0 a1=some r) :
  Calls Try.prog 41 #[.slice A0 l0.length c0,.int .i64 a1] w fun e w'=>e=.returned (.int .i64 r)∧Drawn0 w w':=by
 have HR0:=zz31 hr0
 have HC0:=zz31 hc0
 clear hr0 hc0
 have H:(if (wrap64 (a1 - (l0.length:Int))) < 0 then (some (-1)) else (some (wrap64 (a1 - (l0.length:Int)))))=some r:=h
 clear h
 by_cases c3:(wrap64 (a1 - (l0.length:Int))) < 0
 ·rw [if_pos c3] at H
  have c3b0:decide ((wrap64 (a1 - (l0.length:Int))) < 0)=true:=decide_eq_true c3
  clear c3
  obtain rfl:=Option.some.inj H
  go_enter Try.func41,Try.ntmps41
  go_wp2
  go_ret
  exact ⟨by first | rfl | (simp;done) | (simp [*];done),by repeat (first | exact Drawn0.refl _ | apply Drawn0.step)⟩
 ·rw [if_neg c3] at H
  have c3b0:decide ((wrap64 (a1 - (l0.length:Int))) < 0)=false:=decide_eq_false c3
  clear c3
  obtain rfl:=Option.some.inj H
  go_enter Try.func41,Try.ntmps41
  go_wp2
  go_ret
  exact ⟨by first | rfl | (simp;done) | (simp [*];done),by repeat (first | exact Drawn0.refl _ | apply Drawn0.step)⟩

/-! ### laws_szParty: function 12 -/
def laws_szParty.f (a0_0:Int) (l0_1:List (S94)) (a1:Int):Option (Int):=(laws_szPairS.f l0_1 a1).bind fun t102=>(if t102 < 0 then (some (-1)) else (some t102))
set_option maxHeartbeats 8000000 in
set_option maxRecDepth 100000 in
theorem laws_szParty.calls (a0_0:Int) (A0_1:Option Addr) (c0_1:Nat) (l0_1:List (S94)) (a1:Int) (r:Int) (w:World) (hr0_1:Kd.C k94 w A0_1 l0_1.length l0_1) (hc0_1:l0_1.length≤c0_1) (h:laws_szParty.f a0_0 l0_1 a1=some r) :
  Calls Try.prog 12 #[.agg #[.int .i64 a0_0,.slice A0_1 l0_1.length c0_1],.int .i64 a1] w fun e w'=>e=.returned (.int .i64 r)∧Below w.heap.size w w':=by
 have hu24:=Try.underlying24
 have HR0_1:=zz31 hr0_1
 have HC0_1:=zz31 hc0_1
 clear hr0_1 hc0_1
 have HB:=zz31 (Below.refl w.heap.size w)
 have H:((laws_szPairS.f l0_1 a1).bind fun t102=>(if t102 < 0 then (some (-1)) else (some t102)))=some r:=h
 clear h
 replace H:=zz30.mp H
 obtain ⟨t102,A30,H⟩:=H
 replace H:(if t102 < 0 then (some (-1)) else (some t102))=some r:=H
 have A3:=zz31 A30
 clear A30
 by_cases c4:t102 < 0
 ·rw [if_pos c4] at H
  have c4b0:decide (t102 < 0)=true:=decide_eq_true c4
  clear c4
  obtain rfl:=Option.some.inj H
  go_enter Try.func12,Try.ntmps12
  go_wp2_with (first | ((with_reducible refine gate_dst (N:=2) rfl ?_);refine box_event ?hg (N:=2) ?hd (cs:=#[.int .i64 a0_0,.slice A0_1 l0_1.length c0_1]) (t:=24) ?hr ?_;(case hd=>rfl);(case hg=>rfl);(case hr=>first | (go_simp;done) | (go_simp;rfl));intro gb101 hg w5 hbox hb;have n0_:=zz31 (zz4 (by repeat first | exact HB.out | apply zz2 | apply zz0 | apply zz1) hb);have n1_:=zz31 (hbox);have n2_:=zz31 ((by rw [hg];exact (zz5 (by repeat first | exact HB.out | apply zz2 | apply zz0 | apply zz1)):w.heap.size≤gb101));have n3_:=zz31 ((by rw [hg];exact (zz5 (by repeat first | exact HB.out | apply zz2 | apply zz0 | apply zz1)):w.heap.size≤gb101));clear HB;have HB:=n0_;have BK101:=n1_;have GW101:=n2_;have GE101:=n3_;clear n0_ n1_ n2_ n3_;clear hb hbox hg;have hcz6_0:w5.cell? ⟨gb101,0,none⟩=some (.int .i64 a0_0):=(zz9 BK101.out 0).trans rfl;have hcz6_1:w5.cell? ⟨gb101,1,none⟩=some (.slice A0_1 l0_1.length c0_1):=(zz9 BK101.out 1).trans rfl;have hfz6_0:=zz10 BK101.out 0;have hfz6_1:=zz10 BK101.out 1) | ((with_reducible refine gate_callee (f:=41) rfl ?_);refine goesL_ (some 8) rfl rfl Try.func41 (by kernel_rfl) rfl #[.slice A0_1 l0_1.length c0_1,.int .i64 a1] rfl (by (try simp only [zz26,zz27,zz28]);first | done | rfl | (simp only [zz24,zz25];rfl)) ?_;(with_reducible refine (laws_szPairS.calls _ _ l0_1 a1 t102 _ ?side1 ?side2 A3.out).mono ?_);(case side1=>repeat (first | exact (Kd.C_below HR0_1.out HB.out) | (with_reducible refine zz18 ?_ _) | (with_reducible refine zz19 ?_ _) | (with_reducible refine zz20 ?_)));(case side2=>exact HC0_1.out);rintro e w' ⟨rfl,⟨nd,rfl⟩⟩;refine ⟨_,rfl,?_⟩))
  go_ret
  exact ⟨by first | rfl | (simp [errW_none,errW_some] <;> rfl) | (simp [*,errW_none,errW_some] <;> rfl),by repeat first | exact HB.out | apply zz2 | apply zz0 | apply zz1 | refine zz3 ?_ GE101.out⟩
 ·rw [if_neg c4] at H
  have c4b0:decide (t102 < 0)=false:=decide_eq_false c4
  clear c4
  obtain rfl:=Option.some.inj H
  go_enter Try.func12,Try.ntmps12
  go_wp2_with (first | ((with_reducible refine gate_dst (N:=2) rfl ?_);refine box_event ?hg (N:=2) ?hd (cs:=#[.int .i64 a0_0,.slice A0_1 l0_1.length c0_1]) (t:=24) ?hr ?_;(case hd=>rfl);(case hg=>rfl);(case hr=>first | (go_simp;done) | (go_simp;rfl));intro gb101 hg w7 hbox hb;have n0_:=zz31 (zz4 (by repeat first | exact HB.out | apply zz2 | apply zz0 | apply zz1) hb);have n1_:=zz31 (hbox);have n2_:=zz31 ((by rw [hg];exact (zz5 (by repeat first | exact HB.out | apply zz2 | apply zz0 | apply zz1)):w.heap.size≤gb101));have n3_:=zz31 ((by rw [hg];exact (zz5 (by repeat first | exact HB.out | apply zz2 | apply zz0 | apply zz1)):w.heap.size≤gb101));clear HB;have HB:=n0_;have BK101:=n1_;have GW101:=n2_;have GE101:=n3_;clear n0_ n1_ n2_ n3_;clear hb hbox hg;have hcz8_0:w7.cell? ⟨gb101,0,none⟩=some (.int .i64 a0_0):=(zz9 BK101.out 0).trans rfl;have hcz8_1:w7.cell? ⟨gb101,1,none⟩=some (.slice A0_1 l0_1.length c0_1):=(zz9 BK101.out 1).trans rfl;have hfz8_0:=zz10 BK101.out 0;have hfz8_1:=zz10 BK101.out 1) | ((with_reducible refine gate_callee (f:=41) rfl ?_);refine goesL_ (some 8) rfl rfl Try.func41 (by kernel_rfl) rfl #[.slice A0_1 l0_1.length c0_1,.int .i64 a1] rfl (by (try simp only [zz26,zz27,zz28]);first | done | rfl | (simp only [zz24,zz25];rfl)) ?_;(with_reducible refine (laws_szPairS.calls _ _ l0_1 a1 t102 _ ?side1 ?side2 A3.out).mono ?_);(case side1=>repeat (first | exact (Kd.C_below HR0_1.out HB.out) | (with_reducible refine zz18 ?_ _) | (with_reducible refine zz19 ?_ _) | (with_reducible refine zz20 ?_)));(case side2=>exact HC0_1.out);rintro e w' ⟨rfl,⟨nd,rfl⟩⟩;refine ⟨_,rfl,?_⟩))
  go_ret
  exact ⟨by first | rfl | (simp [errW_none,errW_some] <;> rfl) | (simp [*,errW_none,errW_some] <;> rfl),by repeat first | exact HB.out | apply zz2 | apply zz0 | apply zz1 | refine zz3 ?_ GE101.out⟩

/-! ### spec_l1In: function 78 -/
def spec_l1In.f (a0:Int) (a1:Int) (a2:Int):Option (Bool):=if a0 ≥ a1 then (some (decide (a0≤a2))) else (some false)
set_option maxHeartbeats 8000000 in
set_option maxRecDepth 100000 in
theorem spec_l1In.calls (a0:Int) (a1:Int) (a2:Int) (r:Bool) (w:World) (h:spec_l1In.f a0 a1 a2=some r) :
  Calls Try.prog 78 #[.int .i64 a0,.int .i64 a1,.int .i64 a2] w fun e w'=>e=.returned (.bool r)∧Drawn0 w w':=by
 have H:(if a0 ≥ a1 then (some (decide (a0≤a2))) else (some false))=some r:=h
 clear h
 by_cases c4:a0 ≥ a1
 ·rw [if_pos c4] at H
  have c4b0:decide (a1≤a0)=true:=decide_eq_true c4
  clear c4
  obtain rfl:=Option.some.inj H
  go_enter Try.func78,Try.ntmps78
  go_wp2
  go_ret
  exact ⟨by first | rfl | (simp;done) | (simp [*];done),by repeat (first | exact Drawn0.refl _ | apply Drawn0.step)⟩
 ·rw [if_neg c4] at H
  have c4b0:decide (a1≤a0)=false:=decide_eq_false c4
  clear c4
  obtain rfl:=Option.some.inj H
  go_enter Try.func78,Try.ntmps78
  go_wp2
  go_ret
  exact ⟨by first | rfl | (simp;done) | (simp [*];done),by repeat (first | exact Drawn0.refl _ | apply Drawn0.step)⟩

/-! ### spec_paPeople: function 77 -/
def spec_paPeople.f (a0:Int):Option (Bool):=(spec_l1In.f a0 0 12).bind fun t103=>(some t103)
set_option maxHeartbeats 8000000 in
set_option maxRecDepth 100000 in
theorem spec_paPeople.calls (a0:Int) (r:Bool) (w:World) (h:spec_paPeople.f a0=some r) :
  Calls Try.prog 77 #[.int .i64 a0] w fun e w'=>e=.returned (.bool r)∧Drawn0 w w':=by
 have H:((spec_l1In.f a0 0 12).bind fun t103=>(some t103))=some r:=h
 clear h
 replace H:=zz30.mp H
 obtain ⟨t103,A20,H⟩:=H
 replace H:(some t103)=some r:=H
 have A2:=zz31 A20
 clear A20
 obtain rfl:=Option.some.inj H
 go_enter Try.func77,Try.ntmps77
 go_wp2_with (first | ((with_reducible refine gate_callee (f:=78) rfl ?_);refine goesL_ (some 4) rfl rfl Try.func78 (by kernel_rfl) rfl #[.int .i64 a0,.int .i64 0,.int .i64 12] rfl (by (try simp only [zz26,zz27,zz28]);first | done | rfl | (simp only [zz24,zz25];rfl)) ?_;(with_reducible refine (spec_l1In.calls a0 0 12 t103 _ A2.out).mono ?_);rintro e w' ⟨rfl,⟨nd,rfl⟩⟩;refine ⟨_,rfl,?_⟩))
 go_ret
 exact ⟨by first | rfl | (simp;done) | (simp [*];done),by repeat (first | exact Drawn0.refl _ | apply Drawn0.step)⟩

/-! ### spec_paLess: function 79 -/
def spec_paLess.f (a0_0:Int) (a0_1:Int) (a1_0:Int) (a1_1:Int):Option (Bool):=if a0_0 < a1_0 then (some true) else (if a0_0=a1_0 then (some (decide (a0_1 < a1_1))) else (some false))
set_option maxHeartbeats 8000000 in
set_option maxRecDepth 100000 in
theorem spec_paLess.calls (a0_0:Int) (a0_1:Int) (a1_0:Int) (a1_1:Int) (r:Bool) (w:World) (h:spec_paLess.f a0_0 a0_1 a1_0 a1_1=some r) :
  Calls Try.prog 79 #[.agg #[.int .i64 a0_0,.int .i64 a0_1],.agg #[.int .i64 a1_0,.int .i64 a1_1]] w fun e w'=>e=.returned (.bool r)∧Below w.heap.size w w':=by
 have hu80:=Try.underlying80
 have HB:=zz31 (Below.refl w.heap.size w)
 have H:(if a0_0 < a1_0 then (some true) else (if a0_0=a1_0 then (some (decide (a0_1 < a1_1))) else (some false)))=some r:=h
 clear h
 by_cases c3:a0_0 < a1_0
 ·rw [if_pos c3] at H
  have c3b0:decide (a0_0 < a1_0)=true:=decide_eq_true c3
  clear c3
  obtain rfl:=Option.some.inj H
  go_enter Try.func79,Try.ntmps79
  go_wp2_with (first | ((with_reducible refine gate_dst (N:=2) rfl ?_);refine box_event ?hg (N:=2) ?hd (cs:=#[.int .i64 a0_0,.int .i64 a0_1]) (t:=80) ?hr ?_;(case hd=>rfl);(case hg=>rfl);(case hr=>first | (go_simp;done) | (go_simp;rfl));intro gb104 hg w4 hbox hb;have n0_:=zz31 (zz4 (by repeat first | exact HB.out | apply zz2 | apply zz0 | apply zz1) hb);have n1_:=zz31 (hbox);have n2_:=zz31 ((by rw [hg];exact (zz5 (by repeat first | exact HB.out | apply zz2 | apply zz0 | apply zz1)):w.heap.size≤gb104));have n3_:=zz31 ((by rw [hg];exact (zz5 (by repeat first | exact HB.out | apply zz2 | apply zz0 | apply zz1)):w.heap.size≤gb104));clear HB;have HB:=n0_;have BK104:=n1_;have GW104:=n2_;have GE104:=n3_;clear n0_ n1_ n2_ n3_;clear hb hbox hg) | ((with_reducible refine gate_dst (N:=3) rfl ?_);refine box_event ?hg (N:=3) ?hd (cs:=#[.int .i64 a1_0,.int .i64 a1_1]) (t:=80) ?hr ?_;(case hd=>rfl);(case hg=>rfl);(case hr=>first | (go_simp;done) | (go_simp;rfl));intro gb105 hg w5 hbox hb;have n0_:=zz31 (zz11 (g:=gb104) (o:=.cells #[.int .i64 a0_0,.int .i64 a0_1] 80 (0,0)) (by (with_reducible repeat (first | refine zz6 ?_ _ | refine zz7 ?_ | refine zz8 ?_ _));exact BK104.out) hb);have n1_:=zz31 (zz4 (by repeat first | exact HB.out | apply zz2 | apply zz0 | apply zz1 | refine zz3 ?_ GE104.out) hb);have n2_:=zz31 (hbox);have n3_:=zz31 ((by rw [hg];exact (zz5 (by repeat first | exact HB.out | apply zz2 | apply zz0 | apply zz1 | refine zz3 ?_ GE104.out)):w.heap.size≤gb105));have n4_:=zz31 ((by rw [hg];exact (zz5 (by repeat first | exact HB.out | apply zz2 | apply zz0 | apply zz1 | refine zz3 ?_ GE104.out)):w.heap.size≤gb105));have n5_:=zz31 ((by rw [hg];exact Nat.ne_of_lt (blk_lt (g:=gb104) (o:=.cells #[.int .i64 a0_0,.int .i64 a0_1] 80 (0,0)) (by (with_reducible repeat (first | refine zz6 ?_ _ | refine zz7 ?_ | refine zz8 ?_ _));exact BK104.out)):gb104 ≠ gb105));have n6_:=zz31 ((by rw [hg];exact Nat.ne_of_gt (blk_lt (g:=gb104) (o:=.cells #[.int .i64 a0_0,.int .i64 a0_1] 80 (0,0)) (by (with_reducible repeat (first | refine zz6 ?_ _ | refine zz7 ?_ | refine zz8 ?_ _));exact BK104.out)):gb105 ≠ gb104));clear BK104;clear HB;have BK104:=n0_;have HB:=n1_;have BK105:=n2_;have GW105:=n3_;have GE105:=n4_;have NB104_105:=n5_;have NB105_104:=n6_;clear n0_ n1_ n2_ n3_ n4_ n5_ n6_;clear hb hbox hg;have hnb6:=NB104_105.out;have hnc6:=NB105_104.out;have hcz7_0:w5.cell? ⟨gb104,0,none⟩=some (.int .i64 a0_0):=(zz9 BK104.out 0).trans rfl;have hcz7_1:w5.cell? ⟨gb104,1,none⟩=some (.int .i64 a0_1):=(zz9 BK104.out 1).trans rfl;have hfz7_0:=zz10 BK104.out 0;have hfz7_1:=zz10 BK104.out 1;have hcz8_0:w5.cell? ⟨gb105,0,none⟩=some (.int .i64 a1_0):=(zz9 BK105.out 0).trans rfl;have hcz8_1:w5.cell? ⟨gb105,1,none⟩=some (.int .i64 a1_1):=(zz9 BK105.out 1).trans rfl;have hfz8_0:=zz10 BK105.out 0;have hfz8_1:=zz10 BK105.out 1))
  go_ret
  exact ⟨by first | rfl | (simp [errW_none,errW_some] <;> rfl) | (simp [*,errW_none,errW_some] <;> rfl),by repeat first | exact HB.out | apply zz2 | apply zz0 | apply zz1 | refine zz3 ?_ GE104.out | refine zz3 ?_ GE105.out⟩
 ·rw [if_neg c3] at H
  have c3b0:decide (a0_0 < a1_0)=false:=decide_eq_false c3
  clear c3
  by_cases c9:a0_0=a1_0
  ·rw [if_pos c9] at H
   have c9b0:(a0_0 == a1_0)=true:=beq_iff_eq.mpr c9
   have c9b1:(a0_0 != a1_0)=false:=bne_eq_false_iff_eq.mpr c9
   clear c9
   obtain rfl:=Option.some.inj H
   go_enter Try.func79,Try.ntmps79
   go_wp2_with (first | ((with_reducible refine gate_dst (N:=2) rfl ?_);refine box_event ?hg (N:=2) ?hd (cs:=#[.int .i64 a0_0,.int .i64 a0_1]) (t:=80) ?hr ?_;(case hd=>rfl);(case hg=>rfl);(case hr=>first | (go_simp;done) | (go_simp;rfl));intro gb104 hg w10 hbox hb;have n0_:=zz31 (zz4 (by repeat first | exact HB.out | apply zz2 | apply zz0 | apply zz1) hb);have n1_:=zz31 (hbox);have n2_:=zz31 ((by rw [hg];exact (zz5 (by repeat first | exact HB.out | apply zz2 | apply zz0 | apply zz1)):w.heap.size≤gb104));have n3_:=zz31 ((by rw [hg];exact (zz5 (by repeat first | exact HB.out | apply zz2 | apply zz0 | apply zz1)):w.heap.size≤gb104));clear HB;have HB:=n0_;have BK104:=n1_;have GW104:=n2_;have GE104:=n3_;clear n0_ n1_ n2_ n3_;clear hb hbox hg) | ((with_reducible refine gate_dst (N:=3) rfl ?_);refine box_event ?hg (N:=3) ?hd (cs:=#[.int .i64 a1_0,.int .i64 a1_1]) (t:=80) ?hr ?_;(case hd=>rfl);(case hg=>rfl);(case hr=>first | (go_simp;done) | (go_simp;rfl));intro gb105 hg w11 hbox hb;have n0_:=zz31 (zz11 (g:=gb104) (o:=.cells #[.int .i64 a0_0,.int .i64 a0_1] 80 (0,0)) (by (with_reducible repeat (first | refine zz6 ?_ _ | refine zz7 ?_ | refine zz8 ?_ _));exact BK104.out) hb);have n1_:=zz31 (zz4 (by repeat first | exact HB.out | apply zz2 | apply zz0 | apply zz1 | refine zz3 ?_ GE104.out) hb);have n2_:=zz31 (hbox);have n3_:=zz31 ((by rw [hg];exact (zz5 (by repeat first | exact HB.out | apply zz2 | apply zz0 | apply zz1 | refine zz3 ?_ GE104.out)):w.heap.size≤gb105));have n4_:=zz31 ((by rw [hg];exact (zz5 (by repeat first | exact HB.out | apply zz2 | apply zz0 | apply zz1 | refine zz3 ?_ GE104.out)):w.heap.size≤gb105));have n5_:=zz31 ((by rw [hg];exact Nat.ne_of_lt (blk_lt (g:=gb104) (o:=.cells #[.int .i64 a0_0,.int .i64 a0_1] 80 (0,0)) (by (with_reducible repeat (first | refine zz6 ?_ _ | refine zz7 ?_ | refine zz8 ?_ _));exact BK104.out)):gb104 ≠ gb105));have n6_:=zz31 ((by rw [hg];exact Nat.ne_of_gt (blk_lt (g:=gb104) (o:=.cells #[.int .i64 a0_0,.int .i64 a0_1] 80 (0,0)) (by (with_reducible repeat (first | refine zz6 ?_ _ | refine zz7 ?_ | refine zz8 ?_ _));exact BK104.out)):gb105 ≠ gb104));clear BK104;clear HB;have BK104:=n0_;have HB:=n1_;have BK105:=n2_;have GW105:=n3_;have GE105:=n4_;have NB104_105:=n5_;have NB105_104:=n6_;clear n0_ n1_ n2_ n3_ n4_ n5_ n6_;clear hb hbox hg;have hnb12:=NB104_105.out;have hnc12:=NB105_104.out;have hcz13_0:w11.cell? ⟨gb104,0,none⟩=some (.int .i64 a0_0):=(zz9 BK104.out 0).trans rfl;have hcz13_1:w11.cell? ⟨gb104,1,none⟩=some (.int .i64 a0_1):=(zz9 BK104.out 1).trans rfl;have hfz13_0:=zz10 BK104.out 0;have hfz13_1:=zz10 BK104.out 1;have hcz14_0:w11.cell? ⟨gb105,0,none⟩=some (.int .i64 a1_0):=(zz9 BK105.out 0).trans rfl;have hcz14_1:w11.cell? ⟨gb105,1,none⟩=some (.int .i64 a1_1):=(zz9 BK105.out 1).trans rfl;have hfz14_0:=zz10 BK105.out 0;have hfz14_1:=zz10 BK105.out 1))
   go_ret
   exact ⟨by first | rfl | (simp [errW_none,errW_some] <;> rfl) | (simp [*,errW_none,errW_some] <;> rfl),by repeat first | exact HB.out | apply zz2 | apply zz0 | apply zz1 | refine zz3 ?_ GE104.out | refine zz3 ?_ GE105.out⟩
  ·rw [if_neg c9] at H
   have c9b0:(a0_0 == a1_0)=false:=beq_eq_false_iff_ne.mpr c9
   have c9b1:(a0_0 != a1_0)=true:=bne_iff_ne.mpr c9
   obtain rfl:=Option.some.inj H
   go_enter Try.func79,Try.ntmps79
   go_wp2_with (first | ((with_reducible refine gate_dst (N:=2) rfl ?_);refine box_event ?hg (N:=2) ?hd (cs:=#[.int .i64 a0_0,.int .i64 a0_1]) (t:=80) ?hr ?_;(case hd=>rfl);(case hg=>rfl);(case hr=>first | (go_simp;done) | (go_simp;rfl));intro gb104 hg w15 hbox hb;have n0_:=zz31 (zz4 (by repeat first | exact HB.out | apply zz2 | apply zz0 | apply zz1) hb);have n1_:=zz31 (hbox);have n2_:=zz31 ((by rw [hg];exact (zz5 (by repeat first | exact HB.out | apply zz2 | apply zz0 | apply zz1)):w.heap.size≤gb104));have n3_:=zz31 ((by rw [hg];exact (zz5 (by repeat first | exact HB.out | apply zz2 | apply zz0 | apply zz1)):w.heap.size≤gb104));clear HB;have HB:=n0_;have BK104:=n1_;have GW104:=n2_;have GE104:=n3_;clear n0_ n1_ n2_ n3_;clear hb hbox hg) | ((with_reducible refine gate_dst (N:=3) rfl ?_);refine box_event ?hg (N:=3) ?hd (cs:=#[.int .i64 a1_0,.int .i64 a1_1]) (t:=80) ?hr ?_;(case hd=>rfl);(case hg=>rfl);(case hr=>first | (go_simp;done) | (go_simp;rfl));intro gb105 hg w16 hbox hb;have n0_:=zz31 (zz11 (g:=gb104) (o:=.cells #[.int .i64 a0_0,.int .i64 a0_1] 80 (0,0)) (by (with_reducible repeat (first | refine zz6 ?_ _ | refine zz7 ?_ | refine zz8 ?_ _));exact BK104.out) hb);have n1_:=zz31 (zz4 (by repeat first | exact HB.out | apply zz2 | apply zz0 | apply zz1 | refine zz3 ?_ GE104.out) hb);have n2_:=zz31 (hbox);have n3_:=zz31 ((by rw [hg];exact (zz5 (by repeat first | exact HB.out | apply zz2 | apply zz0 | apply zz1 | refine zz3 ?_ GE104.out)):w.heap.size≤gb105));have n4_:=zz31 ((by rw [hg];exact (zz5 (by repeat first | exact HB.out | apply zz2 | apply zz0 | apply zz1 | refine zz3 ?_ GE104.out)):w.heap.size≤gb105));have n5_:=zz31 ((by rw [hg];exact Nat.ne_of_lt (blk_lt (g:=gb104) (o:=.cells #[.int .i64 a0_0,.int .i64 a0_1] 80 (0,0)) (by (with_reducible repeat (first | refine zz6 ?_ _ | refine zz7 ?_ | refine zz8 ?_ _));exact BK104.out)):gb104 ≠ gb105));have n6_:=zz31 ((by rw [hg];exact Nat.ne_of_gt (blk_lt (g:=gb104) (o:=.cells #[.int .i64 a0_0,.int .i64 a0_1] 80 (0,0)) (by (with_reducible repeat (first | refine zz6 ?_ _ | refine zz7 ?_ | refine zz8 ?_ _));exact BK104.out)):gb105 ≠ gb104));clear BK104;clear HB;have BK104:=n0_;have HB:=n1_;have BK105:=n2_;have GW105:=n3_;have GE105:=n4_;have NB104_105:=n5_;have NB105_104:=n6_;clear n0_ n1_ n2_ n3_ n4_ n5_ n6_;clear hb hbox hg;have hnb17:=NB104_105.out;have hnc17:=NB105_104.out;have hcz18_0:w16.cell? ⟨gb104,0,none⟩=some (.int .i64 a0_0):=(zz9 BK104.out 0).trans rfl;have hcz18_1:w16.cell? ⟨gb104,1,none⟩=some (.int .i64 a0_1):=(zz9 BK104.out 1).trans rfl;have hfz18_0:=zz10 BK104.out 0;have hfz18_1:=zz10 BK104.out 1;have hcz19_0:w16.cell? ⟨gb105,0,none⟩=some (.int .i64 a1_0):=(zz9 BK105.out 0).trans rfl;have hcz19_1:w16.cell? ⟨gb105,1,none⟩=some (.int .i64 a1_1):=(zz9 BK105.out 1).trans rfl;have hfz19_0:=zz10 BK105.out 0;have hfz19_1:=zz10 BK105.out 1))
   go_ret
   exact ⟨by first | rfl | (simp [errW_none,errW_some] <;> rfl) | (simp [*,errW_none,errW_some] <;> rfl),by repeat first | exact HB.out | apply zz2 | apply zz0 | apply zz1 | refine zz3 ?_ GE104.out | refine zz3 ?_ GE105.out⟩

/-! ### spec_paGood: function 42 -/
mutual
def spec_paGood.j0:Nat→Bool→Int→List (S80)→Option (Bool)
 | 0,_,_,_=>none
 | k+1,x21,x107000,x107001=>if x21=true then (some false) else (spec_paGood.l0 k x107001 (x107001.length:Int) 0 x107000 x107001)
def spec_paGood.l0:Nat→List (S80)→Int→Int→Int→List (S80)→Option (Bool)
 | 0,_,_,_,_,_=>none
 | k+1,x23,x24,x25,x107000,x107001=>if x25 < x24 then (if 0≤x25 then (if x25 < (x23.length:Int) then ((spec_l1In.f ((rd_T80 x23 x25).f0) 0 (wrap64 (x107000 - 1))).bind fun t110=>(if t110=true then ((spec_l1In.f ((rd_T80 x23 x25).f1) (wrap64 (((rd_T80 x23 x25).f0)+1)) (wrap64 (x107000 - 1))).bind fun t111=>(if t111=true then (if x25 > 0 then (if 0≤(wrap64 (x25 - 1)) then (if (wrap64 (x25 - 1)) < (x107001.length:Int) then ((spec_paLess.f ((rd_T80 x107001 (wrap64 (x25 - 1))).f0) ((rd_T80 x107001 (wrap64 (x25 - 1))).f1) ((rd_T80 x23 x25).f0) ((rd_T80 x23 x25).f1)).bind fun t113=>(if t113=true then (spec_paGood.l0 k x23 x24 (wrap64 (x25+1)) x107000 x107001) else (some false))) else (none)) else (none)) else (spec_paGood.l0 k x23 x24 (wrap64 (x25+1)) x107000 x107001)) else (some false))) else (some false))) else (none)) else (none)) else (some true)
end
def spec_paGood.f (k:Nat) (a0_0:Int) (l0_1:List (S80)):Option (Bool):=(spec_paPeople.f a0_0).bind fun t107=>(if t107=true then (spec_paGood.j0 k (decide ((l0_1.length:Int) > (wrap64 (Int.tdiv (wrap64 (a0_0 * (wrap64 (a0_0 - 1)))) 2)))) a0_0 l0_1) else (spec_paGood.j0 k true a0_0 l0_1))
theorem spec_paGood.mono_l:∀ k,(∀ y0 y1 y2,LeO (spec_paGood.j0 k y0 y1 y2) (spec_paGood.j0 (k+1) y0 y1 y2))∧(∀ y0 y1 y2 y3 y4,LeO (spec_paGood.l0 k y0 y1 y2 y3 y4) (spec_paGood.l0 (k+1) y0 y1 y2 y3 y4))
 | 0=>⟨fun _ _ _ r h=>by simp [spec_paGood.j0] at h,fun _ _ _ _ _ r h=>by simp [spec_paGood.l0] at h⟩
 | k+1=>by
  obtain ⟨ih0,ih1⟩:=spec_paGood.mono_l k
  refine ⟨?_,?_⟩
  ·intro y0 y1 y2
   unfold spec_paGood.j0
   repeat' first
   | (with_reducible exact ih0 _ _ _)
   | (with_reducible exact ih1 _ _ _ _ _)
   | (with_reducible exact LeO.refl _)
   | (with_reducible exact LeO.none _)
   | (with_reducible refine LeO.ite ?_ ?_)
   | (with_reducible refine LeO.bind ?_ (fun _=>?_))
   | exact ih0 _ _ _
   | exact ih1 _ _ _ _ _
   | exact LeO.none _
   | refine LeO.ite ?_ ?_
   | refine LeO.bind ?_ (fun _=>?_)
  ·intro y0 y1 y2 y3 y4
   unfold spec_paGood.l0
   repeat' first
   | (with_reducible exact ih0 _ _ _)
   | (with_reducible exact ih1 _ _ _ _ _)
   | (with_reducible exact LeO.refl _)
   | (with_reducible exact LeO.none _)
   | (with_reducible refine LeO.ite ?_ ?_)
   | (with_reducible refine LeO.bind ?_ (fun _=>?_))
   | exact ih0 _ _ _
   | exact ih1 _ _ _ _ _
   | exact LeO.none _
   | refine LeO.ite ?_ ?_
   | refine LeO.bind ?_ (fun _=>?_)
theorem spec_paGood.mono:∀ a0 a1 k,LeO (spec_paGood.f k a0 a1) (spec_paGood.f (k+1) a0 a1):=by
 intro a0 a1 k
 obtain ⟨ih0,ih1⟩:=spec_paGood.mono_l k
 unfold spec_paGood.f
 repeat' first
   | (with_reducible exact ih0 _ _ _)
   | (with_reducible exact ih1 _ _ _ _ _)
   | (with_reducible exact LeO.refl _)
   | (with_reducible exact LeO.none _)
   | (with_reducible refine LeO.ite ?_ ?_)
   | (with_reducible refine LeO.bind ?_ (fun _=>?_))
   | exact ih0 _ _ _
   | exact ih1 _ _ _ _ _
   | exact LeO.none _
   | refine LeO.ite ?_ ?_
   | refine LeO.bind ?_ (fun _=>?_)
def spec_paGood.T6:Bool × List (List Nat × List Nat):=(true,[([],[]),([0],[0]),([],[]),([2],[2]),([3],[3]),([1,4],[1,4]),([5],[5]),([6,5],[6]),([7],[7]),([8,7],[7,8]),([7],[7]),([10,7],[7,10]),([11,7],[7,11]),([7],[7]),([13,7],[7,13]),([14,7],[7,14]),([9,12,15,7,7],[7,9,12,15]),([16,7],[7,16]),([7,17],[7,17]),([18,16],[18]),([19],[19]),([20,19],[19,20]),([21,19,19],[19,21]),([22],[22]),([23,22],[22,23]),([22],[22]),([25,22],[22,25]),([24,26,22],[22,24,26]),([27,22],[22,27]),([22],[22]),([28,29,22,22],[22,28,29]),([30,22],[22,30]),([22,31,19],[19,22,31]),([19,32],[19,32])])
def spec_paGood.B6:List Nat:=[0,1,0,4,12,31,63,127,255,511,255,1279,3327,255,8447,24831,65535,131071,262143,524287,1048575,2097151,4194303,8388607,16777215,8388607,41943039,134217727,268435455,8388607,1073741823,2147483647,4294967295,8589934591]
theorem spec_paGood.tab6:rtab .any (opsOf Try.f42 6)=spec_paGood.T6:=by kernel_rfl
theorem spec_paGood.bits6:waitsOk spec_paGood.T6.2 spec_paGood.B6=true:=by kernel_rfl
set_option maxHeartbeats 8000000 in
set_option maxRecDepth 100000 in
theorem spec_paGood.calls (k:Nat) (a0_0:Int) (A0_1:Option Addr) (c0_1:Nat) (l0_1:List (S80)) (r:Bool) (w:World) (hr0_1:Kd.C k80 w A0_1 l0_1.length l0_1) (hc0_1:l0_1.length≤c0_1) (h:spec_paGood.f k a0_0 l0_1=some r) :
  Calls Try.prog 42 #[.agg #[.int .i64 a0_0,.slice A0_1 l0_1.length c0_1]] w fun e w'=>e=.returned (.bool r)∧Below w.heap.size w w':=by
 have hu30:=Try.underlying30
 have hu80:=Try.underlying80
 have HR0_1:=zz31 hr0_1
 have HC0_1:=zz31 hc0_1
 clear hr0_1 hc0_1
 have HB:=zz31 (Below.refl w.heap.size w)
 have H:((spec_paPeople.f a0_0).bind fun t107=>(if t107=true then (spec_paGood.j0 k (decide ((l0_1.length:Int) > (wrap64 (Int.tdiv (wrap64 (a0_0 * (wrap64 (a0_0 - 1)))) 2)))) a0_0 l0_1) else (spec_paGood.j0 k true a0_0 l0_1)))=some r:=h
 clear h
 have HC2:=zz31 H
 clear H
 go_enter Try.func42,Try.ntmps42
 go_upto_region 1 with (first | ((with_reducible refine gate_dst (N:=1) rfl ?_);(try (refine gate_guard (by rfl) ?_;dsimp only));refine box_event ?hg (N:=1) ?hd (cs:=#[.int .i64 a0_0,.slice A0_1 l0_1.length c0_1]) (t:=30) ?hr ?_;(case hd=>rfl);(case hg=>rfl);(case hr=>first | (go_simp;done) | (go_simp;rfl));intro gb106 hg w3 hbox hb;have n0_:=zz31 (zz4 (by repeat first | exact HB.out | apply zz2 | apply zz0 | apply zz1) hb);have n1_:=zz31 (hbox);have n2_:=zz31 ((by rw [hg];exact (zz5 (by repeat first | exact HB.out | apply zz2 | apply zz0 | apply zz1)):w.heap.size≤gb106));have n3_:=zz31 ((by rw [hg];exact (zz5 (by repeat first | exact HB.out | apply zz2 | apply zz0 | apply zz1)):w.heap.size≤gb106));clear HB;have HB:=n0_;have BK106:=n1_;have GW106:=n2_;have GE106:=n3_;clear n0_ n1_ n2_ n3_;clear hb hbox hg))
 (try simp only [Act.put,zz21,zz22,zz23])
 go_cut [21] (fun v21 wc=>∃ (kq:Nat) (x21_1:Bool),v21=.bool x21_1∧Aside0 (spec_paGood.j0 kq x21_1 a0_0 l0_1=some r)∧Aside0 (kq≤k)∧Aside0 (wc.heap[gb106]?=some (.cells #[.int .i64 a0_0,(.slice A0_1 l0_1.length c0_1)] 30 (0,0)))∧Aside0 (Below w.heap.size w wc))
 case first =>
  have H:=HC2.out
  clear HC2
  replace H:=zz30.mp H
  obtain ⟨t107,A40,H⟩:=H
  replace H:(if t107=true then (spec_paGood.j0 k (decide ((l0_1.length:Int) > (wrap64 (Int.tdiv (wrap64 (a0_0 * (wrap64 (a0_0 - 1)))) 2)))) a0_0 l0_1) else (spec_paGood.j0 k true a0_0 l0_1))=some r:=H
  have A4:=zz31 A40
  clear A40
  by_cases c5:t107=true
  ·subst c5
   have H1:(spec_paGood.j0 k (decide ((l0_1.length:Int) > (wrap64 (Int.tdiv (wrap64 (a0_0 * (wrap64 (a0_0 - 1)))) 2)))) a0_0 l0_1)=some r:=by rw [if_pos rfl] at H;exact H
   clear H
   have H:=H1
   clear H1
   have H':=zz31 H
   clear H
   have hcz6_0:w3.cell? ⟨gb106,0,none⟩=some (.int .i64 a0_0):=(zz9 BK106.out 0).trans rfl
   have hcz6_1:w3.cell? ⟨gb106,1,none⟩=some (.slice A0_1 l0_1.length c0_1):=(zz9 BK106.out 1).trans rfl
   have hfz6_0:=zz10 BK106.out 0
   have hfz6_1:=zz10 BK106.out 1
   go_wp2_with (first | ((with_reducible refine gate_callee (f:=77) rfl ?_);refine goesL_ (some 7) rfl rfl Try.func77 (by kernel_rfl) rfl #[.int .i64 a0_0] rfl (by (try simp only [zz26,zz27,zz28]);first | done | rfl | (simp only [zz24,zz25];rfl)) ?_;(with_reducible refine (spec_paPeople.calls a0_0 true _ A4.out).mono ?_);rintro e w' ⟨rfl,⟨nd,rfl⟩⟩;refine ⟨_,rfl,?_⟩))
   go_meet
   case rel=>exact ⟨_,(decide ((l0_1.length:Int) > (wrap64 (Int.tdiv (wrap64 (a0_0 * (wrap64 (a0_0 - 1)))) 2)))),(by first | rfl | (simp;done) | (simp [*];done)),H',⟨by first | omega | exact Nat.le_refl _⟩,⟨by (with_reducible repeat (first | refine zz6 ?_ _ | refine zz7 ?_ | refine zz8 ?_ _));exact BK106.out⟩,⟨by repeat first | exact HB.out | apply zz2 | apply zz0 | apply zz1 | refine zz3 ?_ GE106.out⟩⟩
  ·replace c5:=Bool.eq_false_iff.mpr c5
   subst c5
   have H1:(spec_paGood.j0 k true a0_0 l0_1)=some r:=by rw [if_neg (show ¬ (false=true) by decide)] at H;exact H
   clear H
   have H:=H1
   clear H1
   have H':=zz31 H
   clear H
   have hcz7_0:w3.cell? ⟨gb106,0,none⟩=some (.int .i64 a0_0):=(zz9 BK106.out 0).trans rfl
   have hcz7_1:w3.cell? ⟨gb106,1,none⟩=some (.slice A0_1 l0_1.length c0_1):=(zz9 BK106.out 1).trans rfl
   have hfz7_0:=zz10 BK106.out 0
   have hfz7_1:=zz10 BK106.out 1
   go_wp2_with (first | ((with_reducible refine gate_callee (f:=77) rfl ?_);refine goesL_ (some 7) rfl rfl Try.func77 (by kernel_rfl) rfl #[.int .i64 a0_0] rfl (by (try simp only [zz26,zz27,zz28]);first | done | rfl | (simp only [zz24,zz25];rfl)) ?_;(with_reducible refine (spec_paPeople.calls a0_0 false _ A4.out).mono ?_);rintro e w' ⟨rfl,⟨nd,rfl⟩⟩;refine ⟨_,rfl,?_⟩))
   go_meet
   case rel=>exact ⟨_,(true),(by first | rfl | (simp;done) | (simp [*];done)),H',⟨by first | omega | exact Nat.le_refl _⟩,⟨by (with_reducible repeat (first | refine zz6 ?_ _ | refine zz7 ?_ | refine zz8 ?_ _));exact BK106.out⟩,⟨by repeat first | exact HB.out | apply zz2 | apply zz0 | apply zz1 | refine zz3 ?_ GE106.out⟩⟩
 case rest =>
  clear HC2
  try clear p2
  try clear c4
  try clear c5
  try clear p6
  try clear c7
  try clear hcz6_0
  try clear hcz6_1
  try clear hcz7_0
  try clear hcz7_1
  try clear hfz6_0
  try clear hfz6_1
  try clear hfz7_0
  try clear hfz7_1
  obtain ⟨kq,x21_1,rfl,HA,HJ1,BK106,HB⟩:=hcut
  cases kq with
  | zero=>exact absurd HA.out (by simp [spec_paGood.j0])
  | succ kj1 =>
   have H:=HA.out
   clear HA
   simp only [spec_paGood.j0] at H
   by_cases c8:x21_1=true
   ·subst c8
    have H1:(some false)=some r:=by rw [if_pos rfl] at H;exact H
    clear H
    have H:=H1
    clear H1
    obtain rfl:=Option.some.inj H
    go_wp2
    go_ret
    exact ⟨by first | rfl | (simp [errW_none,errW_some] <;> rfl) | (simp [*,errW_none,errW_some] <;> rfl),by repeat first | exact HB.out | apply zz2 | apply zz0 | apply zz1 | refine zz3 ?_ GE106.out⟩
   ·replace c8:=Bool.eq_false_iff.mpr c8
    subst c8
    have H1:(spec_paGood.l0 kj1 l0_1 (l0_1.length:Int) 0 a0_0 l0_1)=some r:=by rw [if_neg (show ¬ (false=true) by decide)] at H;exact H
    clear H
    have H:=H1
    clear H1
    have H':=zz31 H
    clear H
    have hcz9_0:wc.cell? ⟨gb106,0,none⟩=some (.int .i64 a0_0):=(zz9 BK106.out 0).trans rfl
    have hcz9_1:wc.cell? ⟨gb106,1,none⟩=some (.slice A0_1 l0_1.length c0_1):=(zz9 BK106.out 1).trans rfl
    have hfz9_0:=zz10 BK106.out 0
    have hfz9_1:=zz10 BK106.out 1
    go_wp2
    go_loopg [25] kj1 (fun kq v25 w'=>∃ (x25_2:Int),v25=.int .i64 x25_2∧Aside0 (spec_paGood.l0 kq l0_1 (l0_1.length:Int) x25_2 a0_0 l0_1=some r)∧Aside0 (kq≤kj1)∧Aside0 (w'.heap[gb106]?=some (.cells #[.int .i64 a0_0,(.slice A0_1 l0_1.length c0_1)] 30 (0,0)))∧Aside0 (Below w.heap.size w w'))
    case atStart=>exact ⟨(0),(by first | rfl | (simp;done) | (simp [*];done)),H',⟨Nat.le_refl _⟩,⟨by (with_reducible repeat (first | refine zz6 ?_ _ | refine zz7 ?_ | refine zz8 ?_ _));exact BK106.out⟩,⟨by repeat first | exact HB.out | apply zz2 | apply zz0 | apply zz1 | refine zz3 ?_ GE106.out⟩⟩
    case round =>
     clear H'
     try clear p2
     try clear c4
     try clear c5
     try clear p6
     try clear c7
     try clear c8
     try clear hcz6_0
     try clear hcz6_1
     try clear hcz7_0
     try clear hcz7_1
     try clear hcz9_0
     try clear hcz9_1
     try clear hfz6_0
     try clear hfz6_1
     try clear hfz7_0
     try clear hfz7_1
     try clear hfz9_0
     try clear hfz9_1
     try clear p2
     try clear p6
     obtain ⟨x25_2,rfl,HA,HK2,BK106,HB⟩:=hrel
     cases gk with
     | zero=>exact absurd HA.out (by simp [spec_paGood.l0])
     | succ k2 =>
      have H:=HA.out
      clear HA
      simp only [spec_paGood.l0] at H
      by_cases c10:x25_2 < (l0_1.length:Int)
      ·rw [if_pos c10] at H
       have c10b0:decide (x25_2 < (l0_1.length:Int))=true:=decide_eq_true c10
       clear c10
       by_cases c11:0≤x25_2
       ·rw [if_pos c11] at H
        have c11b0:decide (0≤x25_2)=true:=decide_eq_true c11
        clear c11
        by_cases c12:x25_2 < (l0_1.length:Int)
        ·rw [if_pos c12] at H
         have c12b0:decide (x25_2 < (l0_1.length:Int))=true:=decide_eq_true c12
         clear c12
         replace H:=zz30.mp H
         obtain ⟨t110,A130,H⟩:=H
         replace H:(if t110=true then ((spec_l1In.f ((rd_T80 l0_1 x25_2).f1) (wrap64 (((rd_T80 l0_1 x25_2).f0)+1)) (wrap64 (a0_0 - 1))).bind fun t111=>(if t111=true then (if x25_2 > 0 then (if 0≤(wrap64 (x25_2 - 1)) then (if (wrap64 (x25_2 - 1)) < (l0_1.length:Int) then ((spec_paLess.f ((rd_T80 l0_1 (wrap64 (x25_2 - 1))).f0) ((rd_T80 l0_1 (wrap64 (x25_2 - 1))).f1) ((rd_T80 l0_1 x25_2).f0) ((rd_T80 l0_1 x25_2).f1)).bind fun t113=>(if t113=true then (spec_paGood.l0 k2 l0_1 (l0_1.length:Int) (wrap64 (x25_2+1)) a0_0 l0_1) else (some false))) else (none)) else (none)) else (spec_paGood.l0 k2 l0_1 (l0_1.length:Int) (wrap64 (x25_2+1)) a0_0 l0_1)) else (some false))) else (some false))=some r:=H
         have A13:=zz31 A130
         clear A130
         by_cases c14:t110=true
         ·subst c14
          have H1:((spec_l1In.f ((rd_T80 l0_1 x25_2).f1) (wrap64 (((rd_T80 l0_1 x25_2).f0)+1)) (wrap64 (a0_0 - 1))).bind fun t111=>(if t111=true then (if x25_2 > 0 then (if 0≤(wrap64 (x25_2 - 1)) then (if (wrap64 (x25_2 - 1)) < (l0_1.length:Int) then ((spec_paLess.f ((rd_T80 l0_1 (wrap64 (x25_2 - 1))).f0) ((rd_T80 l0_1 (wrap64 (x25_2 - 1))).f1) ((rd_T80 l0_1 x25_2).f0) ((rd_T80 l0_1 x25_2).f1)).bind fun t113=>(if t113=true then (spec_paGood.l0 k2 l0_1 (l0_1.length:Int) (wrap64 (x25_2+1)) a0_0 l0_1) else (some false))) else (none)) else (none)) else (spec_paGood.l0 k2 l0_1 (l0_1.length:Int) (wrap64 (x25_2+1)) a0_0 l0_1)) else (some false)))=some r:=by rw [if_pos rfl] at H;exact H
          clear H
          have H:=H1
          clear H1
          replace H:=zz30.mp H
          obtain ⟨t111,A150,H⟩:=H
          replace H:(if t111=true then (if x25_2 > 0 then (if 0≤(wrap64 (x25_2 - 1)) then (if (wrap64 (x25_2 - 1)) < (l0_1.length:Int) then ((spec_paLess.f ((rd_T80 l0_1 (wrap64 (x25_2 - 1))).f0) ((rd_T80 l0_1 (wrap64 (x25_2 - 1))).f1) ((rd_T80 l0_1 x25_2).f0) ((rd_T80 l0_1 x25_2).f1)).bind fun t113=>(if t113=true then (spec_paGood.l0 k2 l0_1 (l0_1.length:Int) (wrap64 (x25_2+1)) a0_0 l0_1) else (some false))) else (none)) else (none)) else (spec_paGood.l0 k2 l0_1 (l0_1.length:Int) (wrap64 (x25_2+1)) a0_0 l0_1)) else (some false))=some r:=H
          have A15:=zz31 A150
          clear A150
          by_cases c16:t111=true
          ·subst c16
           have H1:(if x25_2 > 0 then (if 0≤(wrap64 (x25_2 - 1)) then (if (wrap64 (x25_2 - 1)) < (l0_1.length:Int) then ((spec_paLess.f ((rd_T80 l0_1 (wrap64 (x25_2 - 1))).f0) ((rd_T80 l0_1 (wrap64 (x25_2 - 1))).f1) ((rd_T80 l0_1 x25_2).f0) ((rd_T80 l0_1 x25_2).f1)).bind fun t113=>(if t113=true then (spec_paGood.l0 k2 l0_1 (l0_1.length:Int) (wrap64 (x25_2+1)) a0_0 l0_1) else (some false))) else (none)) else (none)) else (spec_paGood.l0 k2 l0_1 (l0_1.length:Int) (wrap64 (x25_2+1)) a0_0 l0_1))=some r:=by rw [if_pos rfl] at H;exact H
           clear H
           have H:=H1
           clear H1
           by_cases c17:x25_2 > 0
           ·rw [if_pos c17] at H
            have c17b0:decide (0 < x25_2)=true:=decide_eq_true c17
            clear c17
            obtain ⟨ji18,hji18⟩:∃ j_:Int,(wrap64 (x25_2 - 1))=j_:=⟨_,rfl⟩
            replace H:(if 0≤(ji18) then (if (ji18) < (l0_1.length:Int) then ((spec_paLess.f ((rd_T80 l0_1 (ji18)).f0) ((rd_T80 l0_1 (ji18)).f1) ((rd_T80 l0_1 x25_2).f0) ((rd_T80 l0_1 x25_2).f1)).bind fun t113=>(if t113=true then (spec_paGood.l0 k2 l0_1 (l0_1.length:Int) (wrap64 (x25_2+1)) a0_0 l0_1) else (some false))) else (none)) else (none))=some r:=by first | (rw [hji18] at H;exact H) | (simp only [hji18] at H ⊢;exact H)
            (try rw [hji18] at A13)
            (try rw [hji18] at A15)
            have hji18w:(IntKind.i64.wrap (x25_2 - 1))=ji18:=(i64_w _).trans hji18
            by_cases c19:0≤(ji18)
            ·rw [if_pos c19] at H
             have c19b0:decide (0≤(ji18))=true:=decide_eq_true c19
             clear c19
             by_cases c20:(ji18) < (l0_1.length:Int)
             ·rw [if_pos c20] at H
              have c20b0:decide ((ji18) < (l0_1.length:Int))=true:=decide_eq_true c20
              clear c20
              replace H:=zz30.mp H
              obtain ⟨t113,A210,H⟩:=H
              replace H:(if t113=true then (spec_paGood.l0 k2 l0_1 (l0_1.length:Int) (wrap64 (x25_2+1)) a0_0 l0_1) else (some false))=some r:=H
              have A21:=zz31 A210
              clear A210
              by_cases c22:t113=true
              ·subst c22
               have H1:(spec_paGood.l0 k2 l0_1 (l0_1.length:Int) (wrap64 (x25_2+1)) a0_0 l0_1)=some r:=by rw [if_pos rfl] at H;exact H
               clear H
               have H:=H1
               clear H1
               have H':=zz31 H
               clear H
               have p108:0≤(x25_2:Int):=zz29 (by first | (with_reducible assumption) | assumption)
               have q108:x25_2 < (l0_1.length:Int):=zz29 (by first | (with_reducible assumption) | assumption)
               obtain ⟨ad108,e108,hx108_0,hx108_1⟩:=at_T80 HR0_1.out x25_2 p108 q108
               cases e108
               try replace hx108_0:=(HB.out.cell (World.block_lt_of_cell? w _ hx108_0)).trans hx108_0
               try replace hx108_1:=(HB.out.cell (World.block_lt_of_cell? w _ hx108_1)).trans hx108_1
               replace p108:=eq_true p108
               replace q108:=eq_true q108
               try go_wp2_with (first | ((with_reducible refine gate_dst (N:=4) rfl ?_);(try (refine gate_guard (by rfl) ?_;dsimp only));refine box_event ?hg (N:=4) ?hd (cs:=#[.int .i64 0,.int .i64 0]) (t:=80) ?hr ?_;(case hd=>rfl);(case hg=>rfl);(case hr=>first | (go_simp;done) | (go_simp;rfl));intro gb109 hg w23 hbox hb;have n0_:=zz31 (zz11 (g:=gb106) (o:=.cells #[.int .i64 a0_0,.slice (some ad108) l0_1.length c0_1] 30 (0,0)) (by (with_reducible repeat (first | refine zz6 ?_ _ | refine zz7 ?_ | refine zz8 ?_ _));exact BK106.out) hb);have n1_:=zz31 (zz4 (by repeat first | exact HB.out | apply zz2 | apply zz0 | apply zz1 | refine zz3 ?_ GE106.out) hb);have n2_:=zz31 (hbox);have n3_:=zz31 ((by rw [hg];exact (zz5 (by repeat first | exact HB.out | apply zz2 | apply zz0 | apply zz1 | refine zz3 ?_ GE106.out)):w.heap.size≤gb109));have n4_:=zz31 ((by rw [hg];exact (zz5 (by repeat first | exact HB.out | apply zz2 | apply zz0 | apply zz1 | refine zz3 ?_ GE106.out)):w.heap.size≤gb109));have n5_:=zz31 ((by rw [hg];exact Nat.ne_of_lt (blk_lt (g:=gb106) (o:=.cells #[.int .i64 a0_0,.slice (some ad108) l0_1.length c0_1] 30 (0,0)) (by (with_reducible repeat (first | refine zz6 ?_ _ | refine zz7 ?_ | refine zz8 ?_ _));exact BK106.out)):gb106 ≠ gb109));have n6_:=zz31 ((by rw [hg];exact Nat.ne_of_gt (blk_lt (g:=gb106) (o:=.cells #[.int .i64 a0_0,.slice (some ad108) l0_1.length c0_1] 30 (0,0)) (by (with_reducible repeat (first | refine zz6 ?_ _ | refine zz7 ?_ | refine zz8 ?_ _));exact BK106.out)):gb109 ≠ gb106));clear BK106;clear HB;have BK106:=n0_;have HB:=n1_;have BK109:=n2_;have GW109:=n3_;have GE109:=n4_;have NB106_109:=n5_;have NB109_106:=n6_;clear n0_ n1_ n2_ n3_ n4_ n5_ n6_;clear hb hbox hg;have hnb24:=NB109_106.out;have hnc24:=NB106_109.out;have hcz25_0:w23.cell? ⟨gb109,0,none⟩=some (.int .i64 0):=(zz9 BK109.out 0).trans rfl;have hcz25_1:w23.cell? ⟨gb109,1,none⟩=some (.int .i64 0):=(zz9 BK109.out 1).trans rfl;have hfz25_0:=zz10 BK109.out 0;have hfz25_1:=zz10 BK109.out 1))
               have n0_:Aside0 (((w23.setCell ⟨gb109,0,none⟩ (.int .i64 ((rd_T80 l0_1 x25_2).f0))).setCell ⟨gb109,1,none⟩ (.int .i64 ((rd_T80 l0_1 x25_2).f1))).heap[gb106]?=some (.cells #[.int .i64 a0_0,.slice (some ad108) l0_1.length c0_1] 30 (0,0))):=⟨by (with_reducible repeat (first | refine zz6 ?_ _ | refine zz7 ?_ | refine zz8 ?_ _));refine blk_far ?_ NB106_109.out _;(with_reducible repeat (first | refine zz6 ?_ _ | refine zz7 ?_ | refine zz8 ?_ _));refine blk_far ?_ NB106_109.out _;(with_reducible repeat (first | refine zz6 ?_ _ | refine zz7 ?_ | refine zz8 ?_ _));exact BK106.out⟩
               have n1_:Aside0 (((w23.setCell ⟨gb109,0,none⟩ (.int .i64 ((rd_T80 l0_1 x25_2).f0))).setCell ⟨gb109,1,none⟩ (.int .i64 ((rd_T80 l0_1 x25_2).f1))).heap[gb109]?=some (.cells #[.int .i64 ((rd_T80 l0_1 x25_2).f0),.int .i64 ((rd_T80 l0_1 x25_2).f1)] 80 (0,0))):=⟨by (with_reducible repeat (first | refine zz6 ?_ _ | refine zz7 ?_ | refine zz8 ?_ _));refine blk_put (cs:=#[.int .i64 ((rd_T80 l0_1 x25_2).f0),.int .i64 0]) ?_ 1 _ rfl;(with_reducible repeat (first | refine zz6 ?_ _ | refine zz7 ?_ | refine zz8 ?_ _));refine blk_put (cs:=#[.int .i64 0,.int .i64 0]) ?_ 0 _ rfl;(with_reducible repeat (first | refine zz6 ?_ _ | refine zz7 ?_ | refine zz8 ?_ _));exact BK109.out⟩
               have n2_:Aside0 (Below w.heap.size w ((w23.setCell ⟨gb109,0,none⟩ (.int .i64 ((rd_T80 l0_1 x25_2).f0))).setCell ⟨gb109,1,none⟩ (.int .i64 ((rd_T80 l0_1 x25_2).f1)))):=⟨by repeat first | exact HB.out | apply zz2 | apply zz0 | apply zz1 | refine zz3 ?_ GE106.out | refine zz3 ?_ GE109.out⟩
               (try clear BK106)
               (try clear BK109)
               (try clear HB)
               generalize ((w23.setCell ⟨gb109,0,none⟩ (.int .i64 ((rd_T80 l0_1 x25_2).f0))).setCell ⟨gb109,1,none⟩ (.int .i64 ((rd_T80 l0_1 x25_2).f1)))=w26 at n0_ n1_ n2_ ⊢
               have BK106:=n0_
               have BK109:=n1_
               have HB:=n2_
               clear n0_ n1_ n2_
               have n0_:=zz31 (zz7 BK106.out)
               have n1_:=zz31 (zz7 BK109.out)
               have n2_:=zz31 (zz1 HB.out)
               clear BK106
               clear BK109
               clear HB
               have BK106:=n0_
               have BK109:=n1_
               have HB:=n2_
               clear n0_ n1_ n2_
               have p112:0≤((ji18):Int):=zz29 (by first | (with_reducible assumption) | assumption)
               have q112:(ji18) < (l0_1.length:Int):=zz29 (by first | (with_reducible assumption) | assumption)
               obtain ⟨ad112,e112,hx112_0,hx112_1⟩:=at_T80 HR0_1.out (ji18) p112 q112
               have hw112_1:=hx112_1
               have hw112_0:=hx112_0
               obtain rfl:ad108=ad112:=(by injection e112)
               try replace hx112_0:=(HB.out.cell (World.block_lt_of_cell? w _ hx112_0)).trans hx112_0
               try replace hx112_1:=(HB.out.cell (World.block_lt_of_cell? w _ hx112_1)).trans hx112_1
               replace p112:=eq_true p112
               replace q112:=eq_true q112
               refine start_ (n:=34) (S:=fun w'=>w'.cell? ⟨gb109,0,none⟩=some (.int .i64 ((rd_T80 l0_1 x25_2).f0))∧w'.cell? ⟨gb109,1,none⟩=some (.int .i64 ((rd_T80 l0_1 x25_2).f1))∧w'.cell? ⟨gb106,0,none⟩=some (.int .i64 a0_0)∧w'.cell? ⟨gb106,1,none⟩=some (.slice (some ad108) l0_1.length c0_1)∧w'.cell? (ad108.add (((ji18)).toNat * 2))=some (.int .i64 ((rd_T80 l0_1 (ji18)).f0))∧w'.cell? ⟨(ad108.add (((ji18)).toNat * 2)).block,(ad108.add (((ji18)).toNat * 2)).off+1,none⟩=some (.int .i64 ((rd_T80 l0_1 (ji18)).f1))) (ds:=[]) #[F,F,F,F,F,F,F,F,F,F,F,F,F,F,F,F,F,F,F,F,F,F,F,F,F,F,F,F,F,F,F,F,F,F] (by kernel_rfl) rfl rfl ⟨(zz9 BK109.out 0).trans rfl,(zz9 BK109.out 1).trans rfl,(zz9 BK106.out 0).trans rfl,(zz9 BK106.out 1).trans rfl,((HB.out.cell (World.block_lt_of_cell? w _ hw112_0)).trans hw112_0),((HB.out.cell (World.block_lt_of_cell? w _ hw112_1)).trans hw112_1)⟩ (fun hHeld=>?_);refine with_tabW spec_paGood.tab6 spec_paGood.bits6 (fun HT_ HW_=>?_)
               generalize w26.drew=w27 at BK106 BK109 HB hx112_0 hx112_1 hHeld ⊢
               refine pure_ (i:=0) (N:=some 30) (v:=?_) (a':=?_) #[T,F,F,F,F,F,F,F,F,F,F,F,F,F,F,F,F,F,F,F,F,F,F,F,F,F,F,F,F,F,F,F,F,F] rfl rfl (any_of HT_.out (by kernel_rfl)) (fun _ _ _ h=>h) (Or.inl ⟨by rfl,?_⟩) ?_ ?_
               rotate_left
               ·intro w'
                go_simp
                with_reducible rfl
               rotate_left
               ·simp only [Act.put,zz21,zz22,zz23,i64_w,i32_w]
                rfl
               refine pure_ (i:=2) (N:=some 32) (v:=?_) (a':=?_) #[T,F,T,F,F,F,F,F,F,F,F,F,F,F,F,F,F,F,F,F,F,F,F,F,F,F,F,F,F,F,F,F,F,F] rfl rfl (any_of HT_.out (by kernel_rfl)) (fun _ _ _ h=>h) (Or.inl ⟨by rfl,?_⟩) ?_ ?_
               rotate_left
               ·intro w'
                go_simp
                with_reducible rfl
               rotate_left
               ·simp only [Act.put,zz21,zz22,zz23,i64_w,i32_w]
                rfl
               refine take_ (i:=1) (N:=some 31) (v:=?_) (a':=?_) #[T,T,T,F,F,F,F,F,F,F,F,F,F,F,F,F,F,F,F,F,F,F,F,F,F,F,F,F,F,F,F,F,F,F] rfl rfl (take_ofW HT_.out HW_.out (by kernel_rfl)) (fun _ _ _ h=>h) (Or.inl ⟨by rfl,?_⟩) hHeld ?_ ?_
               rotate_left
               ·rintro w' ⟨s0,s1,s2,s3,s4,s5⟩
                go_simp
                with_reducible rfl
               rotate_left
               ·simp only [Act.put,zz21,zz22,zz23,i64_w,i32_w]
                rfl
               refine take_ (i:=3) (N:=some 33) (v:=?_) (a':=?_) #[T,T,T,T,F,F,F,F,F,F,F,F,F,F,F,F,F,F,F,F,F,F,F,F,F,F,F,F,F,F,F,F,F,F] rfl rfl (take_ofW HT_.out HW_.out (by kernel_rfl)) (fun _ _ _ h=>h) (Or.inl ⟨by rfl,?_⟩) hHeld ?_ ?_
               rotate_left
               ·rintro w' ⟨s0,s1,s2,s3,s4,s5⟩
                go_simp
                with_reducible rfl
               rotate_left
               ·simp only [Act.put,zz21,zz22,zz23,i64_w,i32_w]
                rfl
               refine pure_ (i:=4) (N:=some 34) (v:=?_) (a':=?_) #[T,T,T,T,T,F,F,F,F,F,F,F,F,F,F,F,F,F,F,F,F,F,F,F,F,F,F,F,F,F,F,F,F,F] rfl rfl (any_of HT_.out (by kernel_rfl)) (fun _ _ _ h=>h) (Or.inl ⟨by rfl,?_⟩) ?_ ?_
               rotate_left
               ·intro w'
                go_simp
                with_reducible rfl
               rotate_left
               ·simp only [Act.put,zz21,zz22,zz23,i64_w,i32_w]
                rfl
               refine one_ (i:=5) (N:=some 35) #[T,T,T,T,T,T,F,F,F,F,F,F,F,F,F,F,F,F,F,F,F,F,F,F,F,F,F,F,F,F,F,F,F,F] rfl rfl (one_of HT_.out (by kernel_rfl)) (by decide) (fun K hK=>?_)
               refine goes_ Try.func78 (by kernel_rfl) rfl #[.int .i64 ((rd_T80 l0_1 x25_2).f0),.int .i64 0,.int .i64 (wrap64 (a0_0 - 1))] (by rfl) rfl rfl (by (try simp only [zz26,zz27,zz28]);first | done | rfl | (simp only [zz24,zz25];rfl)) ?_
               with_reducible refine (spec_l1In.calls ((rd_T80 l0_1 x25_2).f0) 0 (wrap64 (a0_0 - 1)) true _ A13.out).mono ?_
               rintro e w' ⟨rfl,⟨nd,rfl⟩⟩
               refine ⟨_,rfl,?_⟩
               refine hK.out _ _ ⟨(zz9 BK109.out 0).trans rfl,(zz9 BK109.out 1).trans rfl,(zz9 BK106.out 0).trans rfl,(zz9 BK106.out 1).trans rfl,((HB.out.cell (World.block_lt_of_cell? w _ hw112_0)).trans hw112_0),((HB.out.cell (World.block_lt_of_cell? w _ hw112_1)).trans hw112_1)⟩ (fun hHeld=>?_)
               clear hK K
               refine norm_ (a':=?_) ?_ ?_
               rotate_left
               ·show Act.put _ (some 35) _=_
                simp only [Act.put,zz21,zz22,zz23,i64_w,i32_w]
                rfl
               refine pure_ (i:=6) (N:=some 36) (v:=?_) (a':=?_) #[T,T,T,T,T,T,T,F,F,F,F,F,F,F,F,F,F,F,F,F,F,F,F,F,F,F,F,F,F,F,F,F,F,F] rfl rfl (any_of HT_.out (by kernel_rfl)) (fun _ _ _ h=>h) (Or.inl ⟨by rfl,?_⟩) ?_ ?_
               rotate_left
               ·intro w'
                go_simp
                with_reducible rfl
               rotate_left
               ·simp only [Act.put,zz21,zz22,zz23,i64_w,i32_w]
                rfl
               refine pure_ (i:=7) (N:=some 37) (v:=?_) (a':=?_) #[T,T,T,T,T,T,T,T,F,F,F,F,F,F,F,F,F,F,F,F,F,F,F,F,F,F,F,F,F,F,F,F,F,F] rfl rfl (any_of HT_.out (by kernel_rfl)) (fun _ _ _ h=>h) (Or.inl ⟨by rfl,?_⟩) ?_ ?_
               rotate_left
               ·intro w'
                go_simp
                with_reducible rfl
               rotate_left
               ·simp only [Act.put,zz21,zz22,zz23,i64_w,i32_w]
                rfl
               refine pure_ (i:=8) (N:=some 38) (v:=?_) (a':=?_) #[T,T,T,T,T,T,T,T,T,F,F,F,F,F,F,F,F,F,F,F,F,F,F,F,F,F,F,F,F,F,F,F,F,F] rfl rfl (any_of HT_.out (by kernel_rfl)) (fun _ _ _ h=>h) (Or.inl ⟨by rfl,?_⟩) ?_ ?_
               rotate_left
               ·intro w'
                go_simp
                with_reducible rfl
               rotate_left
               ·simp only [Act.put,zz21,zz22,zz23,i64_w,i32_w]
                rfl
               refine pure_ (i:=10) (N:=some 40) (v:=?_) (a':=?_) #[T,T,T,T,T,T,T,T,T,F,T,F,F,F,F,F,F,F,F,F,F,F,F,F,F,F,F,F,F,F,F,F,F,F] rfl rfl (any_of HT_.out (by kernel_rfl)) (fun _ _ _ h=>h) (Or.inl ⟨by rfl,?_⟩) ?_ ?_
               rotate_left
               ·intro w'
                go_simp
                with_reducible rfl
               rotate_left
               ·simp only [Act.put,zz21,zz22,zz23,i64_w,i32_w]
                rfl
               refine pure_ (i:=13) (N:=some 43) (v:=?_) (a':=?_) #[T,T,T,T,T,T,T,T,T,F,T,F,F,T,F,F,F,F,F,F,F,F,F,F,F,F,F,F,F,F,F,F,F,F] rfl rfl (any_of HT_.out (by kernel_rfl)) (fun _ _ _ h=>h) (Or.inl ⟨by rfl,?_⟩) ?_ ?_
               rotate_left
               ·intro w'
                go_simp
                with_reducible rfl
               rotate_left
               ·simp only [Act.put,zz21,zz22,zz23,i64_w,i32_w]
                rfl
               refine take_ (i:=9) (N:=some 39) (v:=?_) (a':=?_) #[T,T,T,T,T,T,T,T,T,T,T,F,F,T,F,F,F,F,F,F,F,F,F,F,F,F,F,F,F,F,F,F,F,F] rfl rfl (take_ofW HT_.out HW_.out (by kernel_rfl)) (fun _ _ _ h=>h) (Or.inl ⟨by rfl,?_⟩) hHeld ?_ ?_
               rotate_left
               ·rintro w' ⟨s0,s1,s2,s3,s4,s5⟩
                go_simp
                with_reducible rfl
               rotate_left
               ·simp only [Act.put,zz21,zz22,zz23,i64_w,i32_w]
                rfl
               refine take_ (i:=11) (N:=some 41) (v:=?_) (a':=?_) #[T,T,T,T,T,T,T,T,T,T,T,T,F,T,F,F,F,F,F,F,F,F,F,F,F,F,F,F,F,F,F,F,F,F] rfl rfl (take_ofW HT_.out HW_.out (by kernel_rfl)) (fun _ _ _ h=>h) (Or.inl ⟨by rfl,?_⟩) hHeld ?_ ?_
               rotate_left
               ·rintro w' ⟨s0,s1,s2,s3,s4,s5⟩
                go_simp
                with_reducible rfl
               rotate_left
               ·simp only [Act.put,zz21,zz22,zz23,i64_w,i32_w]
                rfl
               refine pure_ (i:=12) (N:=some 42) (v:=?_) (a':=?_) #[T,T,T,T,T,T,T,T,T,T,T,T,T,T,F,F,F,F,F,F,F,F,F,F,F,F,F,F,F,F,F,F,F,F] rfl rfl (any_of HT_.out (by kernel_rfl)) (fun _ _ _ h=>h) (Or.inl ⟨by rfl,?_⟩) ?_ ?_
               rotate_left
               ·intro w'
                go_simp
                with_reducible rfl
               rotate_left
               ·simp only [Act.put,zz21,zz22,zz23,i64_w,i32_w]
                rfl
               refine take_ (i:=14) (N:=some 44) (v:=?_) (a':=?_) #[T,T,T,T,T,T,T,T,T,T,T,T,T,T,T,F,F,F,F,F,F,F,F,F,F,F,F,F,F,F,F,F,F,F] rfl rfl (take_ofW HT_.out HW_.out (by kernel_rfl)) (fun _ _ _ h=>h) (Or.inl ⟨by rfl,?_⟩) hHeld ?_ ?_
               rotate_left
               ·rintro w' ⟨s0,s1,s2,s3,s4,s5⟩
                go_simp
                with_reducible rfl
               rotate_left
               ·simp only [Act.put,zz21,zz22,zz23,i64_w,i32_w]
                rfl
               refine pure_ (i:=15) (N:=some 45) (v:=?_) (a':=?_) #[T,T,T,T,T,T,T,T,T,T,T,T,T,T,T,T,F,F,F,F,F,F,F,F,F,F,F,F,F,F,F,F,F,F] rfl rfl (any_of HT_.out (by kernel_rfl)) (fun _ _ _ h=>h) (Or.inl ⟨by rfl,?_⟩) ?_ ?_
               rotate_left
               ·intro w'
                go_simp
                with_reducible rfl
               rotate_left
               ·simp only [Act.put,zz21,zz22,zz23,i64_w,i32_w]
                rfl
               refine one_ (i:=16) (N:=some 46) #[T,T,T,T,T,T,T,T,T,T,T,T,T,T,T,T,T,F,F,F,F,F,F,F,F,F,F,F,F,F,F,F,F,F] rfl rfl (one_of HT_.out (by kernel_rfl)) (by decide) (fun K hK=>?_)
               refine goes_ Try.func78 (by kernel_rfl) rfl #[.int .i64 ((rd_T80 l0_1 x25_2).f1),.int .i64 (wrap64 (((rd_T80 l0_1 x25_2).f0)+1)),.int .i64 (wrap64 (a0_0 - 1))] (by rfl) rfl rfl (by (try simp only [zz26,zz27,zz28]);first | done | rfl | (simp only [zz24,zz25];rfl)) ?_
               with_reducible refine (spec_l1In.calls ((rd_T80 l0_1 x25_2).f1) (wrap64 (((rd_T80 l0_1 x25_2).f0)+1)) (wrap64 (a0_0 - 1)) true _ A15.out).mono ?_
               rintro e w' ⟨rfl,⟨nd,rfl⟩⟩
               refine ⟨_,rfl,?_⟩
               refine hK.out _ _ ⟨(zz9 BK109.out 0).trans rfl,(zz9 BK109.out 1).trans rfl,(zz9 BK106.out 0).trans rfl,(zz9 BK106.out 1).trans rfl,((HB.out.cell (World.block_lt_of_cell? w _ hw112_0)).trans hw112_0),((HB.out.cell (World.block_lt_of_cell? w _ hw112_1)).trans hw112_1)⟩ (fun hHeld=>?_)
               clear hK K
               refine norm_ (a':=?_) ?_ ?_
               rotate_left
               ·show Act.put _ (some 46) _=_
                simp only [Act.put,zz21,zz22,zz23,i64_w,i32_w]
                rfl
               refine pure_ (i:=17) (N:=some 47) (v:=?_) (a':=?_) #[T,T,T,T,T,T,T,T,T,T,T,T,T,T,T,T,T,T,F,F,F,F,F,F,F,F,F,F,F,F,F,F,F,F] rfl rfl (any_of HT_.out (by kernel_rfl)) (fun _ _ _ h=>h) (Or.inl ⟨by rfl,?_⟩) ?_ ?_
               rotate_left
               ·intro w'
                go_simp
                with_reducible rfl
               rotate_left
               ·simp only [Act.put,zz21,zz22,zz23,i64_w,i32_w]
                rfl
               refine pure_ (i:=18) (N:=some 48) (v:=?_) (a':=?_) #[T,T,T,T,T,T,T,T,T,T,T,T,T,T,T,T,T,T,T,F,F,F,F,F,F,F,F,F,F,F,F,F,F,F] rfl rfl (any_of HT_.out (by kernel_rfl)) (fun _ _ _ h=>h) (Or.inl ⟨by rfl,?_⟩) ?_ ?_
               rotate_left
               ·intro w'
                go_simp
                with_reducible rfl
               rotate_left
               ·simp only [Act.put,zz21,zz22,zz23,i64_w,i32_w]
                rfl
               refine pure_ (i:=19) (N:=some 49) (v:=?_) (a':=?_) #[T,T,T,T,T,T,T,T,T,T,T,T,T,T,T,T,T,T,T,T,F,F,F,F,F,F,F,F,F,F,F,F,F,F] rfl rfl (any_of HT_.out (by kernel_rfl)) (fun _ _ _ h=>h) (Or.inl ⟨by rfl,?_⟩) ?_ ?_
               rotate_left
               ·intro w'
                go_simp
                with_reducible rfl
               rotate_left
               ·simp only [Act.put,zz21,zz22,zz23,i64_w,i32_w]
                rfl
               refine pure_ (i:=20) (N:=some 50) (v:=?_) (a':=?_) #[T,T,T,T,T,T,T,T,T,T,T,T,T,T,T,T,T,T,T,T,T,F,F,F,F,F,F,F,F,F,F,F,F,F] rfl rfl (any_of HT_.out (by kernel_rfl)) (fun _ _ _ h=>h) (Or.inl ⟨by rfl,?_⟩) ?_ ?_
               rotate_left
               ·intro w'
                go_simp
                with_reducible rfl
               rotate_left
               ·simp only [Act.put,zz21,zz22,zz23,i64_w,i32_w]
                rfl
               refine pure_ (i:=21) (N:=some 51) (v:=?_) (a':=?_) #[T,T,T,T,T,T,T,T,T,T,T,T,T,T,T,T,T,T,T,T,T,T,F,F,F,F,F,F,F,F,F,F,F,F] rfl rfl (any_of HT_.out (by kernel_rfl)) (fun _ _ _ h=>h) (Or.inl ⟨by rfl,?_⟩) ?_ ?_
               rotate_left
               ·intro w'
                go_simp
                with_reducible rfl
               rotate_left
               ·simp only [Act.put,zz21,zz22,zz23,i64_w,i32_w]
                rfl
               refine pure_ (i:=22) (N:=some 52) (v:=?_) (a':=?_) #[T,T,T,T,T,T,T,T,T,T,T,T,T,T,T,T,T,T,T,T,T,T,T,F,F,F,F,F,F,F,F,F,F,F] rfl rfl (any_of HT_.out (by kernel_rfl)) (fun _ _ _ h=>h) (Or.inl ⟨by rfl,?_⟩) ?_ ?_
               rotate_left
               ·intro w'
                go_simp
                with_reducible rfl
               rotate_left
               ·simp only [Act.put,zz21,zz22,zz23,i64_w,i32_w]
                rfl
               refine pure_ (i:=23) (N:=some 53) (v:=?_) (a':=?_) #[T,T,T,T,T,T,T,T,T,T,T,T,T,T,T,T,T,T,T,T,T,T,T,T,F,F,F,F,F,F,F,F,F,F] rfl rfl (any_of HT_.out (by kernel_rfl)) (fun _ _ _ h=>h) (Or.inl ⟨by rfl,?_⟩) ?_ ?_
               rotate_left
               ·intro w'
                go_simp
                with_reducible rfl
               rotate_left
               ·simp only [Act.put,zz21,zz22,zz23,i64_w,i32_w]
                rfl
               refine pure_ (i:=25) (N:=some 55) (v:=?_) (a':=?_) #[T,T,T,T,T,T,T,T,T,T,T,T,T,T,T,T,T,T,T,T,T,T,T,T,F,T,F,F,F,F,F,F,F,F] rfl rfl (any_of HT_.out (by kernel_rfl)) (fun _ _ _ h=>h) (Or.inl ⟨by rfl,?_⟩) ?_ ?_
               rotate_left
               ·intro w'
                go_simp
                with_reducible rfl
               rotate_left
               ·simp only [Act.put,zz21,zz22,zz23,i64_w,i32_w]
                rfl
               refine pure_ (i:=26) (N:=some 56) (v:=?_) (a':=?_) #[T,T,T,T,T,T,T,T,T,T,T,T,T,T,T,T,T,T,T,T,T,T,T,T,F,T,T,F,F,F,F,F,F,F] rfl rfl (any_of HT_.out (by kernel_rfl)) (fun _ _ _ h=>h) (Or.inl ⟨by rfl,?_⟩) ?_ ?_
               rotate_left
               ·intro w'
                go_simp
                with_reducible rfl
               rotate_left
               ·simp only [Act.put,zz21,zz22,zz23,i64_w,i32_w]
                rfl
               refine take_ (i:=24) (N:=some 54) (v:=?_) (a':=?_) #[T,T,T,T,T,T,T,T,T,T,T,T,T,T,T,T,T,T,T,T,T,T,T,T,T,T,T,F,F,F,F,F,F,F] rfl rfl (take_ofW HT_.out HW_.out (by kernel_rfl)) (fun _ _ _ h=>h) (Or.inl ⟨by rfl,?_⟩) hHeld ?_ ?_
               rotate_left
               ·rintro w' ⟨s0,s1,s2,s3,s4,s5⟩
                go_simp
                with_reducible rfl
               rotate_left
               ·simp only [Act.put,zz21,zz22,zz23,i64_w,i32_w]
                rfl
               refine pure_ (i:=27) (N:=some 57) (v:=?_) (a':=?_) #[T,T,T,T,T,T,T,T,T,T,T,T,T,T,T,T,T,T,T,T,T,T,T,T,T,T,T,T,F,F,F,F,F,F] rfl rfl (any_of HT_.out (by kernel_rfl)) (fun _ _ _ h=>h) (Or.inl ⟨by rfl,?_⟩) ?_ ?_
               rotate_left
               ·intro w'
                go_simp
                with_reducible rfl
               rotate_left
               ·simp only [Act.put,zz21,zz22,zz23,i64_w,i32_w]
                rfl
               refine take_ (i:=28) (N:=some 58) (v:=?_) (a':=?_) #[T,T,T,T,T,T,T,T,T,T,T,T,T,T,T,T,T,T,T,T,T,T,T,T,T,T,T,T,T,F,F,F,F,F] rfl rfl (take_ofW HT_.out HW_.out (by kernel_rfl)) (fun _ _ _ h=>h) (Or.inl ⟨by rfl,?_⟩) hHeld ?_ ?_
               rotate_left
               ·rintro w' ⟨s0,s1,s2,s3,s4,s5⟩
                go_simp
                with_reducible rfl
               rotate_left
               ·simp only [Act.put,zz21,zz22,zz23,i64_w,i32_w]
                rfl
               refine take_ (i:=29) (N:=some 59) (v:=?_) (a':=?_) #[T,T,T,T,T,T,T,T,T,T,T,T,T,T,T,T,T,T,T,T,T,T,T,T,T,T,T,T,T,T,F,F,F,F] rfl rfl (take_ofW HT_.out HW_.out (by kernel_rfl)) (fun _ _ _ h=>h) (Or.inl ⟨by rfl,?_⟩) hHeld ?_ ?_
               rotate_left
               ·rintro w' ⟨s0,s1,s2,s3,s4,s5⟩
                go_simp
                with_reducible rfl
               rotate_left
               ·simp only [Act.put,zz21,zz22,zz23,i64_w,i32_w]
                rfl
               refine one_ (i:=30) (N:=some 60) #[T,T,T,T,T,T,T,T,T,T,T,T,T,T,T,T,T,T,T,T,T,T,T,T,T,T,T,T,T,T,T,F,F,F] rfl rfl (one_of HT_.out (by kernel_rfl)) (by decide) (fun K hK=>?_)
               refine goes_ Try.func79 (by kernel_rfl) rfl #[.agg #[.int .i64 ((rd_T80 l0_1 (ji18)).f0),.int .i64 ((rd_T80 l0_1 (ji18)).f1)],.agg #[.int .i64 ((rd_T80 l0_1 x25_2).f0),.int .i64 ((rd_T80 l0_1 x25_2).f1)]] (by rfl) rfl rfl (by (try simp only [zz26,zz27,zz28]);first | done | (simp only [hji18];rfl) | rfl | (simp only [zz24,zz25];rfl)) ?_
               with_reducible refine (spec_paLess.calls ((rd_T80 l0_1 (ji18)).f0) ((rd_T80 l0_1 (ji18)).f1) ((rd_T80 l0_1 x25_2).f0) ((rd_T80 l0_1 x25_2).f1) true _ A21.out).mono ?_
               rintro e w28 ⟨rfl,hb⟩
               refine ⟨_,rfl,?_⟩
               have n0_:=zz31 (zz11 (g:=gb106) (o:=.cells #[.int .i64 a0_0,.slice (some ad108) l0_1.length c0_1] 30 (0,0)) (by (with_reducible repeat (first | refine zz6 ?_ _ | refine zz7 ?_ | refine zz8 ?_ _));exact BK106.out) hb)
               have n1_:=zz31 (zz11 (g:=gb109) (o:=.cells #[.int .i64 ((rd_T80 l0_1 x25_2).f0),.int .i64 ((rd_T80 l0_1 x25_2).f1)] 80 (0,0)) (by (with_reducible repeat (first | refine zz6 ?_ _ | refine zz7 ?_ | refine zz8 ?_ _));exact BK109.out) hb)
               have n2_:=zz31 (zz4 (by repeat first | exact HB.out | apply zz2 | apply zz0 | apply zz1 | refine zz3 ?_ GE106.out | refine zz3 ?_ GE109.out) hb)
               clear BK106
               clear BK109
               clear HB
               have BK106:=n0_
               have BK109:=n1_
               have HB:=n2_
               clear n0_ n1_ n2_
               (try clear hb)
               (try clear hb2)
               (try clear hk)
               (try clear hi)
               refine hK.out _ _ ⟨(zz9 BK109.out 0).trans rfl,(zz9 BK109.out 1).trans rfl,(zz9 BK106.out 0).trans rfl,(zz9 BK106.out 1).trans rfl,((HB.out.cell (World.block_lt_of_cell? w _ hw112_0)).trans hw112_0),((HB.out.cell (World.block_lt_of_cell? w _ hw112_1)).trans hw112_1)⟩ (fun hHeld=>?_)
               clear hK K
               refine norm_ (a':=?_) ?_ ?_
               rotate_left
               ·show Act.put _ (some 60) _=_
                simp only [Act.put,zz21,zz22,zz23,i64_w,i32_w]
                rfl
               refine pure_ (i:=31) (N:=some 61) (v:=?_) (a':=?_) #[T,T,T,T,T,T,T,T,T,T,T,T,T,T,T,T,T,T,T,T,T,T,T,T,T,T,T,T,T,T,T,T,F,F] rfl rfl (any_of HT_.out (by kernel_rfl)) (fun _ _ _ h=>h) (Or.inl ⟨by rfl,?_⟩) ?_ ?_
               rotate_left
               ·intro w'
                go_simp
                with_reducible rfl
               rotate_left
               ·simp only [Act.put,zz21,zz22,zz23,i64_w,i32_w]
                rfl
               refine pure_ (i:=32) (N:=some 62) (v:=?_) (a':=?_) #[T,T,T,T,T,T,T,T,T,T,T,T,T,T,T,T,T,T,T,T,T,T,T,T,T,T,T,T,T,T,T,T,T,F] rfl rfl (any_of HT_.out (by kernel_rfl)) (fun _ _ _ h=>h) (Or.inl ⟨by rfl,?_⟩) ?_ ?_
               rotate_left
               ·intro w'
                go_simp
                with_reducible rfl
               rotate_left
               ·simp only [Act.put,zz21,zz22,zz23,i64_w,i32_w]
                rfl
               refine pure_ (i:=33) (N:=some 63) (v:=?_) (a':=?_) #[T,T,T,T,T,T,T,T,T,T,T,T,T,T,T,T,T,T,T,T,T,T,T,T,T,T,T,T,T,T,T,T,T,T] rfl rfl (any_of HT_.out (by kernel_rfl)) (fun _ _ _ h=>h) (Or.inl ⟨by rfl,?_⟩) ?_ ?_
               rotate_left
               ·intro w'
                go_simp
                with_reducible rfl
               rotate_left
               ·simp only [Act.put,zz21,zz22,zz23,i64_w,i32_w]
                rfl
               refine done_ (done_of HT_.out (by kernel_rfl)) ?_
               try go_wp2
               go_roundg k2
               case measure=>have:=HJ1.out;have:=HK2.out;omega
               case rel=>exact ⟨(wrap64 (x25_2+1)),(by first | rfl | (simp;done) | (simp [*];done)),H',⟨by have:=HJ1.out;have:=HK2.out;omega⟩,⟨by (with_reducible repeat (first | refine zz6 ?_ _ | refine zz7 ?_ | refine zz8 ?_ _));exact BK106.out⟩,⟨by repeat first | exact HB.out | apply zz2 | apply zz0 | apply zz1 | refine zz3 ?_ GE106.out | refine zz3 ?_ GE109.out⟩⟩
              ·replace c22:=Bool.eq_false_iff.mpr c22
               subst c22
               have H1:(some false)=some r:=by rw [if_neg (show ¬ (false=true) by decide)] at H;exact H
               clear H
               have H:=H1
               clear H1
               obtain rfl:=Option.some.inj H
               have p108:0≤(x25_2:Int):=zz29 (by first | (with_reducible assumption) | assumption)
               have q108:x25_2 < (l0_1.length:Int):=zz29 (by first | (with_reducible assumption) | assumption)
               obtain ⟨ad108,e108,hx108_0,hx108_1⟩:=at_T80 HR0_1.out x25_2 p108 q108
               cases e108
               try replace hx108_0:=(HB.out.cell (World.block_lt_of_cell? w _ hx108_0)).trans hx108_0
               try replace hx108_1:=(HB.out.cell (World.block_lt_of_cell? w _ hx108_1)).trans hx108_1
               replace p108:=eq_true p108
               replace q108:=eq_true q108
               try go_wp2_with (first | ((with_reducible refine gate_dst (N:=4) rfl ?_);(try (refine gate_guard (by rfl) ?_;dsimp only));refine box_event ?hg (N:=4) ?hd (cs:=#[.int .i64 0,.int .i64 0]) (t:=80) ?hr ?_;(case hd=>rfl);(case hg=>rfl);(case hr=>first | (go_simp;done) | (go_simp;rfl));intro gb109 hg w29 hbox hb;have n0_:=zz31 (zz11 (g:=gb106) (o:=.cells #[.int .i64 a0_0,.slice (some ad108) l0_1.length c0_1] 30 (0,0)) (by (with_reducible repeat (first | refine zz6 ?_ _ | refine zz7 ?_ | refine zz8 ?_ _));exact BK106.out) hb);have n1_:=zz31 (zz4 (by repeat first | exact HB.out | apply zz2 | apply zz0 | apply zz1 | refine zz3 ?_ GE106.out) hb);have n2_:=zz31 (hbox);have n3_:=zz31 ((by rw [hg];exact (zz5 (by repeat first | exact HB.out | apply zz2 | apply zz0 | apply zz1 | refine zz3 ?_ GE106.out)):w.heap.size≤gb109));have n4_:=zz31 ((by rw [hg];exact (zz5 (by repeat first | exact HB.out | apply zz2 | apply zz0 | apply zz1 | refine zz3 ?_ GE106.out)):w.heap.size≤gb109));have n5_:=zz31 ((by rw [hg];exact Nat.ne_of_lt (blk_lt (g:=gb106) (o:=.cells #[.int .i64 a0_0,.slice (some ad108) l0_1.length c0_1] 30 (0,0)) (by (with_reducible repeat (first | refine zz6 ?_ _ | refine zz7 ?_ | refine zz8 ?_ _));exact BK106.out)):gb106 ≠ gb109));have n6_:=zz31 ((by rw [hg];exact Nat.ne_of_gt (blk_lt (g:=gb106) (o:=.cells #[.int .i64 a0_0,.slice (some ad108) l0_1.length c0_1] 30 (0,0)) (by (with_reducible repeat (first | refine zz6 ?_ _ | refine zz7 ?_ | refine zz8 ?_ _));exact BK106.out)):gb109 ≠ gb106));clear BK106;clear HB;have BK106:=n0_;have HB:=n1_;have BK109:=n2_;have GW109:=n3_;have GE109:=n4_;have NB106_109:=n5_;have NB109_106:=n6_;clear n0_ n1_ n2_ n3_ n4_ n5_ n6_;clear hb hbox hg;have hnb30:=NB109_106.out;have hnc30:=NB106_109.out;have hcz31_0:w29.cell? ⟨gb109,0,none⟩=some (.int .i64 0):=(zz9 BK109.out 0).trans rfl;have hcz31_1:w29.cell? ⟨gb109,1,none⟩=some (.int .i64 0):=(zz9 BK109.out 1).trans rfl;have hfz31_0:=zz10 BK109.out 0;have hfz31_1:=zz10 BK109.out 1))
               have n0_:Aside0 (((w29.setCell ⟨gb109,0,none⟩ (.int .i64 ((rd_T80 l0_1 x25_2).f0))).setCell ⟨gb109,1,none⟩ (.int .i64 ((rd_T80 l0_1 x25_2).f1))).heap[gb106]?=some (.cells #[.int .i64 a0_0,.slice (some ad108) l0_1.length c0_1] 30 (0,0))):=⟨by (with_reducible repeat (first | refine zz6 ?_ _ | refine zz7 ?_ | refine zz8 ?_ _));refine blk_far ?_ NB106_109.out _;(with_reducible repeat (first | refine zz6 ?_ _ | refine zz7 ?_ | refine zz8 ?_ _));refine blk_far ?_ NB106_109.out _;(with_reducible repeat (first | refine zz6 ?_ _ | refine zz7 ?_ | refine zz8 ?_ _));exact BK106.out⟩
               have n1_:Aside0 (((w29.setCell ⟨gb109,0,none⟩ (.int .i64 ((rd_T80 l0_1 x25_2).f0))).setCell ⟨gb109,1,none⟩ (.int .i64 ((rd_T80 l0_1 x25_2).f1))).heap[gb109]?=some (.cells #[.int .i64 ((rd_T80 l0_1 x25_2).f0),.int .i64 ((rd_T80 l0_1 x25_2).f1)] 80 (0,0))):=⟨by (with_reducible repeat (first | refine zz6 ?_ _ | refine zz7 ?_ | refine zz8 ?_ _));refine blk_put (cs:=#[.int .i64 ((rd_T80 l0_1 x25_2).f0),.int .i64 0]) ?_ 1 _ rfl;(with_reducible repeat (first | refine zz6 ?_ _ | refine zz7 ?_ | refine zz8 ?_ _));refine blk_put (cs:=#[.int .i64 0,.int .i64 0]) ?_ 0 _ rfl;(with_reducible repeat (first | refine zz6 ?_ _ | refine zz7 ?_ | refine zz8 ?_ _));exact BK109.out⟩
               have n2_:Aside0 (Below w.heap.size w ((w29.setCell ⟨gb109,0,none⟩ (.int .i64 ((rd_T80 l0_1 x25_2).f0))).setCell ⟨gb109,1,none⟩ (.int .i64 ((rd_T80 l0_1 x25_2).f1)))):=⟨by repeat first | exact HB.out | apply zz2 | apply zz0 | apply zz1 | refine zz3 ?_ GE106.out | refine zz3 ?_ GE109.out⟩
               (try clear BK106)
               (try clear BK109)
               (try clear HB)
               generalize ((w29.setCell ⟨gb109,0,none⟩ (.int .i64 ((rd_T80 l0_1 x25_2).f0))).setCell ⟨gb109,1,none⟩ (.int .i64 ((rd_T80 l0_1 x25_2).f1)))=w32 at n0_ n1_ n2_ ⊢
               have BK106:=n0_
               have BK109:=n1_
               have HB:=n2_
               clear n0_ n1_ n2_
               have n0_:=zz31 (zz7 BK106.out)
               have n1_:=zz31 (zz7 BK109.out)
               have n2_:=zz31 (zz1 HB.out)
               clear BK106
               clear BK109
               clear HB
               have BK106:=n0_
               have BK109:=n1_
               have HB:=n2_
               clear n0_ n1_ n2_
               have p112:0≤((ji18):Int):=zz29 (by first | (with_reducible assumption) | assumption)
               have q112:(ji18) < (l0_1.length:Int):=zz29 (by first | (with_reducible assumption) | assumption)
               obtain ⟨ad112,e112,hx112_0,hx112_1⟩:=at_T80 HR0_1.out (ji18) p112 q112
               have hw112_1:=hx112_1
               have hw112_0:=hx112_0
               obtain rfl:ad108=ad112:=(by injection e112)
               try replace hx112_0:=(HB.out.cell (World.block_lt_of_cell? w _ hx112_0)).trans hx112_0
               try replace hx112_1:=(HB.out.cell (World.block_lt_of_cell? w _ hx112_1)).trans hx112_1
               replace p112:=eq_true p112
               replace q112:=eq_true q112
               refine start_ (n:=34) (S:=fun w'=>w'.cell? ⟨gb109,0,none⟩=some (.int .i64 ((rd_T80 l0_1 x25_2).f0))∧w'.cell? ⟨gb109,1,none⟩=some (.int .i64 ((rd_T80 l0_1 x25_2).f1))∧w'.cell? ⟨gb106,0,none⟩=some (.int .i64 a0_0)∧w'.cell? ⟨gb106,1,none⟩=some (.slice (some ad108) l0_1.length c0_1)∧w'.cell? (ad108.add (((ji18)).toNat * 2))=some (.int .i64 ((rd_T80 l0_1 (ji18)).f0))∧w'.cell? ⟨(ad108.add (((ji18)).toNat * 2)).block,(ad108.add (((ji18)).toNat * 2)).off+1,none⟩=some (.int .i64 ((rd_T80 l0_1 (ji18)).f1))) (ds:=[]) #[F,F,F,F,F,F,F,F,F,F,F,F,F,F,F,F,F,F,F,F,F,F,F,F,F,F,F,F,F,F,F,F,F,F] (by kernel_rfl) rfl rfl ⟨(zz9 BK109.out 0).trans rfl,(zz9 BK109.out 1).trans rfl,(zz9 BK106.out 0).trans rfl,(zz9 BK106.out 1).trans rfl,((HB.out.cell (World.block_lt_of_cell? w _ hw112_0)).trans hw112_0),((HB.out.cell (World.block_lt_of_cell? w _ hw112_1)).trans hw112_1)⟩ (fun hHeld=>?_);refine with_tabW spec_paGood.tab6 spec_paGood.bits6 (fun HT_ HW_=>?_)
               generalize w32.drew=w33 at BK106 BK109 HB hx112_0 hx112_1 hHeld ⊢
               refine pure_ (i:=0) (N:=some 30) (v:=?_) (a':=?_) #[T,F,F,F,F,F,F,F,F,F,F,F,F,F,F,F,F,F,F,F,F,F,F,F,F,F,F,F,F,F,F,F,F,F] rfl rfl (any_of HT_.out (by kernel_rfl)) (fun _ _ _ h=>h) (Or.inl ⟨by rfl,?_⟩) ?_ ?_
               rotate_left
               ·intro w'
                go_simp
                with_reducible rfl
               rotate_left
               ·simp only [Act.put,zz21,zz22,zz23,i64_w,i32_w]
                rfl
               refine pure_ (i:=2) (N:=some 32) (v:=?_) (a':=?_) #[T,F,T,F,F,F,F,F,F,F,F,F,F,F,F,F,F,F,F,F,F,F,F,F,F,F,F,F,F,F,F,F,F,F] rfl rfl (any_of HT_.out (by kernel_rfl)) (fun _ _ _ h=>h) (Or.inl ⟨by rfl,?_⟩) ?_ ?_
               rotate_left
               ·intro w'
                go_simp
                with_reducible rfl
               rotate_left
               ·simp only [Act.put,zz21,zz22,zz23,i64_w,i32_w]
                rfl
               refine take_ (i:=1) (N:=some 31) (v:=?_) (a':=?_) #[T,T,T,F,F,F,F,F,F,F,F,F,F,F,F,F,F,F,F,F,F,F,F,F,F,F,F,F,F,F,F,F,F,F] rfl rfl (take_ofW HT_.out HW_.out (by kernel_rfl)) (fun _ _ _ h=>h) (Or.inl ⟨by rfl,?_⟩) hHeld ?_ ?_
               rotate_left
               ·rintro w' ⟨s0,s1,s2,s3,s4,s5⟩
                go_simp
                with_reducible rfl
               rotate_left
               ·simp only [Act.put,zz21,zz22,zz23,i64_w,i32_w]
                rfl
               refine take_ (i:=3) (N:=some 33) (v:=?_) (a':=?_) #[T,T,T,T,F,F,F,F,F,F,F,F,F,F,F,F,F,F,F,F,F,F,F,F,F,F,F,F,F,F,F,F,F,F] rfl rfl (take_ofW HT_.out HW_.out (by kernel_rfl)) (fun _ _ _ h=>h) (Or.inl ⟨by rfl,?_⟩) hHeld ?_ ?_
               rotate_left
               ·rintro w' ⟨s0,s1,s2,s3,s4,s5⟩
                go_simp
                with_reducible rfl
               rotate_left
               ·simp only [Act.put,zz21,zz22,zz23,i64_w,i32_w]
                rfl
               refine pure_ (i:=4) (N:=some 34) (v:=?_) (a':=?_) #[T,T,T,T,T,F,F,F,F,F,F,F,F,F,F,F,F,F,F,F,F,F,F,F,F,F,F,F,F,F,F,F,F,F] rfl rfl (any_of HT_.out (by kernel_rfl)) (fun _ _ _ h=>h) (Or.inl ⟨by rfl,?_⟩) ?_ ?_
               rotate_left
               ·intro w'
                go_simp
                with_reducible rfl
               rotate_left
               ·simp only [Act.put,zz21,zz22,zz23,i64_w,i32_w]
                rfl
               refine one_ (i:=5) (N:=some 35) #[T,T,T,T,T,T,F,F,F,F,F,F,F,F,F,F,F,F,F,F,F,F,F,F,F,F,F,F,F,F,F,F,F,F] rfl rfl (one_of HT_.out (by kernel_rfl)) (by decide) (fun K hK=>?_)
               refine goes_ Try.func78 (by kernel_rfl) rfl #[.int .i64 ((rd_T80 l0_1 x25_2).f0),.int .i64 0,.int .i64 (wrap64 (a0_0 - 1))] (by rfl) rfl rfl (by (try simp only [zz26,zz27,zz28]);first | done | rfl | (simp only [zz24,zz25];rfl)) ?_
               with_reducible refine (spec_l1In.calls ((rd_T80 l0_1 x25_2).f0) 0 (wrap64 (a0_0 - 1)) true _ A13.out).mono ?_
               rintro e w' ⟨rfl,⟨nd,rfl⟩⟩
               refine ⟨_,rfl,?_⟩
               refine hK.out _ _ ⟨(zz9 BK109.out 0).trans rfl,(zz9 BK109.out 1).trans rfl,(zz9 BK106.out 0).trans rfl,(zz9 BK106.out 1).trans rfl,((HB.out.cell (World.block_lt_of_cell? w _ hw112_0)).trans hw112_0),((HB.out.cell (World.block_lt_of_cell? w _ hw112_1)).trans hw112_1)⟩ (fun hHeld=>?_)
               clear hK K
               refine norm_ (a':=?_) ?_ ?_
               rotate_left
               ·show Act.put _ (some 35) _=_
                simp only [Act.put,zz21,zz22,zz23,i64_w,i32_w]
                rfl
               refine pure_ (i:=6) (N:=some 36) (v:=?_) (a':=?_) #[T,T,T,T,T,T,T,F,F,F,F,F,F,F,F,F,F,F,F,F,F,F,F,F,F,F,F,F,F,F,F,F,F,F] rfl rfl (any_of HT_.out (by kernel_rfl)) (fun _ _ _ h=>h) (Or.inl ⟨by rfl,?_⟩) ?_ ?_
               rotate_left
               ·intro w'
                go_simp
                with_reducible rfl
               rotate_left
               ·simp only [Act.put,zz21,zz22,zz23,i64_w,i32_w]
                rfl
               refine pure_ (i:=7) (N:=some 37) (v:=?_) (a':=?_) #[T,T,T,T,T,T,T,T,F,F,F,F,F,F,F,F,F,F,F,F,F,F,F,F,F,F,F,F,F,F,F,F,F,F] rfl rfl (any_of HT_.out (by kernel_rfl)) (fun _ _ _ h=>h) (Or.inl ⟨by rfl,?_⟩) ?_ ?_
               rotate_left
               ·intro w'
                go_simp
                with_reducible rfl
               rotate_left
               ·simp only [Act.put,zz21,zz22,zz23,i64_w,i32_w]
                rfl
               refine pure_ (i:=8) (N:=some 38) (v:=?_) (a':=?_) #[T,T,T,T,T,T,T,T,T,F,F,F,F,F,F,F,F,F,F,F,F,F,F,F,F,F,F,F,F,F,F,F,F,F] rfl rfl (any_of HT_.out (by kernel_rfl)) (fun _ _ _ h=>h) (Or.inl ⟨by rfl,?_⟩) ?_ ?_
               rotate_left
               ·intro w'
                go_simp
                with_reducible rfl
               rotate_left
               ·simp only [Act.put,zz21,zz22,zz23,i64_w,i32_w]
                rfl
               refine pure_ (i:=10) (N:=some 40) (v:=?_) (a':=?_) #[T,T,T,T,T,T,T,T,T,F,T,F,F,F,F,F,F,F,F,F,F,F,F,F,F,F,F,F,F,F,F,F,F,F] rfl rfl (any_of HT_.out (by kernel_rfl)) (fun _ _ _ h=>h) (Or.inl ⟨by rfl,?_⟩) ?_ ?_
               rotate_left
               ·intro w'
                go_simp
                with_reducible rfl
               rotate_left
               ·simp only [Act.put,zz21,zz22,zz23,i64_w,i32_w]
                rfl
               refine pure_ (i:=13) (N:=some 43) (v:=?_) (a':=?_) #[T,T,T,T,T,T,T,T,T,F,T,F,F,T,F,F,F,F,F,F,F,F,F,F,F,F,F,F,F,F,F,F,F,F] rfl rfl (any_of HT_.out (by kernel_rfl)) (fun _ _ _ h=>h) (Or.inl ⟨by rfl,?_⟩) ?_ ?_
               rotate_left
               ·intro w'
                go_simp
                with_reducible rfl
               rotate_left
               ·simp only [Act.put,zz21,zz22,zz23,i64_w,i32_w]
                rfl
               refine take_ (i:=9) (N:=some 39) (v:=?_) (a':=?_) #[T,T,T,T,T,T,T,T,T,T,T,F,F,T,F,F,F,F,F,F,F,F,F,F,F,F,F,F,F,F,F,F,F,F] rfl rfl (take_ofW HT_.out HW_.out (by kernel_rfl)) (fun _ _ _ h=>h) (Or.inl ⟨by rfl,?_⟩) hHeld ?_ ?_
               rotate_left
               ·rintro w' ⟨s0,s1,s2,s3,s4,s5⟩
                go_simp
                with_reducible rfl
               rotate_left
               ·simp only [Act.put,zz21,zz22,zz23,i64_w,i32_w]
                rfl
               refine take_ (i:=11) (N:=some 41) (v:=?_) (a':=?_) #[T,T,T,T,T,T,T,T,T,T,T,T,F,T,F,F,F,F,F,F,F,F,F,F,F,F,F,F,F,F,F,F,F,F] rfl rfl (take_ofW HT_.out HW_.out (by kernel_rfl)) (fun _ _ _ h=>h) (Or.inl ⟨by rfl,?_⟩) hHeld ?_ ?_
               rotate_left
               ·rintro w' ⟨s0,s1,s2,s3,s4,s5⟩
                go_simp
                with_reducible rfl
               rotate_left
               ·simp only [Act.put,zz21,zz22,zz23,i64_w,i32_w]
                rfl
               refine pure_ (i:=12) (N:=some 42) (v:=?_) (a':=?_) #[T,T,T,T,T,T,T,T,T,T,T,T,T,T,F,F,F,F,F,F,F,F,F,F,F,F,F,F,F,F,F,F,F,F] rfl rfl (any_of HT_.out (by kernel_rfl)) (fun _ _ _ h=>h) (Or.inl ⟨by rfl,?_⟩) ?_ ?_
               rotate_left
               ·intro w'
                go_simp
                with_reducible rfl
               rotate_left
               ·simp only [Act.put,zz21,zz22,zz23,i64_w,i32_w]
                rfl
               refine take_ (i:=14) (N:=some 44) (v:=?_) (a':=?_) #[T,T,T,T,T,T,T,T,T,T,T,T,T,T,T,F,F,F,F,F,F,F,F,F,F,F,F,F,F,F,F,F,F,F] rfl rfl (take_ofW HT_.out HW_.out (by kernel_rfl)) (fun _ _ _ h=>h) (Or.inl ⟨by rfl,?_⟩) hHeld ?_ ?_
               rotate_left
               ·rintro w' ⟨s0,s1,s2,s3,s4,s5⟩
                go_simp
                with_reducible rfl
               rotate_left
               ·simp only [Act.put,zz21,zz22,zz23,i64_w,i32_w]
                rfl
               refine pure_ (i:=15) (N:=some 45) (v:=?_) (a':=?_) #[T,T,T,T,T,T,T,T,T,T,T,T,T,T,T,T,F,F,F,F,F,F,F,F,F,F,F,F,F,F,F,F,F,F] rfl rfl (any_of HT_.out (by kernel_rfl)) (fun _ _ _ h=>h) (Or.inl ⟨by rfl,?_⟩) ?_ ?_
               rotate_left
               ·intro w'
                go_simp
                with_reducible rfl
               rotate_left
               ·simp only [Act.put,zz21,zz22,zz23,i64_w,i32_w]
                rfl
               refine one_ (i:=16) (N:=some 46) #[T,T,T,T,T,T,T,T,T,T,T,T,T,T,T,T,T,F,F,F,F,F,F,F,F,F,F,F,F,F,F,F,F,F] rfl rfl (one_of HT_.out (by kernel_rfl)) (by decide) (fun K hK=>?_)
               refine goes_ Try.func78 (by kernel_rfl) rfl #[.int .i64 ((rd_T80 l0_1 x25_2).f1),.int .i64 (wrap64 (((rd_T80 l0_1 x25_2).f0)+1)),.int .i64 (wrap64 (a0_0 - 1))] (by rfl) rfl rfl (by (try simp only [zz26,zz27,zz28]);first | done | rfl | (simp only [zz24,zz25];rfl)) ?_
               with_reducible refine (spec_l1In.calls ((rd_T80 l0_1 x25_2).f1) (wrap64 (((rd_T80 l0_1 x25_2).f0)+1)) (wrap64 (a0_0 - 1)) true _ A15.out).mono ?_
               rintro e w' ⟨rfl,⟨nd,rfl⟩⟩
               refine ⟨_,rfl,?_⟩
               refine hK.out _ _ ⟨(zz9 BK109.out 0).trans rfl,(zz9 BK109.out 1).trans rfl,(zz9 BK106.out 0).trans rfl,(zz9 BK106.out 1).trans rfl,((HB.out.cell (World.block_lt_of_cell? w _ hw112_0)).trans hw112_0),((HB.out.cell (World.block_lt_of_cell? w _ hw112_1)).trans hw112_1)⟩ (fun hHeld=>?_)
               clear hK K
               refine norm_ (a':=?_) ?_ ?_
               rotate_left
               ·show Act.put _ (some 46) _=_
                simp only [Act.put,zz21,zz22,zz23,i64_w,i32_w]
                rfl
               refine pure_ (i:=17) (N:=some 47) (v:=?_) (a':=?_) #[T,T,T,T,T,T,T,T,T,T,T,T,T,T,T,T,T,T,F,F,F,F,F,F,F,F,F,F,F,F,F,F,F,F] rfl rfl (any_of HT_.out (by kernel_rfl)) (fun _ _ _ h=>h) (Or.inl ⟨by rfl,?_⟩) ?_ ?_
               rotate_left
               ·intro w'
                go_simp
                with_reducible rfl
               rotate_left
               ·simp only [Act.put,zz21,zz22,zz23,i64_w,i32_w]
                rfl
               refine pure_ (i:=18) (N:=some 48) (v:=?_) (a':=?_) #[T,T,T,T,T,T,T,T,T,T,T,T,T,T,T,T,T,T,T,F,F,F,F,F,F,F,F,F,F,F,F,F,F,F] rfl rfl (any_of HT_.out (by kernel_rfl)) (fun _ _ _ h=>h) (Or.inl ⟨by rfl,?_⟩) ?_ ?_
               rotate_left
               ·intro w'
                go_simp
                with_reducible rfl
               rotate_left
               ·simp only [Act.put,zz21,zz22,zz23,i64_w,i32_w]
                rfl
               refine pure_ (i:=19) (N:=some 49) (v:=?_) (a':=?_) #[T,T,T,T,T,T,T,T,T,T,T,T,T,T,T,T,T,T,T,T,F,F,F,F,F,F,F,F,F,F,F,F,F,F] rfl rfl (any_of HT_.out (by kernel_rfl)) (fun _ _ _ h=>h) (Or.inl ⟨by rfl,?_⟩) ?_ ?_
               rotate_left
               ·intro w'
                go_simp
                with_reducible rfl
               rotate_left
               ·simp only [Act.put,zz21,zz22,zz23,i64_w,i32_w]
                rfl
               refine pure_ (i:=20) (N:=some 50) (v:=?_) (a':=?_) #[T,T,T,T,T,T,T,T,T,T,T,T,T,T,T,T,T,T,T,T,T,F,F,F,F,F,F,F,F,F,F,F,F,F] rfl rfl (any_of HT_.out (by kernel_rfl)) (fun _ _ _ h=>h) (Or.inl ⟨by rfl,?_⟩) ?_ ?_
               rotate_left
               ·intro w'
                go_simp
                with_reducible rfl
               rotate_left
               ·simp only [Act.put,zz21,zz22,zz23,i64_w,i32_w]
                rfl
               refine pure_ (i:=21) (N:=some 51) (v:=?_) (a':=?_) #[T,T,T,T,T,T,T,T,T,T,T,T,T,T,T,T,T,T,T,T,T,T,F,F,F,F,F,F,F,F,F,F,F,F] rfl rfl (any_of HT_.out (by kernel_rfl)) (fun _ _ _ h=>h) (Or.inl ⟨by rfl,?_⟩) ?_ ?_
               rotate_left
               ·intro w'
                go_simp
                with_reducible rfl
               rotate_left
               ·simp only [Act.put,zz21,zz22,zz23,i64_w,i32_w]
                rfl
               refine pure_ (i:=22) (N:=some 52) (v:=?_) (a':=?_) #[T,T,T,T,T,T,T,T,T,T,T,T,T,T,T,T,T,T,T,T,T,T,T,F,F,F,F,F,F,F,F,F,F,F] rfl rfl (any_of HT_.out (by kernel_rfl)) (fun _ _ _ h=>h) (Or.inl ⟨by rfl,?_⟩) ?_ ?_
               rotate_left
               ·intro w'
                go_simp
                with_reducible rfl
               rotate_left
               ·simp only [Act.put,zz21,zz22,zz23,i64_w,i32_w]
                rfl
               refine pure_ (i:=23) (N:=some 53) (v:=?_) (a':=?_) #[T,T,T,T,T,T,T,T,T,T,T,T,T,T,T,T,T,T,T,T,T,T,T,T,F,F,F,F,F,F,F,F,F,F] rfl rfl (any_of HT_.out (by kernel_rfl)) (fun _ _ _ h=>h) (Or.inl ⟨by rfl,?_⟩) ?_ ?_
               rotate_left
               ·intro w'
                go_simp
                with_reducible rfl
               rotate_left
               ·simp only [Act.put,zz21,zz22,zz23,i64_w,i32_w]
                rfl
               refine pure_ (i:=25) (N:=some 55) (v:=?_) (a':=?_) #[T,T,T,T,T,T,T,T,T,T,T,T,T,T,T,T,T,T,T,T,T,T,T,T,F,T,F,F,F,F,F,F,F,F] rfl rfl (any_of HT_.out (by kernel_rfl)) (fun _ _ _ h=>h) (Or.inl ⟨by rfl,?_⟩) ?_ ?_
               rotate_left
               ·intro w'
                go_simp
                with_reducible rfl
               rotate_left
               ·simp only [Act.put,zz21,zz22,zz23,i64_w,i32_w]
                rfl
               refine pure_ (i:=26) (N:=some 56) (v:=?_) (a':=?_) #[T,T,T,T,T,T,T,T,T,T,T,T,T,T,T,T,T,T,T,T,T,T,T,T,F,T,T,F,F,F,F,F,F,F] rfl rfl (any_of HT_.out (by kernel_rfl)) (fun _ _ _ h=>h) (Or.inl ⟨by rfl,?_⟩) ?_ ?_
               rotate_left
               ·intro w'
                go_simp
                with_reducible rfl
               rotate_left
               ·simp only [Act.put,zz21,zz22,zz23,i64_w,i32_w]
                rfl
               refine take_ (i:=24) (N:=some 54) (v:=?_) (a':=?_) #[T,T,T,T,T,T,T,T,T,T,T,T,T,T,T,T,T,T,T,T,T,T,T,T,T,T,T,F,F,F,F,F,F,F] rfl rfl (take_ofW HT_.out HW_.out (by kernel_rfl)) (fun _ _ _ h=>h) (Or.inl ⟨by rfl,?_⟩) hHeld ?_ ?_
               rotate_left
               ·rintro w' ⟨s0,s1,s2,s3,s4,s5⟩
                go_simp
                with_reducible rfl
               rotate_left
               ·simp only [Act.put,zz21,zz22,zz23,i64_w,i32_w]
                rfl
               refine pure_ (i:=27) (N:=some 57) (v:=?_) (a':=?_) #[T,T,T,T,T,T,T,T,T,T,T,T,T,T,T,T,T,T,T,T,T,T,T,T,T,T,T,T,F,F,F,F,F,F] rfl rfl (any_of HT_.out (by kernel_rfl)) (fun _ _ _ h=>h) (Or.inl ⟨by rfl,?_⟩) ?_ ?_
               rotate_left
               ·intro w'
                go_simp
                with_reducible rfl
               rotate_left
               ·simp only [Act.put,zz21,zz22,zz23,i64_w,i32_w]
                rfl
               refine take_ (i:=28) (N:=some 58) (v:=?_) (a':=?_) #[T,T,T,T,T,T,T,T,T,T,T,T,T,T,T,T,T,T,T,T,T,T,T,T,T,T,T,T,T,F,F,F,F,F] rfl rfl (take_ofW HT_.out HW_.out (by kernel_rfl)) (fun _ _ _ h=>h) (Or.inl ⟨by rfl,?_⟩) hHeld ?_ ?_
               rotate_left
               ·rintro w' ⟨s0,s1,s2,s3,s4,s5⟩
                go_simp
                with_reducible rfl
               rotate_left
               ·simp only [Act.put,zz21,zz22,zz23,i64_w,i32_w]
                rfl
               refine take_ (i:=29) (N:=some 59) (v:=?_) (a':=?_) #[T,T,T,T,T,T,T,T,T,T,T,T,T,T,T,T,T,T,T,T,T,T,T,T,T,T,T,T,T,T,F,F,F,F] rfl rfl (take_ofW HT_.out HW_.out (by kernel_rfl)) (fun _ _ _ h=>h) (Or.inl ⟨by rfl,?_⟩) hHeld ?_ ?_
               rotate_left
               ·rintro w' ⟨s0,s1,s2,s3,s4,s5⟩
                go_simp
                with_reducible rfl
               rotate_left
               ·simp only [Act.put,zz21,zz22,zz23,i64_w,i32_w]
                rfl
               refine one_ (i:=30) (N:=some 60) #[T,T,T,T,T,T,T,T,T,T,T,T,T,T,T,T,T,T,T,T,T,T,T,T,T,T,T,T,T,T,T,F,F,F] rfl rfl (one_of HT_.out (by kernel_rfl)) (by decide) (fun K hK=>?_)
               refine goes_ Try.func79 (by kernel_rfl) rfl #[.agg #[.int .i64 ((rd_T80 l0_1 (ji18)).f0),.int .i64 ((rd_T80 l0_1 (ji18)).f1)],.agg #[.int .i64 ((rd_T80 l0_1 x25_2).f0),.int .i64 ((rd_T80 l0_1 x25_2).f1)]] (by rfl) rfl rfl (by (try simp only [zz26,zz27,zz28]);first | done | (simp only [hji18];rfl) | rfl | (simp only [zz24,zz25];rfl)) ?_
               with_reducible refine (spec_paLess.calls ((rd_T80 l0_1 (ji18)).f0) ((rd_T80 l0_1 (ji18)).f1) ((rd_T80 l0_1 x25_2).f0) ((rd_T80 l0_1 x25_2).f1) false _ A21.out).mono ?_
               rintro e w34 ⟨rfl,hb⟩
               refine ⟨_,rfl,?_⟩
               have n0_:=zz31 (zz11 (g:=gb106) (o:=.cells #[.int .i64 a0_0,.slice (some ad108) l0_1.length c0_1] 30 (0,0)) (by (with_reducible repeat (first | refine zz6 ?_ _ | refine zz7 ?_ | refine zz8 ?_ _));exact BK106.out) hb)
               have n1_:=zz31 (zz11 (g:=gb109) (o:=.cells #[.int .i64 ((rd_T80 l0_1 x25_2).f0),.int .i64 ((rd_T80 l0_1 x25_2).f1)] 80 (0,0)) (by (with_reducible repeat (first | refine zz6 ?_ _ | refine zz7 ?_ | refine zz8 ?_ _));exact BK109.out) hb)
               have n2_:=zz31 (zz4 (by repeat first | exact HB.out | apply zz2 | apply zz0 | apply zz1 | refine zz3 ?_ GE106.out | refine zz3 ?_ GE109.out) hb)
               clear BK106
               clear BK109
               clear HB
               have BK106:=n0_
               have BK109:=n1_
               have HB:=n2_
               clear n0_ n1_ n2_
               (try clear hb)
               (try clear hb2)
               (try clear hk)
               (try clear hi)
               refine hK.out _ _ ⟨(zz9 BK109.out 0).trans rfl,(zz9 BK109.out 1).trans rfl,(zz9 BK106.out 0).trans rfl,(zz9 BK106.out 1).trans rfl,((HB.out.cell (World.block_lt_of_cell? w _ hw112_0)).trans hw112_0),((HB.out.cell (World.block_lt_of_cell? w _ hw112_1)).trans hw112_1)⟩ (fun hHeld=>?_)
               clear hK K
               refine norm_ (a':=?_) ?_ ?_
               rotate_left
               ·show Act.put _ (some 60) _=_
                simp only [Act.put,zz21,zz22,zz23,i64_w,i32_w]
                rfl
               refine pure_ (i:=31) (N:=some 61) (v:=?_) (a':=?_) #[T,T,T,T,T,T,T,T,T,T,T,T,T,T,T,T,T,T,T,T,T,T,T,T,T,T,T,T,T,T,T,T,F,F] rfl rfl (any_of HT_.out (by kernel_rfl)) (fun _ _ _ h=>h) (Or.inl ⟨by rfl,?_⟩) ?_ ?_
               rotate_left
               ·intro w'
                go_simp
                with_reducible rfl
               rotate_left
               ·simp only [Act.put,zz21,zz22,zz23,i64_w,i32_w]
                rfl
               refine pure_ (i:=32) (N:=some 62) (v:=?_) (a':=?_) #[T,T,T,T,T,T,T,T,T,T,T,T,T,T,T,T,T,T,T,T,T,T,T,T,T,T,T,T,T,T,T,T,T,F] rfl rfl (any_of HT_.out (by kernel_rfl)) (fun _ _ _ h=>h) (Or.inl ⟨by rfl,?_⟩) ?_ ?_
               rotate_left
               ·intro w'
                go_simp
                with_reducible rfl
               rotate_left
               ·simp only [Act.put,zz21,zz22,zz23,i64_w,i32_w]
                rfl
               refine pure_ (i:=33) (N:=some 63) (v:=?_) (a':=?_) #[T,T,T,T,T,T,T,T,T,T,T,T,T,T,T,T,T,T,T,T,T,T,T,T,T,T,T,T,T,T,T,T,T,T] rfl rfl (any_of HT_.out (by kernel_rfl)) (fun _ _ _ h=>h) (Or.inl ⟨by rfl,?_⟩) ?_ ?_
               rotate_left
               ·intro w'
                go_simp
                with_reducible rfl
               rotate_left
               ·simp only [Act.put,zz21,zz22,zz23,i64_w,i32_w]
                rfl
               refine done_ (done_of HT_.out (by kernel_rfl)) ?_
               try go_wp2
               go_ret
               exact ⟨by first | rfl | (simp [errW_none,errW_some] <;> rfl) | (simp only [← hji18];first | rfl | (simp [errW_none,errW_some] <;> rfl)) | (simp [*,errW_none,errW_some] <;> rfl),by repeat first | exact HB.out | apply zz2 | apply zz0 | apply zz1 | refine zz3 ?_ GE106.out | refine zz3 ?_ GE109.out⟩
             ·rw [if_neg c20] at H
              exact absurd H (by simp)
            ·rw [if_neg c19] at H
             exact absurd H (by simp)
           ·rw [if_neg c17] at H
            have c17b0:decide (0 < x25_2)=false:=decide_eq_false c17
            clear c17
            have H':=zz31 H
            clear H
            have p108:0≤(x25_2:Int):=zz29 (by first | (with_reducible assumption) | assumption)
            have q108:x25_2 < (l0_1.length:Int):=zz29 (by first | (with_reducible assumption) | assumption)
            obtain ⟨ad108,e108,hx108_0,hx108_1⟩:=at_T80 HR0_1.out x25_2 p108 q108
            cases e108
            try replace hx108_0:=(HB.out.cell (World.block_lt_of_cell? w _ hx108_0)).trans hx108_0
            try replace hx108_1:=(HB.out.cell (World.block_lt_of_cell? w _ hx108_1)).trans hx108_1
            replace p108:=eq_true p108
            replace q108:=eq_true q108
            try go_wp2_with (first | ((with_reducible refine gate_dst (N:=4) rfl ?_);(try (refine gate_guard (by rfl) ?_;dsimp only));refine box_event ?hg (N:=4) ?hd (cs:=#[.int .i64 0,.int .i64 0]) (t:=80) ?hr ?_;(case hd=>rfl);(case hg=>rfl);(case hr=>first | (go_simp;done) | (go_simp;rfl));intro gb109 hg w35 hbox hb;have n0_:=zz31 (zz11 (g:=gb106) (o:=.cells #[.int .i64 a0_0,.slice (some ad108) l0_1.length c0_1] 30 (0,0)) (by (with_reducible repeat (first | refine zz6 ?_ _ | refine zz7 ?_ | refine zz8 ?_ _));exact BK106.out) hb);have n1_:=zz31 (zz4 (by repeat first | exact HB.out | apply zz2 | apply zz0 | apply zz1 | refine zz3 ?_ GE106.out) hb);have n2_:=zz31 (hbox);have n3_:=zz31 ((by rw [hg];exact (zz5 (by repeat first | exact HB.out | apply zz2 | apply zz0 | apply zz1 | refine zz3 ?_ GE106.out)):w.heap.size≤gb109));have n4_:=zz31 ((by rw [hg];exact (zz5 (by repeat first | exact HB.out | apply zz2 | apply zz0 | apply zz1 | refine zz3 ?_ GE106.out)):w.heap.size≤gb109));have n5_:=zz31 ((by rw [hg];exact Nat.ne_of_lt (blk_lt (g:=gb106) (o:=.cells #[.int .i64 a0_0,.slice (some ad108) l0_1.length c0_1] 30 (0,0)) (by (with_reducible repeat (first | refine zz6 ?_ _ | refine zz7 ?_ | refine zz8 ?_ _));exact BK106.out)):gb106 ≠ gb109));have n6_:=zz31 ((by rw [hg];exact Nat.ne_of_gt (blk_lt (g:=gb106) (o:=.cells #[.int .i64 a0_0,.slice (some ad108) l0_1.length c0_1] 30 (0,0)) (by (with_reducible repeat (first | refine zz6 ?_ _ | refine zz7 ?_ | refine zz8 ?_ _));exact BK106.out)):gb109 ≠ gb106));clear BK106;clear HB;have BK106:=n0_;have HB:=n1_;have BK109:=n2_;have GW109:=n3_;have GE109:=n4_;have NB106_109:=n5_;have NB109_106:=n6_;clear n0_ n1_ n2_ n3_ n4_ n5_ n6_;clear hb hbox hg;have hnb36:=NB109_106.out;have hnc36:=NB106_109.out;have hcz37_0:w35.cell? ⟨gb109,0,none⟩=some (.int .i64 0):=(zz9 BK109.out 0).trans rfl;have hcz37_1:w35.cell? ⟨gb109,1,none⟩=some (.int .i64 0):=(zz9 BK109.out 1).trans rfl;have hfz37_0:=zz10 BK109.out 0;have hfz37_1:=zz10 BK109.out 1))
            have n0_:Aside0 (((w35.setCell ⟨gb109,0,none⟩ (.int .i64 ((rd_T80 l0_1 x25_2).f0))).setCell ⟨gb109,1,none⟩ (.int .i64 ((rd_T80 l0_1 x25_2).f1))).heap[gb106]?=some (.cells #[.int .i64 a0_0,.slice (some ad108) l0_1.length c0_1] 30 (0,0))):=⟨by (with_reducible repeat (first | refine zz6 ?_ _ | refine zz7 ?_ | refine zz8 ?_ _));refine blk_far ?_ NB106_109.out _;(with_reducible repeat (first | refine zz6 ?_ _ | refine zz7 ?_ | refine zz8 ?_ _));refine blk_far ?_ NB106_109.out _;(with_reducible repeat (first | refine zz6 ?_ _ | refine zz7 ?_ | refine zz8 ?_ _));exact BK106.out⟩
            have n1_:Aside0 (((w35.setCell ⟨gb109,0,none⟩ (.int .i64 ((rd_T80 l0_1 x25_2).f0))).setCell ⟨gb109,1,none⟩ (.int .i64 ((rd_T80 l0_1 x25_2).f1))).heap[gb109]?=some (.cells #[.int .i64 ((rd_T80 l0_1 x25_2).f0),.int .i64 ((rd_T80 l0_1 x25_2).f1)] 80 (0,0))):=⟨by (with_reducible repeat (first | refine zz6 ?_ _ | refine zz7 ?_ | refine zz8 ?_ _));refine blk_put (cs:=#[.int .i64 ((rd_T80 l0_1 x25_2).f0),.int .i64 0]) ?_ 1 _ rfl;(with_reducible repeat (first | refine zz6 ?_ _ | refine zz7 ?_ | refine zz8 ?_ _));refine blk_put (cs:=#[.int .i64 0,.int .i64 0]) ?_ 0 _ rfl;(with_reducible repeat (first | refine zz6 ?_ _ | refine zz7 ?_ | refine zz8 ?_ _));exact BK109.out⟩
            have n2_:Aside0 (Below w.heap.size w ((w35.setCell ⟨gb109,0,none⟩ (.int .i64 ((rd_T80 l0_1 x25_2).f0))).setCell ⟨gb109,1,none⟩ (.int .i64 ((rd_T80 l0_1 x25_2).f1)))):=⟨by repeat first | exact HB.out | apply zz2 | apply zz0 | apply zz1 | refine zz3 ?_ GE106.out | refine zz3 ?_ GE109.out⟩
            (try clear BK106)
            (try clear BK109)
            (try clear HB)
            generalize ((w35.setCell ⟨gb109,0,none⟩ (.int .i64 ((rd_T80 l0_1 x25_2).f0))).setCell ⟨gb109,1,none⟩ (.int .i64 ((rd_T80 l0_1 x25_2).f1)))=w38 at n0_ n1_ n2_ ⊢
            have BK106:=n0_
            have BK109:=n1_
            have HB:=n2_
            clear n0_ n1_ n2_
            have n0_:=zz31 (zz7 BK106.out)
            have n1_:=zz31 (zz7 BK109.out)
            have n2_:=zz31 (zz1 HB.out)
            clear BK106
            clear BK109
            clear HB
            have BK106:=n0_
            have BK109:=n1_
            have HB:=n2_
            clear n0_ n1_ n2_
            refine start_ (n:=34) (S:=fun w'=>w'.cell? ⟨gb109,0,none⟩=some (.int .i64 ((rd_T80 l0_1 x25_2).f0))∧w'.cell? ⟨gb109,1,none⟩=some (.int .i64 ((rd_T80 l0_1 x25_2).f1))∧w'.cell? ⟨gb106,0,none⟩=some (.int .i64 a0_0)∧w'.cell? ⟨gb106,1,none⟩=some (.slice (some ad108) l0_1.length c0_1)) (ds:=[]) #[F,F,F,F,F,F,F,F,F,F,F,F,F,F,F,F,F,F,F,F,F,F,F,F,F,F,F,F,F,F,F,F,F,F] (by kernel_rfl) rfl rfl ⟨(zz9 BK109.out 0).trans rfl,(zz9 BK109.out 1).trans rfl,(zz9 BK106.out 0).trans rfl,(zz9 BK106.out 1).trans rfl⟩ (fun hHeld=>?_);refine with_tabW spec_paGood.tab6 spec_paGood.bits6 (fun HT_ HW_=>?_)
            generalize w38.drew=w39 at BK106 BK109 HB hHeld ⊢
            refine pure_ (i:=0) (N:=some 30) (v:=?_) (a':=?_) #[T,F,F,F,F,F,F,F,F,F,F,F,F,F,F,F,F,F,F,F,F,F,F,F,F,F,F,F,F,F,F,F,F,F] rfl rfl (any_of HT_.out (by kernel_rfl)) (fun _ _ _ h=>h) (Or.inl ⟨by rfl,?_⟩) ?_ ?_
            rotate_left
            ·intro w'
             go_simp
             with_reducible rfl
            rotate_left
            ·simp only [Act.put,zz21,zz22,zz23,i64_w,i32_w]
             rfl
            refine pure_ (i:=2) (N:=some 32) (v:=?_) (a':=?_) #[T,F,T,F,F,F,F,F,F,F,F,F,F,F,F,F,F,F,F,F,F,F,F,F,F,F,F,F,F,F,F,F,F,F] rfl rfl (any_of HT_.out (by kernel_rfl)) (fun _ _ _ h=>h) (Or.inl ⟨by rfl,?_⟩) ?_ ?_
            rotate_left
            ·intro w'
             go_simp
             with_reducible rfl
            rotate_left
            ·simp only [Act.put,zz21,zz22,zz23,i64_w,i32_w]
             rfl
            refine take_ (i:=1) (N:=some 31) (v:=?_) (a':=?_) #[T,T,T,F,F,F,F,F,F,F,F,F,F,F,F,F,F,F,F,F,F,F,F,F,F,F,F,F,F,F,F,F,F,F] rfl rfl (take_ofW HT_.out HW_.out (by kernel_rfl)) (fun _ _ _ h=>h) (Or.inl ⟨by rfl,?_⟩) hHeld ?_ ?_
            rotate_left
            ·rintro w' ⟨s0,s1,s2,s3⟩
             go_simp
             with_reducible rfl
            rotate_left
            ·simp only [Act.put,zz21,zz22,zz23,i64_w,i32_w]
             rfl
            refine take_ (i:=3) (N:=some 33) (v:=?_) (a':=?_) #[T,T,T,T,F,F,F,F,F,F,F,F,F,F,F,F,F,F,F,F,F,F,F,F,F,F,F,F,F,F,F,F,F,F] rfl rfl (take_ofW HT_.out HW_.out (by kernel_rfl)) (fun _ _ _ h=>h) (Or.inl ⟨by rfl,?_⟩) hHeld ?_ ?_
            rotate_left
            ·rintro w' ⟨s0,s1,s2,s3⟩
             go_simp
             with_reducible rfl
            rotate_left
            ·simp only [Act.put,zz21,zz22,zz23,i64_w,i32_w]
             rfl
            refine pure_ (i:=4) (N:=some 34) (v:=?_) (a':=?_) #[T,T,T,T,T,F,F,F,F,F,F,F,F,F,F,F,F,F,F,F,F,F,F,F,F,F,F,F,F,F,F,F,F,F] rfl rfl (any_of HT_.out (by kernel_rfl)) (fun _ _ _ h=>h) (Or.inl ⟨by rfl,?_⟩) ?_ ?_
            rotate_left
            ·intro w'
             go_simp
             with_reducible rfl
            rotate_left
            ·simp only [Act.put,zz21,zz22,zz23,i64_w,i32_w]
             rfl
            refine one_ (i:=5) (N:=some 35) #[T,T,T,T,T,T,F,F,F,F,F,F,F,F,F,F,F,F,F,F,F,F,F,F,F,F,F,F,F,F,F,F,F,F] rfl rfl (one_of HT_.out (by kernel_rfl)) (by decide) (fun K hK=>?_)
            refine goes_ Try.func78 (by kernel_rfl) rfl #[.int .i64 ((rd_T80 l0_1 x25_2).f0),.int .i64 0,.int .i64 (wrap64 (a0_0 - 1))] (by rfl) rfl rfl (by (try simp only [zz26,zz27,zz28]);first | done | rfl | (simp only [zz24,zz25];rfl)) ?_
            with_reducible refine (spec_l1In.calls ((rd_T80 l0_1 x25_2).f0) 0 (wrap64 (a0_0 - 1)) true _ A13.out).mono ?_
            rintro e w' ⟨rfl,⟨nd,rfl⟩⟩
            refine ⟨_,rfl,?_⟩
            refine hK.out _ _ ⟨(zz9 BK109.out 0).trans rfl,(zz9 BK109.out 1).trans rfl,(zz9 BK106.out 0).trans rfl,(zz9 BK106.out 1).trans rfl⟩ (fun hHeld=>?_)
            clear hK K
            refine norm_ (a':=?_) ?_ ?_
            rotate_left
            ·show Act.put _ (some 35) _=_
             simp only [Act.put,zz21,zz22,zz23,i64_w,i32_w]
             rfl
            refine pure_ (i:=6) (N:=some 36) (v:=?_) (a':=?_) #[T,T,T,T,T,T,T,F,F,F,F,F,F,F,F,F,F,F,F,F,F,F,F,F,F,F,F,F,F,F,F,F,F,F] rfl rfl (any_of HT_.out (by kernel_rfl)) (fun _ _ _ h=>h) (Or.inl ⟨by rfl,?_⟩) ?_ ?_
            rotate_left
            ·intro w'
             go_simp
             with_reducible rfl
            rotate_left
            ·simp only [Act.put,zz21,zz22,zz23,i64_w,i32_w]
             rfl
            refine pure_ (i:=7) (N:=some 37) (v:=?_) (a':=?_) #[T,T,T,T,T,T,T,T,F,F,F,F,F,F,F,F,F,F,F,F,F,F,F,F,F,F,F,F,F,F,F,F,F,F] rfl rfl (any_of HT_.out (by kernel_rfl)) (fun _ _ _ h=>h) (Or.inl ⟨by rfl,?_⟩) ?_ ?_
            rotate_left
            ·intro w'
             go_simp
             with_reducible rfl
            rotate_left
            ·simp only [Act.put,zz21,zz22,zz23,i64_w,i32_w]
             rfl
            refine pure_ (i:=8) (N:=some 38) (v:=?_) (a':=?_) #[T,T,T,T,T,T,T,T,T,F,F,F,F,F,F,F,F,F,F,F,F,F,F,F,F,F,F,F,F,F,F,F,F,F] rfl rfl (any_of HT_.out (by kernel_rfl)) (fun _ _ _ h=>h) (Or.inl ⟨by rfl,?_⟩) ?_ ?_
            rotate_left
            ·intro w'
             go_simp
             with_reducible rfl
            rotate_left
            ·simp only [Act.put,zz21,zz22,zz23,i64_w,i32_w]
             rfl
            refine pure_ (i:=10) (N:=some 40) (v:=?_) (a':=?_) #[T,T,T,T,T,T,T,T,T,F,T,F,F,F,F,F,F,F,F,F,F,F,F,F,F,F,F,F,F,F,F,F,F,F] rfl rfl (any_of HT_.out (by kernel_rfl)) (fun _ _ _ h=>h) (Or.inl ⟨by rfl,?_⟩) ?_ ?_
            rotate_left
            ·intro w'
             go_simp
             with_reducible rfl
            rotate_left
            ·simp only [Act.put,zz21,zz22,zz23,i64_w,i32_w]
             rfl
            refine pure_ (i:=13) (N:=some 43) (v:=?_) (a':=?_) #[T,T,T,T,T,T,T,T,T,F,T,F,F,T,F,F,F,F,F,F,F,F,F,F,F,F,F,F,F,F,F,F,F,F] rfl rfl (any_of HT_.out (by kernel_rfl)) (fun _ _ _ h=>h) (Or.inl ⟨by rfl,?_⟩) ?_ ?_
            rotate_left
            ·intro w'
             go_simp
             with_reducible rfl
            rotate_left
            ·simp only [Act.put,zz21,zz22,zz23,i64_w,i32_w]
             rfl
            refine take_ (i:=9) (N:=some 39) (v:=?_) (a':=?_) #[T,T,T,T,T,T,T,T,T,T,T,F,F,T,F,F,F,F,F,F,F,F,F,F,F,F,F,F,F,F,F,F,F,F] rfl rfl (take_ofW HT_.out HW_.out (by kernel_rfl)) (fun _ _ _ h=>h) (Or.inl ⟨by rfl,?_⟩) hHeld ?_ ?_
            rotate_left
            ·rintro w' ⟨s0,s1,s2,s3⟩
             go_simp
             with_reducible rfl
            rotate_left
            ·simp only [Act.put,zz21,zz22,zz23,i64_w,i32_w]
             rfl
            refine take_ (i:=11) (N:=some 41) (v:=?_) (a':=?_) #[T,T,T,T,T,T,T,T,T,T,T,T,F,T,F,F,F,F,F,F,F,F,F,F,F,F,F,F,F,F,F,F,F,F] rfl rfl (take_ofW HT_.out HW_.out (by kernel_rfl)) (fun _ _ _ h=>h) (Or.inl ⟨by rfl,?_⟩) hHeld ?_ ?_
            rotate_left
            ·rintro w' ⟨s0,s1,s2,s3⟩
             go_simp
             with_reducible rfl
            rotate_left
            ·simp only [Act.put,zz21,zz22,zz23,i64_w,i32_w]
             rfl
            refine pure_ (i:=12) (N:=some 42) (v:=?_) (a':=?_) #[T,T,T,T,T,T,T,T,T,T,T,T,T,T,F,F,F,F,F,F,F,F,F,F,F,F,F,F,F,F,F,F,F,F] rfl rfl (any_of HT_.out (by kernel_rfl)) (fun _ _ _ h=>h) (Or.inl ⟨by rfl,?_⟩) ?_ ?_
            rotate_left
            ·intro w'
             go_simp
             with_reducible rfl
            rotate_left
            ·simp only [Act.put,zz21,zz22,zz23,i64_w,i32_w]
             rfl
            refine take_ (i:=14) (N:=some 44) (v:=?_) (a':=?_) #[T,T,T,T,T,T,T,T,T,T,T,T,T,T,T,F,F,F,F,F,F,F,F,F,F,F,F,F,F,F,F,F,F,F] rfl rfl (take_ofW HT_.out HW_.out (by kernel_rfl)) (fun _ _ _ h=>h) (Or.inl ⟨by rfl,?_⟩) hHeld ?_ ?_
            rotate_left
            ·rintro w' ⟨s0,s1,s2,s3⟩
             go_simp
             with_reducible rfl
            rotate_left
            ·simp only [Act.put,zz21,zz22,zz23,i64_w,i32_w]
             rfl
            refine pure_ (i:=15) (N:=some 45) (v:=?_) (a':=?_) #[T,T,T,T,T,T,T,T,T,T,T,T,T,T,T,T,F,F,F,F,F,F,F,F,F,F,F,F,F,F,F,F,F,F] rfl rfl (any_of HT_.out (by kernel_rfl)) (fun _ _ _ h=>h) (Or.inl ⟨by rfl,?_⟩) ?_ ?_
            rotate_left
            ·intro w'
             go_simp
             with_reducible rfl
            rotate_left
            ·simp only [Act.put,zz21,zz22,zz23,i64_w,i32_w]
             rfl
            refine one_ (i:=16) (N:=some 46) #[T,T,T,T,T,T,T,T,T,T,T,T,T,T,T,T,T,F,F,F,F,F,F,F,F,F,F,F,F,F,F,F,F,F] rfl rfl (one_of HT_.out (by kernel_rfl)) (by decide) (fun K hK=>?_)
            refine goes_ Try.func78 (by kernel_rfl) rfl #[.int .i64 ((rd_T80 l0_1 x25_2).f1),.int .i64 (wrap64 (((rd_T80 l0_1 x25_2).f0)+1)),.int .i64 (wrap64 (a0_0 - 1))] (by rfl) rfl rfl (by (try simp only [zz26,zz27,zz28]);first | done | rfl | (simp only [zz24,zz25];rfl)) ?_
            with_reducible refine (spec_l1In.calls ((rd_T80 l0_1 x25_2).f1) (wrap64 (((rd_T80 l0_1 x25_2).f0)+1)) (wrap64 (a0_0 - 1)) true _ A15.out).mono ?_
            rintro e w' ⟨rfl,⟨nd,rfl⟩⟩
            refine ⟨_,rfl,?_⟩
            refine hK.out _ _ ⟨(zz9 BK109.out 0).trans rfl,(zz9 BK109.out 1).trans rfl,(zz9 BK106.out 0).trans rfl,(zz9 BK106.out 1).trans rfl⟩ (fun hHeld=>?_)
            clear hK K
            refine norm_ (a':=?_) ?_ ?_
            rotate_left
            ·show Act.put _ (some 46) _=_
             simp only [Act.put,zz21,zz22,zz23,i64_w,i32_w]
             rfl
            refine pure_ (i:=17) (N:=some 47) (v:=?_) (a':=?_) #[T,T,T,T,T,T,T,T,T,T,T,T,T,T,T,T,T,T,F,F,F,F,F,F,F,F,F,F,F,F,F,F,F,F] rfl rfl (any_of HT_.out (by kernel_rfl)) (fun _ _ _ h=>h) (Or.inl ⟨by rfl,?_⟩) ?_ ?_
            rotate_left
            ·intro w'
             go_simp
             with_reducible rfl
            rotate_left
            ·simp only [Act.put,zz21,zz22,zz23,i64_w,i32_w]
             rfl
            refine pure_ (i:=18) (N:=some 48) (v:=?_) (a':=?_) #[T,T,T,T,T,T,T,T,T,T,T,T,T,T,T,T,T,T,T,F,F,F,F,F,F,F,F,F,F,F,F,F,F,F] rfl rfl (any_of HT_.out (by kernel_rfl)) (fun _ _ _ h=>h) (Or.inl ⟨by rfl,?_⟩) ?_ ?_
            rotate_left
            ·intro w'
             go_simp
             with_reducible rfl
            rotate_left
            ·simp only [Act.put,zz21,zz22,zz23,i64_w,i32_w]
             rfl
            refine pure_ (i:=19) (N:=some 49) (v:=?_) (a':=?_) #[T,T,T,T,T,T,T,T,T,T,T,T,T,T,T,T,T,T,T,T,F,F,F,F,F,F,F,F,F,F,F,F,F,F] rfl rfl (any_of HT_.out (by kernel_rfl)) (fun _ _ _ h=>h) (Or.inl ⟨by rfl,?_⟩) ?_ ?_
            rotate_left
            ·intro w'
             go_simp
             with_reducible rfl
            rotate_left
            ·simp only [Act.put,zz21,zz22,zz23,i64_w,i32_w]
             rfl
            refine pure_ (i:=20) (N:=some 50) (v:=?_) (a':=?_) #[T,T,T,T,T,T,T,T,T,T,T,T,T,T,T,T,T,T,T,T,T,F,F,F,F,F,F,F,F,F,F,F,F,F] rfl rfl (any_of HT_.out (by kernel_rfl)) (fun _ _ _ h=>h) (Or.inl ⟨by rfl,?_⟩) ?_ ?_
            rotate_left
            ·intro w'
             go_simp
             with_reducible rfl
            rotate_left
            ·simp only [Act.put,zz21,zz22,zz23,i64_w,i32_w]
             rfl
            refine pure_ (i:=21) (N:=some 51) (v:=?_) (a':=?_) #[T,T,T,T,T,T,T,T,T,T,T,T,T,T,T,T,T,T,T,T,T,T,F,F,F,F,F,F,F,F,F,F,F,F] rfl rfl (any_of HT_.out (by kernel_rfl)) (fun _ _ _ h=>h) (Or.inl ⟨by rfl,?_⟩) ?_ ?_
            rotate_left
            ·intro w'
             go_simp
             with_reducible rfl
            rotate_left
            ·simp only [Act.put,zz21,zz22,zz23,i64_w,i32_w]
             rfl
            refine pure_ (i:=22) (N:=some 52) (v:=?_) (a':=?_) #[T,T,T,T,T,T,T,T,T,T,T,T,T,T,T,T,T,T,T,T,T,T,T,F,F,F,F,F,F,F,F,F,F,F] rfl rfl (any_of HT_.out (by kernel_rfl)) (fun _ _ _ h=>h) (Or.inl ⟨by rfl,?_⟩) ?_ ?_
            rotate_left
            ·intro w'
             go_simp
             with_reducible rfl
            rotate_left
            ·simp only [Act.put,zz21,zz22,zz23,i64_w,i32_w]
             rfl
            refine pure_ (i:=23) (N:=some 53) (v:=undef) (a':=?_) #[T,T,T,T,T,T,T,T,T,T,T,T,T,T,T,T,T,T,T,T,T,T,T,T,F,F,F,F,F,F,F,F,F,F] rfl rfl (any_of HT_.out (by kernel_rfl)) (fun _ _ _ h=>h) (Or.inr ⟨by rfl,rfl⟩) ?_ ?_
            rotate_left
            ·simp only [Act.put,zz21,zz22,zz23,i64_w,i32_w]
             rfl
            refine pure_ (i:=24) (N:=some 54) (v:=undef) (a':=?_) #[T,T,T,T,T,T,T,T,T,T,T,T,T,T,T,T,T,T,T,T,T,T,T,T,T,F,F,F,F,F,F,F,F,F] rfl rfl (any_of HT_.out (by kernel_rfl)) (fun _ _ _ h=>h) (Or.inr ⟨by rfl,rfl⟩) ?_ ?_
            rotate_left
            ·simp only [Act.put,zz21,zz22,zz23,i64_w,i32_w]
             rfl
            refine pure_ (i:=25) (N:=some 55) (v:=undef) (a':=?_) #[T,T,T,T,T,T,T,T,T,T,T,T,T,T,T,T,T,T,T,T,T,T,T,T,T,T,F,F,F,F,F,F,F,F] rfl rfl (any_of HT_.out (by kernel_rfl)) (fun _ _ _ h=>h) (Or.inr ⟨by rfl,rfl⟩) ?_ ?_
            rotate_left
            ·simp only [Act.put,zz21,zz22,zz23,i64_w,i32_w]
             rfl
            refine pure_ (i:=26) (N:=some 56) (v:=undef) (a':=?_) #[T,T,T,T,T,T,T,T,T,T,T,T,T,T,T,T,T,T,T,T,T,T,T,T,T,T,T,F,F,F,F,F,F,F] rfl rfl (any_of HT_.out (by kernel_rfl)) (fun _ _ _ h=>h) (Or.inr ⟨by rfl,rfl⟩) ?_ ?_
            rotate_left
            ·simp only [Act.put,zz21,zz22,zz23,i64_w,i32_w]
             rfl
            refine pure_ (i:=27) (N:=some 57) (v:=undef) (a':=?_) #[T,T,T,T,T,T,T,T,T,T,T,T,T,T,T,T,T,T,T,T,T,T,T,T,T,T,T,T,F,F,F,F,F,F] rfl rfl (any_of HT_.out (by kernel_rfl)) (fun _ _ _ h=>h) (Or.inr ⟨by rfl,rfl⟩) ?_ ?_
            rotate_left
            ·simp only [Act.put,zz21,zz22,zz23,i64_w,i32_w]
             rfl
            refine pure_ (i:=28) (N:=some 58) (v:=undef) (a':=?_) #[T,T,T,T,T,T,T,T,T,T,T,T,T,T,T,T,T,T,T,T,T,T,T,T,T,T,T,T,T,F,F,F,F,F] rfl rfl (any_of HT_.out (by kernel_rfl)) (fun _ _ _ h=>h) (Or.inr ⟨by rfl,rfl⟩) ?_ ?_
            rotate_left
            ·simp only [Act.put,zz21,zz22,zz23,i64_w,i32_w]
             rfl
            refine pure_ (i:=29) (N:=some 59) (v:=undef) (a':=?_) #[T,T,T,T,T,T,T,T,T,T,T,T,T,T,T,T,T,T,T,T,T,T,T,T,T,T,T,T,T,T,F,F,F,F] rfl rfl (any_of HT_.out (by kernel_rfl)) (fun _ _ _ h=>h) (Or.inr ⟨by rfl,rfl⟩) ?_ ?_
            rotate_left
            ·simp only [Act.put,zz21,zz22,zz23,i64_w,i32_w]
             rfl
            refine pure_ (i:=30) (N:=some 60) (v:=undef) (a':=?_) #[T,T,T,T,T,T,T,T,T,T,T,T,T,T,T,T,T,T,T,T,T,T,T,T,T,T,T,T,T,T,T,F,F,F] rfl rfl (any_of HT_.out (by kernel_rfl)) (fun _ _ _ h=>h) (Or.inr ⟨by rfl,rfl⟩) ?_ ?_
            rotate_left
            ·simp only [Act.put,zz21,zz22,zz23,i64_w,i32_w]
             rfl
            refine pure_ (i:=31) (N:=some 61) (v:=undef) (a':=?_) #[T,T,T,T,T,T,T,T,T,T,T,T,T,T,T,T,T,T,T,T,T,T,T,T,T,T,T,T,T,T,T,T,F,F] rfl rfl (any_of HT_.out (by kernel_rfl)) (fun _ _ _ h=>h) (Or.inr ⟨by rfl,rfl⟩) ?_ ?_
            rotate_left
            ·simp only [Act.put,zz21,zz22,zz23,i64_w,i32_w]
             rfl
            refine pure_ (i:=32) (N:=some 62) (v:=?_) (a':=?_) #[T,T,T,T,T,T,T,T,T,T,T,T,T,T,T,T,T,T,T,T,T,T,T,T,T,T,T,T,T,T,T,T,T,F] rfl rfl (any_of HT_.out (by kernel_rfl)) (fun _ _ _ h=>h) (Or.inl ⟨by rfl,?_⟩) ?_ ?_
            rotate_left
            ·intro w'
             go_simp
             with_reducible rfl
            rotate_left
            ·simp only [Act.put,zz21,zz22,zz23,i64_w,i32_w]
             rfl
            refine pure_ (i:=33) (N:=some 63) (v:=?_) (a':=?_) #[T,T,T,T,T,T,T,T,T,T,T,T,T,T,T,T,T,T,T,T,T,T,T,T,T,T,T,T,T,T,T,T,T,T] rfl rfl (any_of HT_.out (by kernel_rfl)) (fun _ _ _ h=>h) (Or.inl ⟨by rfl,?_⟩) ?_ ?_
            rotate_left
            ·intro w'
             go_simp
             with_reducible rfl
            rotate_left
            ·simp only [Act.put,zz21,zz22,zz23,i64_w,i32_w]
             rfl
            refine done_ (done_of HT_.out (by kernel_rfl)) ?_
            try go_wp2
            go_roundg k2
            case measure=>have:=HJ1.out;have:=HK2.out;omega
            case rel=>exact ⟨(wrap64 (x25_2+1)),(by first | rfl | (simp;done) | (simp [*];done)),H',⟨by have:=HJ1.out;have:=HK2.out;omega⟩,⟨by (with_reducible repeat (first | refine zz6 ?_ _ | refine zz7 ?_ | refine zz8 ?_ _));exact BK106.out⟩,⟨by repeat first | exact HB.out | apply zz2 | apply zz0 | apply zz1 | refine zz3 ?_ GE106.out | refine zz3 ?_ GE109.out⟩⟩
          ·replace c16:=Bool.eq_false_iff.mpr c16
           subst c16
           have H1:(some false)=some r:=by rw [if_neg (show ¬ (false=true) by decide)] at H;exact H
           clear H
           have H:=H1
           clear H1
           obtain rfl:=Option.some.inj H
           have p108:0≤(x25_2:Int):=zz29 (by first | (with_reducible assumption) | assumption)
           have q108:x25_2 < (l0_1.length:Int):=zz29 (by first | (with_reducible assumption) | assumption)
           obtain ⟨ad108,e108,hx108_0,hx108_1⟩:=at_T80 HR0_1.out x25_2 p108 q108
           cases e108
           try replace hx108_0:=(HB.out.cell (World.block_lt_of_cell? w _ hx108_0)).trans hx108_0
           try replace hx108_1:=(HB.out.cell (World.block_lt_of_cell? w _ hx108_1)).trans hx108_1
           replace p108:=eq_true p108
           replace q108:=eq_true q108
           try go_wp2_with (first | ((with_reducible refine gate_dst (N:=4) rfl ?_);(try (refine gate_guard (by rfl) ?_;dsimp only));refine box_event ?hg (N:=4) ?hd (cs:=#[.int .i64 0,.int .i64 0]) (t:=80) ?hr ?_;(case hd=>rfl);(case hg=>rfl);(case hr=>first | (go_simp;done) | (go_simp;rfl));intro gb109 hg w40 hbox hb;have n0_:=zz31 (zz11 (g:=gb106) (o:=.cells #[.int .i64 a0_0,.slice (some ad108) l0_1.length c0_1] 30 (0,0)) (by (with_reducible repeat (first | refine zz6 ?_ _ | refine zz7 ?_ | refine zz8 ?_ _));exact BK106.out) hb);have n1_:=zz31 (zz4 (by repeat first | exact HB.out | apply zz2 | apply zz0 | apply zz1 | refine zz3 ?_ GE106.out) hb);have n2_:=zz31 (hbox);have n3_:=zz31 ((by rw [hg];exact (zz5 (by repeat first | exact HB.out | apply zz2 | apply zz0 | apply zz1 | refine zz3 ?_ GE106.out)):w.heap.size≤gb109));have n4_:=zz31 ((by rw [hg];exact (zz5 (by repeat first | exact HB.out | apply zz2 | apply zz0 | apply zz1 | refine zz3 ?_ GE106.out)):w.heap.size≤gb109));have n5_:=zz31 ((by rw [hg];exact Nat.ne_of_lt (blk_lt (g:=gb106) (o:=.cells #[.int .i64 a0_0,.slice (some ad108) l0_1.length c0_1] 30 (0,0)) (by (with_reducible repeat (first | refine zz6 ?_ _ | refine zz7 ?_ | refine zz8 ?_ _));exact BK106.out)):gb106 ≠ gb109));have n6_:=zz31 ((by rw [hg];exact Nat.ne_of_gt (blk_lt (g:=gb106) (o:=.cells #[.int .i64 a0_0,.slice (some ad108) l0_1.length c0_1] 30 (0,0)) (by (with_reducible repeat (first | refine zz6 ?_ _ | refine zz7 ?_ | refine zz8 ?_ _));exact BK106.out)):gb109 ≠ gb106));clear BK106;clear HB;have BK106:=n0_;have HB:=n1_;have BK109:=n2_;have GW109:=n3_;have GE109:=n4_;have NB106_109:=n5_;have NB109_106:=n6_;clear n0_ n1_ n2_ n3_ n4_ n5_ n6_;clear hb hbox hg;have hnb41:=NB109_106.out;have hnc41:=NB106_109.out;have hcz42_0:w40.cell? ⟨gb109,0,none⟩=some (.int .i64 0):=(zz9 BK109.out 0).trans rfl;have hcz42_1:w40.cell? ⟨gb109,1,none⟩=some (.int .i64 0):=(zz9 BK109.out 1).trans rfl;have hfz42_0:=zz10 BK109.out 0;have hfz42_1:=zz10 BK109.out 1))
           have n0_:Aside0 (((w40.setCell ⟨gb109,0,none⟩ (.int .i64 ((rd_T80 l0_1 x25_2).f0))).setCell ⟨gb109,1,none⟩ (.int .i64 ((rd_T80 l0_1 x25_2).f1))).heap[gb106]?=some (.cells #[.int .i64 a0_0,.slice (some ad108) l0_1.length c0_1] 30 (0,0))):=⟨by (with_reducible repeat (first | refine zz6 ?_ _ | refine zz7 ?_ | refine zz8 ?_ _));refine blk_far ?_ NB106_109.out _;(with_reducible repeat (first | refine zz6 ?_ _ | refine zz7 ?_ | refine zz8 ?_ _));refine blk_far ?_ NB106_109.out _;(with_reducible repeat (first | refine zz6 ?_ _ | refine zz7 ?_ | refine zz8 ?_ _));exact BK106.out⟩
           have n1_:Aside0 (((w40.setCell ⟨gb109,0,none⟩ (.int .i64 ((rd_T80 l0_1 x25_2).f0))).setCell ⟨gb109,1,none⟩ (.int .i64 ((rd_T80 l0_1 x25_2).f1))).heap[gb109]?=some (.cells #[.int .i64 ((rd_T80 l0_1 x25_2).f0),.int .i64 ((rd_T80 l0_1 x25_2).f1)] 80 (0,0))):=⟨by (with_reducible repeat (first | refine zz6 ?_ _ | refine zz7 ?_ | refine zz8 ?_ _));refine blk_put (cs:=#[.int .i64 ((rd_T80 l0_1 x25_2).f0),.int .i64 0]) ?_ 1 _ rfl;(with_reducible repeat (first | refine zz6 ?_ _ | refine zz7 ?_ | refine zz8 ?_ _));refine blk_put (cs:=#[.int .i64 0,.int .i64 0]) ?_ 0 _ rfl;(with_reducible repeat (first | refine zz6 ?_ _ | refine zz7 ?_ | refine zz8 ?_ _));exact BK109.out⟩
           have n2_:Aside0 (Below w.heap.size w ((w40.setCell ⟨gb109,0,none⟩ (.int .i64 ((rd_T80 l0_1 x25_2).f0))).setCell ⟨gb109,1,none⟩ (.int .i64 ((rd_T80 l0_1 x25_2).f1)))):=⟨by repeat first | exact HB.out | apply zz2 | apply zz0 | apply zz1 | refine zz3 ?_ GE106.out | refine zz3 ?_ GE109.out⟩
           (try clear BK106)
           (try clear BK109)
           (try clear HB)
           generalize ((w40.setCell ⟨gb109,0,none⟩ (.int .i64 ((rd_T80 l0_1 x25_2).f0))).setCell ⟨gb109,1,none⟩ (.int .i64 ((rd_T80 l0_1 x25_2).f1)))=w43 at n0_ n1_ n2_ ⊢
           have BK106:=n0_
           have BK109:=n1_
           have HB:=n2_
           clear n0_ n1_ n2_
           have n0_:=zz31 (zz7 BK106.out)
           have n1_:=zz31 (zz7 BK109.out)
           have n2_:=zz31 (zz1 HB.out)
           clear BK106
           clear BK109
           clear HB
           have BK106:=n0_
           have BK109:=n1_
           have HB:=n2_
           clear n0_ n1_ n2_
           refine start_ (n:=34) (S:=fun w'=>w'.cell? ⟨gb109,0,none⟩=some (.int .i64 ((rd_T80 l0_1 x25_2).f0))∧w'.cell? ⟨gb109,1,none⟩=some (.int .i64 ((rd_T80 l0_1 x25_2).f1))∧w'.cell? ⟨gb106,0,none⟩=some (.int .i64 a0_0)∧w'.cell? ⟨gb106,1,none⟩=some (.slice (some ad108) l0_1.length c0_1)) (ds:=[]) #[F,F,F,F,F,F,F,F,F,F,F,F,F,F,F,F,F,F,F,F,F,F,F,F,F,F,F,F,F,F,F,F,F,F] (by kernel_rfl) rfl rfl ⟨(zz9 BK109.out 0).trans rfl,(zz9 BK109.out 1).trans rfl,(zz9 BK106.out 0).trans rfl,(zz9 BK106.out 1).trans rfl⟩ (fun hHeld=>?_);refine with_tabW spec_paGood.tab6 spec_paGood.bits6 (fun HT_ HW_=>?_)
           generalize w43.drew=w44 at BK106 BK109 HB hHeld ⊢
           refine pure_ (i:=0) (N:=some 30) (v:=?_) (a':=?_) #[T,F,F,F,F,F,F,F,F,F,F,F,F,F,F,F,F,F,F,F,F,F,F,F,F,F,F,F,F,F,F,F,F,F] rfl rfl (any_of HT_.out (by kernel_rfl)) (fun _ _ _ h=>h) (Or.inl ⟨by rfl,?_⟩) ?_ ?_
           rotate_left
           ·intro w'
            go_simp
            with_reducible rfl
           rotate_left
           ·simp only [Act.put,zz21,zz22,zz23,i64_w,i32_w]
            rfl
           refine pure_ (i:=2) (N:=some 32) (v:=?_) (a':=?_) #[T,F,T,F,F,F,F,F,F,F,F,F,F,F,F,F,F,F,F,F,F,F,F,F,F,F,F,F,F,F,F,F,F,F] rfl rfl (any_of HT_.out (by kernel_rfl)) (fun _ _ _ h=>h) (Or.inl ⟨by rfl,?_⟩) ?_ ?_
           rotate_left
           ·intro w'
            go_simp
            with_reducible rfl
           rotate_left
           ·simp only [Act.put,zz21,zz22,zz23,i64_w,i32_w]
            rfl
           refine take_ (i:=1) (N:=some 31) (v:=?_) (a':=?_) #[T,T,T,F,F,F,F,F,F,F,F,F,F,F,F,F,F,F,F,F,F,F,F,F,F,F,F,F,F,F,F,F,F,F] rfl rfl (take_ofW HT_.out HW_.out (by kernel_rfl)) (fun _ _ _ h=>h) (Or.inl ⟨by rfl,?_⟩) hHeld ?_ ?_
           rotate_left
           ·rintro w' ⟨s0,s1,s2,s3⟩
            go_simp
            with_reducible rfl
           rotate_left
           ·simp only [Act.put,zz21,zz22,zz23,i64_w,i32_w]
            rfl
           refine take_ (i:=3) (N:=some 33) (v:=?_) (a':=?_) #[T,T,T,T,F,F,F,F,F,F,F,F,F,F,F,F,F,F,F,F,F,F,F,F,F,F,F,F,F,F,F,F,F,F] rfl rfl (take_ofW HT_.out HW_.out (by kernel_rfl)) (fun _ _ _ h=>h) (Or.inl ⟨by rfl,?_⟩) hHeld ?_ ?_
           rotate_left
           ·rintro w' ⟨s0,s1,s2,s3⟩
            go_simp
            with_reducible rfl
           rotate_left
           ·simp only [Act.put,zz21,zz22,zz23,i64_w,i32_w]
            rfl
           refine pure_ (i:=4) (N:=some 34) (v:=?_) (a':=?_) #[T,T,T,T,T,F,F,F,F,F,F,F,F,F,F,F,F,F,F,F,F,F,F,F,F,F,F,F,F,F,F,F,F,F] rfl rfl (any_of HT_.out (by kernel_rfl)) (fun _ _ _ h=>h) (Or.inl ⟨by rfl,?_⟩) ?_ ?_
           rotate_left
           ·intro w'
            go_simp
            with_reducible rfl
           rotate_left
           ·simp only [Act.put,zz21,zz22,zz23,i64_w,i32_w]
            rfl
           refine one_ (i:=5) (N:=some 35) #[T,T,T,T,T,T,F,F,F,F,F,F,F,F,F,F,F,F,F,F,F,F,F,F,F,F,F,F,F,F,F,F,F,F] rfl rfl (one_of HT_.out (by kernel_rfl)) (by decide) (fun K hK=>?_)
           refine goes_ Try.func78 (by kernel_rfl) rfl #[.int .i64 ((rd_T80 l0_1 x25_2).f0),.int .i64 0,.int .i64 (wrap64 (a0_0 - 1))] (by rfl) rfl rfl (by (try simp only [zz26,zz27,zz28]);first | done | rfl | (simp only [zz24,zz25];rfl)) ?_
           with_reducible refine (spec_l1In.calls ((rd_T80 l0_1 x25_2).f0) 0 (wrap64 (a0_0 - 1)) true _ A13.out).mono ?_
           rintro e w' ⟨rfl,⟨nd,rfl⟩⟩
           refine ⟨_,rfl,?_⟩
           refine hK.out _ _ ⟨(zz9 BK109.out 0).trans rfl,(zz9 BK109.out 1).trans rfl,(zz9 BK106.out 0).trans rfl,(zz9 BK106.out 1).trans rfl⟩ (fun hHeld=>?_)
           clear hK K
           refine norm_ (a':=?_) ?_ ?_
           rotate_left
           ·show Act.put _ (some 35) _=_
            simp only [Act.put,zz21,zz22,zz23,i64_w,i32_w]
            rfl
           refine pure_ (i:=6) (N:=some 36) (v:=?_) (a':=?_) #[T,T,T,T,T,T,T,F,F,F,F,F,F,F,F,F,F,F,F,F,F,F,F,F,F,F,F,F,F,F,F,F,F,F] rfl rfl (any_of HT_.out (by kernel_rfl)) (fun _ _ _ h=>h) (Or.inl ⟨by rfl,?_⟩) ?_ ?_
           rotate_left
           ·intro w'
            go_simp
            with_reducible rfl
           rotate_left
           ·simp only [Act.put,zz21,zz22,zz23,i64_w,i32_w]
            rfl
           refine pure_ (i:=7) (N:=some 37) (v:=?_) (a':=?_) #[T,T,T,T,T,T,T,T,F,F,F,F,F,F,F,F,F,F,F,F,F,F,F,F,F,F,F,F,F,F,F,F,F,F] rfl rfl (any_of HT_.out (by kernel_rfl)) (fun _ _ _ h=>h) (Or.inl ⟨by rfl,?_⟩) ?_ ?_
           rotate_left
           ·intro w'
            go_simp
            with_reducible rfl
           rotate_left
           ·simp only [Act.put,zz21,zz22,zz23,i64_w,i32_w]
            rfl
           refine pure_ (i:=8) (N:=some 38) (v:=?_) (a':=?_) #[T,T,T,T,T,T,T,T,T,F,F,F,F,F,F,F,F,F,F,F,F,F,F,F,F,F,F,F,F,F,F,F,F,F] rfl rfl (any_of HT_.out (by kernel_rfl)) (fun _ _ _ h=>h) (Or.inl ⟨by rfl,?_⟩) ?_ ?_
           rotate_left
           ·intro w'
            go_simp
            with_reducible rfl
           rotate_left
           ·simp only [Act.put,zz21,zz22,zz23,i64_w,i32_w]
            rfl
           refine pure_ (i:=10) (N:=some 40) (v:=?_) (a':=?_) #[T,T,T,T,T,T,T,T,T,F,T,F,F,F,F,F,F,F,F,F,F,F,F,F,F,F,F,F,F,F,F,F,F,F] rfl rfl (any_of HT_.out (by kernel_rfl)) (fun _ _ _ h=>h) (Or.inl ⟨by rfl,?_⟩) ?_ ?_
           rotate_left
           ·intro w'
            go_simp
            with_reducible rfl
           rotate_left
           ·simp only [Act.put,zz21,zz22,zz23,i64_w,i32_w]
            rfl
           refine pure_ (i:=13) (N:=some 43) (v:=?_) (a':=?_) #[T,T,T,T,T,T,T,T,T,F,T,F,F,T,F,F,F,F,F,F,F,F,F,F,F,F,F,F,F,F,F,F,F,F] rfl rfl (any_of HT_.out (by kernel_rfl)) (fun _ _ _ h=>h) (Or.inl ⟨by rfl,?_⟩) ?_ ?_
           rotate_left
           ·intro w'
            go_simp
            with_reducible rfl
           rotate_left
           ·simp only [Act.put,zz21,zz22,zz23,i64_w,i32_w]
            rfl
           refine take_ (i:=9) (N:=some 39) (v:=?_) (a':=?_) #[T,T,T,T,T,T,T,T,T,T,T,F,F,T,F,F,F,F,F,F,F,F,F,F,F,F,F,F,F,F,F,F,F,F] rfl rfl (take_ofW HT_.out HW_.out (by kernel_rfl)) (fun _ _ _ h=>h) (Or.inl ⟨by rfl,?_⟩) hHeld ?_ ?_
           rotate_left
           ·rintro w' ⟨s0,s1,s2,s3⟩
            go_simp
            with_reducible rfl
           rotate_left
           ·simp only [Act.put,zz21,zz22,zz23,i64_w,i32_w]
            rfl
           refine take_ (i:=11) (N:=some 41) (v:=?_) (a':=?_) #[T,T,T,T,T,T,T,T,T,T,T,T,F,T,F,F,F,F,F,F,F,F,F,F,F,F,F,F,F,F,F,F,F,F] rfl rfl (take_ofW HT_.out HW_.out (by kernel_rfl)) (fun _ _ _ h=>h) (Or.inl ⟨by rfl,?_⟩) hHeld ?_ ?_
           rotate_left
           ·rintro w' ⟨s0,s1,s2,s3⟩
            go_simp
            with_reducible rfl
           rotate_left
           ·simp only [Act.put,zz21,zz22,zz23,i64_w,i32_w]
            rfl
           refine pure_ (i:=12) (N:=some 42) (v:=?_) (a':=?_) #[T,T,T,T,T,T,T,T,T,T,T,T,T,T,F,F,F,F,F,F,F,F,F,F,F,F,F,F,F,F,F,F,F,F] rfl rfl (any_of HT_.out (by kernel_rfl)) (fun _ _ _ h=>h) (Or.inl ⟨by rfl,?_⟩) ?_ ?_
           rotate_left
           ·intro w'
            go_simp
            with_reducible rfl
           rotate_left
           ·simp only [Act.put,zz21,zz22,zz23,i64_w,i32_w]
            rfl
           refine take_ (i:=14) (N:=some 44) (v:=?_) (a':=?_) #[T,T,T,T,T,T,T,T,T,T,T,T,T,T,T,F,F,F,F,F,F,F,F,F,F,F,F,F,F,F,F,F,F,F] rfl rfl (take_ofW HT_.out HW_.out (by kernel_rfl)) (fun _ _ _ h=>h) (Or.inl ⟨by rfl,?_⟩) hHeld ?_ ?_
           rotate_left
           ·rintro w' ⟨s0,s1,s2,s3⟩
            go_simp
            with_reducible rfl
           rotate_left
           ·simp only [Act.put,zz21,zz22,zz23,i64_w,i32_w]
            rfl
           refine pure_ (i:=15) (N:=some 45) (v:=?_) (a':=?_) #[T,T,T,T,T,T,T,T,T,T,T,T,T,T,T,T,F,F,F,F,F,F,F,F,F,F,F,F,F,F,F,F,F,F] rfl rfl (any_of HT_.out (by kernel_rfl)) (fun _ _ _ h=>h) (Or.inl ⟨by rfl,?_⟩) ?_ ?_
           rotate_left
           ·intro w'
            go_simp
            with_reducible rfl
           rotate_left
           ·simp only [Act.put,zz21,zz22,zz23,i64_w,i32_w]
            rfl
           refine one_ (i:=16) (N:=some 46) #[T,T,T,T,T,T,T,T,T,T,T,T,T,T,T,T,T,F,F,F,F,F,F,F,F,F,F,F,F,F,F,F,F,F] rfl rfl (one_of HT_.out (by kernel_rfl)) (by decide) (fun K hK=>?_)
           refine goes_ Try.func78 (by kernel_rfl) rfl #[.int .i64 ((rd_T80 l0_1 x25_2).f1),.int .i64 (wrap64 (((rd_T80 l0_1 x25_2).f0)+1)),.int .i64 (wrap64 (a0_0 - 1))] (by rfl) rfl rfl (by (try simp only [zz26,zz27,zz28]);first | done | rfl | (simp only [zz24,zz25];rfl)) ?_
           with_reducible refine (spec_l1In.calls ((rd_T80 l0_1 x25_2).f1) (wrap64 (((rd_T80 l0_1 x25_2).f0)+1)) (wrap64 (a0_0 - 1)) false _ A15.out).mono ?_
           rintro e w' ⟨rfl,⟨nd,rfl⟩⟩
           refine ⟨_,rfl,?_⟩
           refine hK.out _ _ ⟨(zz9 BK109.out 0).trans rfl,(zz9 BK109.out 1).trans rfl,(zz9 BK106.out 0).trans rfl,(zz9 BK106.out 1).trans rfl⟩ (fun hHeld=>?_)
           clear hK K
           refine norm_ (a':=?_) ?_ ?_
           rotate_left
           ·show Act.put _ (some 46) _=_
            simp only [Act.put,zz21,zz22,zz23,i64_w,i32_w]
            rfl
           refine pure_ (i:=17) (N:=some 47) (v:=?_) (a':=?_) #[T,T,T,T,T,T,T,T,T,T,T,T,T,T,T,T,T,T,F,F,F,F,F,F,F,F,F,F,F,F,F,F,F,F] rfl rfl (any_of HT_.out (by kernel_rfl)) (fun _ _ _ h=>h) (Or.inl ⟨by rfl,?_⟩) ?_ ?_
           rotate_left
           ·intro w'
            go_simp
            with_reducible rfl
           rotate_left
           ·simp only [Act.put,zz21,zz22,zz23,i64_w,i32_w]
            rfl
           refine pure_ (i:=18) (N:=some 48) (v:=?_) (a':=?_) #[T,T,T,T,T,T,T,T,T,T,T,T,T,T,T,T,T,T,T,F,F,F,F,F,F,F,F,F,F,F,F,F,F,F] rfl rfl (any_of HT_.out (by kernel_rfl)) (fun _ _ _ h=>h) (Or.inl ⟨by rfl,?_⟩) ?_ ?_
           rotate_left
           ·intro w'
            go_simp
            with_reducible rfl
           rotate_left
           ·simp only [Act.put,zz21,zz22,zz23,i64_w,i32_w]
            rfl
           refine pure_ (i:=19) (N:=some 49) (v:=?_) (a':=?_) #[T,T,T,T,T,T,T,T,T,T,T,T,T,T,T,T,T,T,T,T,F,F,F,F,F,F,F,F,F,F,F,F,F,F] rfl rfl (any_of HT_.out (by kernel_rfl)) (fun _ _ _ h=>h) (Or.inl ⟨by rfl,?_⟩) ?_ ?_
           rotate_left
           ·intro w'
            go_simp
            with_reducible rfl
           rotate_left
           ·simp only [Act.put,zz21,zz22,zz23,i64_w,i32_w]
            rfl
           refine pure_ (i:=20) (N:=some 50) (v:=undef) (a':=?_) #[T,T,T,T,T,T,T,T,T,T,T,T,T,T,T,T,T,T,T,T,T,F,F,F,F,F,F,F,F,F,F,F,F,F] rfl rfl (any_of HT_.out (by kernel_rfl)) (fun _ _ _ h=>h) (Or.inr ⟨by rfl,rfl⟩) ?_ ?_
           rotate_left
           ·simp only [Act.put,zz21,zz22,zz23,i64_w,i32_w]
            rfl
           refine pure_ (i:=21) (N:=some 51) (v:=undef) (a':=?_) #[T,T,T,T,T,T,T,T,T,T,T,T,T,T,T,T,T,T,T,T,T,T,F,F,F,F,F,F,F,F,F,F,F,F] rfl rfl (any_of HT_.out (by kernel_rfl)) (fun _ _ _ h=>h) (Or.inr ⟨by rfl,rfl⟩) ?_ ?_
           rotate_left
           ·simp only [Act.put,zz21,zz22,zz23,i64_w,i32_w]
            rfl
           refine pure_ (i:=22) (N:=some 52) (v:=undef) (a':=?_) #[T,T,T,T,T,T,T,T,T,T,T,T,T,T,T,T,T,T,T,T,T,T,T,F,F,F,F,F,F,F,F,F,F,F] rfl rfl (any_of HT_.out (by kernel_rfl)) (fun _ _ _ h=>h) (Or.inr ⟨by rfl,rfl⟩) ?_ ?_
           rotate_left
           ·simp only [Act.put,zz21,zz22,zz23,i64_w,i32_w]
            rfl
           refine pure_ (i:=23) (N:=some 53) (v:=undef) (a':=?_) #[T,T,T,T,T,T,T,T,T,T,T,T,T,T,T,T,T,T,T,T,T,T,T,T,F,F,F,F,F,F,F,F,F,F] rfl rfl (any_of HT_.out (by kernel_rfl)) (fun _ _ _ h=>h) (Or.inr ⟨by rfl,rfl⟩) ?_ ?_
           rotate_left
           ·simp only [Act.put,zz21,zz22,zz23,i64_w,i32_w]
            rfl
           refine pure_ (i:=24) (N:=some 54) (v:=undef) (a':=?_) #[T,T,T,T,T,T,T,T,T,T,T,T,T,T,T,T,T,T,T,T,T,T,T,T,T,F,F,F,F,F,F,F,F,F] rfl rfl (any_of HT_.out (by kernel_rfl)) (fun _ _ _ h=>h) (Or.inr ⟨by rfl,rfl⟩) ?_ ?_
           rotate_left
           ·simp only [Act.put,zz21,zz22,zz23,i64_w,i32_w]
            rfl
           refine pure_ (i:=25) (N:=some 55) (v:=undef) (a':=?_) #[T,T,T,T,T,T,T,T,T,T,T,T,T,T,T,T,T,T,T,T,T,T,T,T,T,T,F,F,F,F,F,F,F,F] rfl rfl (any_of HT_.out (by kernel_rfl)) (fun _ _ _ h=>h) (Or.inr ⟨by rfl,rfl⟩) ?_ ?_
           rotate_left
           ·simp only [Act.put,zz21,zz22,zz23,i64_w,i32_w]
            rfl
           refine pure_ (i:=26) (N:=some 56) (v:=undef) (a':=?_) #[T,T,T,T,T,T,T,T,T,T,T,T,T,T,T,T,T,T,T,T,T,T,T,T,T,T,T,F,F,F,F,F,F,F] rfl rfl (any_of HT_.out (by kernel_rfl)) (fun _ _ _ h=>h) (Or.inr ⟨by rfl,rfl⟩) ?_ ?_
           rotate_left
           ·simp only [Act.put,zz21,zz22,zz23,i64_w,i32_w]
            rfl
           refine pure_ (i:=27) (N:=some 57) (v:=undef) (a':=?_) #[T,T,T,T,T,T,T,T,T,T,T,T,T,T,T,T,T,T,T,T,T,T,T,T,T,T,T,T,F,F,F,F,F,F] rfl rfl (any_of HT_.out (by kernel_rfl)) (fun _ _ _ h=>h) (Or.inr ⟨by rfl,rfl⟩) ?_ ?_
           rotate_left
           ·simp only [Act.put,zz21,zz22,zz23,i64_w,i32_w]
            rfl
           refine pure_ (i:=28) (N:=some 58) (v:=undef) (a':=?_) #[T,T,T,T,T,T,T,T,T,T,T,T,T,T,T,T,T,T,T,T,T,T,T,T,T,T,T,T,T,F,F,F,F,F] rfl rfl (any_of HT_.out (by kernel_rfl)) (fun _ _ _ h=>h) (Or.inr ⟨by rfl,rfl⟩) ?_ ?_
           rotate_left
           ·simp only [Act.put,zz21,zz22,zz23,i64_w,i32_w]
            rfl
           refine pure_ (i:=29) (N:=some 59) (v:=undef) (a':=?_) #[T,T,T,T,T,T,T,T,T,T,T,T,T,T,T,T,T,T,T,T,T,T,T,T,T,T,T,T,T,T,F,F,F,F] rfl rfl (any_of HT_.out (by kernel_rfl)) (fun _ _ _ h=>h) (Or.inr ⟨by rfl,rfl⟩) ?_ ?_
           rotate_left
           ·simp only [Act.put,zz21,zz22,zz23,i64_w,i32_w]
            rfl
           refine pure_ (i:=30) (N:=some 60) (v:=undef) (a':=?_) #[T,T,T,T,T,T,T,T,T,T,T,T,T,T,T,T,T,T,T,T,T,T,T,T,T,T,T,T,T,T,T,F,F,F] rfl rfl (any_of HT_.out (by kernel_rfl)) (fun _ _ _ h=>h) (Or.inr ⟨by rfl,rfl⟩) ?_ ?_
           rotate_left
           ·simp only [Act.put,zz21,zz22,zz23,i64_w,i32_w]
            rfl
           refine pure_ (i:=31) (N:=some 61) (v:=undef) (a':=?_) #[T,T,T,T,T,T,T,T,T,T,T,T,T,T,T,T,T,T,T,T,T,T,T,T,T,T,T,T,T,T,T,T,F,F] rfl rfl (any_of HT_.out (by kernel_rfl)) (fun _ _ _ h=>h) (Or.inr ⟨by rfl,rfl⟩) ?_ ?_
           rotate_left
           ·simp only [Act.put,zz21,zz22,zz23,i64_w,i32_w]
            rfl
           refine pure_ (i:=32) (N:=some 62) (v:=undef) (a':=?_) #[T,T,T,T,T,T,T,T,T,T,T,T,T,T,T,T,T,T,T,T,T,T,T,T,T,T,T,T,T,T,T,T,T,F] rfl rfl (any_of HT_.out (by kernel_rfl)) (fun _ _ _ h=>h) (Or.inr ⟨by rfl,rfl⟩) ?_ ?_
           rotate_left
           ·simp only [Act.put,zz21,zz22,zz23,i64_w,i32_w]
            rfl
           refine pure_ (i:=33) (N:=some 63) (v:=?_) (a':=?_) #[T,T,T,T,T,T,T,T,T,T,T,T,T,T,T,T,T,T,T,T,T,T,T,T,T,T,T,T,T,T,T,T,T,T] rfl rfl (any_of HT_.out (by kernel_rfl)) (fun _ _ _ h=>h) (Or.inl ⟨by rfl,?_⟩) ?_ ?_
           rotate_left
           ·intro w'
            go_simp
            with_reducible rfl
           rotate_left
           ·simp only [Act.put,zz21,zz22,zz23,i64_w,i32_w]
            rfl
           refine done_ (done_of HT_.out (by kernel_rfl)) ?_
           try go_wp2
           go_ret
           exact ⟨by first | rfl | (simp [errW_none,errW_some] <;> rfl) | (simp [*,errW_none,errW_some] <;> rfl),by repeat first | exact HB.out | apply zz2 | apply zz0 | apply zz1 | refine zz3 ?_ GE106.out | refine zz3 ?_ GE109.out⟩
         ·replace c14:=Bool.eq_false_iff.mpr c14
          subst c14
          have H1:(some false)=some r:=by rw [if_neg (show ¬ (false=true) by decide)] at H;exact H
          clear H
          have H:=H1
          clear H1
          obtain rfl:=Option.some.inj H
          have p108:0≤(x25_2:Int):=zz29 (by first | (with_reducible assumption) | assumption)
          have q108:x25_2 < (l0_1.length:Int):=zz29 (by first | (with_reducible assumption) | assumption)
          obtain ⟨ad108,e108,hx108_0,hx108_1⟩:=at_T80 HR0_1.out x25_2 p108 q108
          cases e108
          try replace hx108_0:=(HB.out.cell (World.block_lt_of_cell? w _ hx108_0)).trans hx108_0
          try replace hx108_1:=(HB.out.cell (World.block_lt_of_cell? w _ hx108_1)).trans hx108_1
          replace p108:=eq_true p108
          replace q108:=eq_true q108
          try go_wp2_with (first | ((with_reducible refine gate_dst (N:=4) rfl ?_);(try (refine gate_guard (by rfl) ?_;dsimp only));refine box_event ?hg (N:=4) ?hd (cs:=#[.int .i64 0,.int .i64 0]) (t:=80) ?hr ?_;(case hd=>rfl);(case hg=>rfl);(case hr=>first | (go_simp;done) | (go_simp;rfl));intro gb109 hg w45 hbox hb;have n0_:=zz31 (zz11 (g:=gb106) (o:=.cells #[.int .i64 a0_0,.slice (some ad108) l0_1.length c0_1] 30 (0,0)) (by (with_reducible repeat (first | refine zz6 ?_ _ | refine zz7 ?_ | refine zz8 ?_ _));exact BK106.out) hb);have n1_:=zz31 (zz4 (by repeat first | exact HB.out | apply zz2 | apply zz0 | apply zz1 | refine zz3 ?_ GE106.out) hb);have n2_:=zz31 (hbox);have n3_:=zz31 ((by rw [hg];exact (zz5 (by repeat first | exact HB.out | apply zz2 | apply zz0 | apply zz1 | refine zz3 ?_ GE106.out)):w.heap.size≤gb109));have n4_:=zz31 ((by rw [hg];exact (zz5 (by repeat first | exact HB.out | apply zz2 | apply zz0 | apply zz1 | refine zz3 ?_ GE106.out)):w.heap.size≤gb109));have n5_:=zz31 ((by rw [hg];exact Nat.ne_of_lt (blk_lt (g:=gb106) (o:=.cells #[.int .i64 a0_0,.slice (some ad108) l0_1.length c0_1] 30 (0,0)) (by (with_reducible repeat (first | refine zz6 ?_ _ | refine zz7 ?_ | refine zz8 ?_ _));exact BK106.out)):gb106 ≠ gb109));have n6_:=zz31 ((by rw [hg];exact Nat.ne_of_gt (blk_lt (g:=gb106) (o:=.cells #[.int .i64 a0_0,.slice (some ad108) l0_1.length c0_1] 30 (0,0)) (by (with_reducible repeat (first | refine zz6 ?_ _ | refine zz7 ?_ | refine zz8 ?_ _));exact BK106.out)):gb109 ≠ gb106));clear BK106;clear HB;have BK106:=n0_;have HB:=n1_;have BK109:=n2_;have GW109:=n3_;have GE109:=n4_;have NB106_109:=n5_;have NB109_106:=n6_;clear n0_ n1_ n2_ n3_ n4_ n5_ n6_;clear hb hbox hg;have hnb46:=NB109_106.out;have hnc46:=NB106_109.out;have hcz47_0:w45.cell? ⟨gb109,0,none⟩=some (.int .i64 0):=(zz9 BK109.out 0).trans rfl;have hcz47_1:w45.cell? ⟨gb109,1,none⟩=some (.int .i64 0):=(zz9 BK109.out 1).trans rfl;have hfz47_0:=zz10 BK109.out 0;have hfz47_1:=zz10 BK109.out 1))
          have n0_:Aside0 (((w45.setCell ⟨gb109,0,none⟩ (.int .i64 ((rd_T80 l0_1 x25_2).f0))).setCell ⟨gb109,1,none⟩ (.int .i64 ((rd_T80 l0_1 x25_2).f1))).heap[gb106]?=some (.cells #[.int .i64 a0_0,.slice (some ad108) l0_1.length c0_1] 30 (0,0))):=⟨by (with_reducible repeat (first | refine zz6 ?_ _ | refine zz7 ?_ | refine zz8 ?_ _));refine blk_far ?_ NB106_109.out _;(with_reducible repeat (first | refine zz6 ?_ _ | refine zz7 ?_ | refine zz8 ?_ _));refine blk_far ?_ NB106_109.out _;(with_reducible repeat (first | refine zz6 ?_ _ | refine zz7 ?_ | refine zz8 ?_ _));exact BK106.out⟩
          have n1_:Aside0 (((w45.setCell ⟨gb109,0,none⟩ (.int .i64 ((rd_T80 l0_1 x25_2).f0))).setCell ⟨gb109,1,none⟩ (.int .i64 ((rd_T80 l0_1 x25_2).f1))).heap[gb109]?=some (.cells #[.int .i64 ((rd_T80 l0_1 x25_2).f0),.int .i64 ((rd_T80 l0_1 x25_2).f1)] 80 (0,0))):=⟨by (with_reducible repeat (first | refine zz6 ?_ _ | refine zz7 ?_ | refine zz8 ?_ _));refine blk_put (cs:=#[.int .i64 ((rd_T80 l0_1 x25_2).f0),.int .i64 0]) ?_ 1 _ rfl;(with_reducible repeat (first | refine zz6 ?_ _ | refine zz7 ?_ | refine zz8 ?_ _));refine blk_put (cs:=#[.int .i64 0,.int .i64 0]) ?_ 0 _ rfl;(with_reducible repeat (first | refine zz6 ?_ _ | refine zz7 ?_ | refine zz8 ?_ _));exact BK109.out⟩
          have n2_:Aside0 (Below w.heap.size w ((w45.setCell ⟨gb109,0,none⟩ (.int .i64 ((rd_T80 l0_1 x25_2).f0))).setCell ⟨gb109,1,none⟩ (.int .i64 ((rd_T80 l0_1 x25_2).f1)))):=⟨by repeat first | exact HB.out | apply zz2 | apply zz0 | apply zz1 | refine zz3 ?_ GE106.out | refine zz3 ?_ GE109.out⟩
          (try clear BK106)
          (try clear BK109)
          (try clear HB)
          generalize ((w45.setCell ⟨gb109,0,none⟩ (.int .i64 ((rd_T80 l0_1 x25_2).f0))).setCell ⟨gb109,1,none⟩ (.int .i64 ((rd_T80 l0_1 x25_2).f1)))=w48 at n0_ n1_ n2_ ⊢
          have BK106:=n0_
          have BK109:=n1_
          have HB:=n2_
          clear n0_ n1_ n2_
          have n0_:=zz31 (zz7 BK106.out)
          have n1_:=zz31 (zz7 BK109.out)
          have n2_:=zz31 (zz1 HB.out)
          clear BK106
          clear BK109
          clear HB
          have BK106:=n0_
          have BK109:=n1_
          have HB:=n2_
          clear n0_ n1_ n2_
          refine start_ (n:=34) (S:=fun w'=>w'.cell? ⟨gb109,0,none⟩=some (.int .i64 ((rd_T80 l0_1 x25_2).f0))∧w'.cell? ⟨gb109,1,none⟩=some (.int .i64 ((rd_T80 l0_1 x25_2).f1))∧w'.cell? ⟨gb106,0,none⟩=some (.int .i64 a0_0)∧w'.cell? ⟨gb106,1,none⟩=some (.slice (some ad108) l0_1.length c0_1)) (ds:=[]) #[F,F,F,F,F,F,F,F,F,F,F,F,F,F,F,F,F,F,F,F,F,F,F,F,F,F,F,F,F,F,F,F,F,F] (by kernel_rfl) rfl rfl ⟨(zz9 BK109.out 0).trans rfl,(zz9 BK109.out 1).trans rfl,(zz9 BK106.out 0).trans rfl,(zz9 BK106.out 1).trans rfl⟩ (fun hHeld=>?_);refine with_tabW spec_paGood.tab6 spec_paGood.bits6 (fun HT_ HW_=>?_)
          generalize w48.drew=w49 at BK106 BK109 HB hHeld ⊢
          refine pure_ (i:=0) (N:=some 30) (v:=?_) (a':=?_) #[T,F,F,F,F,F,F,F,F,F,F,F,F,F,F,F,F,F,F,F,F,F,F,F,F,F,F,F,F,F,F,F,F,F] rfl rfl (any_of HT_.out (by kernel_rfl)) (fun _ _ _ h=>h) (Or.inl ⟨by rfl,?_⟩) ?_ ?_
          rotate_left
          ·intro w'
           go_simp
           with_reducible rfl
          rotate_left
          ·simp only [Act.put,zz21,zz22,zz23,i64_w,i32_w]
           rfl
          refine pure_ (i:=2) (N:=some 32) (v:=?_) (a':=?_) #[T,F,T,F,F,F,F,F,F,F,F,F,F,F,F,F,F,F,F,F,F,F,F,F,F,F,F,F,F,F,F,F,F,F] rfl rfl (any_of HT_.out (by kernel_rfl)) (fun _ _ _ h=>h) (Or.inl ⟨by rfl,?_⟩) ?_ ?_
          rotate_left
          ·intro w'
           go_simp
           with_reducible rfl
          rotate_left
          ·simp only [Act.put,zz21,zz22,zz23,i64_w,i32_w]
           rfl
          refine take_ (i:=1) (N:=some 31) (v:=?_) (a':=?_) #[T,T,T,F,F,F,F,F,F,F,F,F,F,F,F,F,F,F,F,F,F,F,F,F,F,F,F,F,F,F,F,F,F,F] rfl rfl (take_ofW HT_.out HW_.out (by kernel_rfl)) (fun _ _ _ h=>h) (Or.inl ⟨by rfl,?_⟩) hHeld ?_ ?_
          rotate_left
          ·rintro w' ⟨s0,s1,s2,s3⟩
           go_simp
           with_reducible rfl
          rotate_left
          ·simp only [Act.put,zz21,zz22,zz23,i64_w,i32_w]
           rfl
          refine take_ (i:=3) (N:=some 33) (v:=?_) (a':=?_) #[T,T,T,T,F,F,F,F,F,F,F,F,F,F,F,F,F,F,F,F,F,F,F,F,F,F,F,F,F,F,F,F,F,F] rfl rfl (take_ofW HT_.out HW_.out (by kernel_rfl)) (fun _ _ _ h=>h) (Or.inl ⟨by rfl,?_⟩) hHeld ?_ ?_
          rotate_left
          ·rintro w' ⟨s0,s1,s2,s3⟩
           go_simp
           with_reducible rfl
          rotate_left
          ·simp only [Act.put,zz21,zz22,zz23,i64_w,i32_w]
           rfl
          refine pure_ (i:=4) (N:=some 34) (v:=?_) (a':=?_) #[T,T,T,T,T,F,F,F,F,F,F,F,F,F,F,F,F,F,F,F,F,F,F,F,F,F,F,F,F,F,F,F,F,F] rfl rfl (any_of HT_.out (by kernel_rfl)) (fun _ _ _ h=>h) (Or.inl ⟨by rfl,?_⟩) ?_ ?_
          rotate_left
          ·intro w'
           go_simp
           with_reducible rfl
          rotate_left
          ·simp only [Act.put,zz21,zz22,zz23,i64_w,i32_w]
           rfl
          refine one_ (i:=5) (N:=some 35) #[T,T,T,T,T,T,F,F,F,F,F,F,F,F,F,F,F,F,F,F,F,F,F,F,F,F,F,F,F,F,F,F,F,F] rfl rfl (one_of HT_.out (by kernel_rfl)) (by decide) (fun K hK=>?_)
          refine goes_ Try.func78 (by kernel_rfl) rfl #[.int .i64 ((rd_T80 l0_1 x25_2).f0),.int .i64 0,.int .i64 (wrap64 (a0_0 - 1))] (by rfl) rfl rfl (by (try simp only [zz26,zz27,zz28]);first | done | rfl | (simp only [zz24,zz25];rfl)) ?_
          with_reducible refine (spec_l1In.calls ((rd_T80 l0_1 x25_2).f0) 0 (wrap64 (a0_0 - 1)) false _ A13.out).mono ?_
          rintro e w' ⟨rfl,⟨nd,rfl⟩⟩
          refine ⟨_,rfl,?_⟩
          refine hK.out _ _ ⟨(zz9 BK109.out 0).trans rfl,(zz9 BK109.out 1).trans rfl,(zz9 BK106.out 0).trans rfl,(zz9 BK106.out 1).trans rfl⟩ (fun hHeld=>?_)
          clear hK K
          refine norm_ (a':=?_) ?_ ?_
          rotate_left
          ·show Act.put _ (some 35) _=_
           simp only [Act.put,zz21,zz22,zz23,i64_w,i32_w]
           rfl
          refine pure_ (i:=6) (N:=some 36) (v:=?_) (a':=?_) #[T,T,T,T,T,T,T,F,F,F,F,F,F,F,F,F,F,F,F,F,F,F,F,F,F,F,F,F,F,F,F,F,F,F] rfl rfl (any_of HT_.out (by kernel_rfl)) (fun _ _ _ h=>h) (Or.inl ⟨by rfl,?_⟩) ?_ ?_
          rotate_left
          ·intro w'
           go_simp
           with_reducible rfl
          rotate_left
          ·simp only [Act.put,zz21,zz22,zz23,i64_w,i32_w]
           rfl
          refine pure_ (i:=7) (N:=some 37) (v:=?_) (a':=?_) #[T,T,T,T,T,T,T,T,F,F,F,F,F,F,F,F,F,F,F,F,F,F,F,F,F,F,F,F,F,F,F,F,F,F] rfl rfl (any_of HT_.out (by kernel_rfl)) (fun _ _ _ h=>h) (Or.inl ⟨by rfl,?_⟩) ?_ ?_
          rotate_left
          ·intro w'
           go_simp
           with_reducible rfl
          rotate_left
          ·simp only [Act.put,zz21,zz22,zz23,i64_w,i32_w]
           rfl
          refine pure_ (i:=8) (N:=some 38) (v:=undef) (a':=?_) #[T,T,T,T,T,T,T,T,T,F,F,F,F,F,F,F,F,F,F,F,F,F,F,F,F,F,F,F,F,F,F,F,F,F] rfl rfl (any_of HT_.out (by kernel_rfl)) (fun _ _ _ h=>h) (Or.inr ⟨by rfl,rfl⟩) ?_ ?_
          rotate_left
          ·simp only [Act.put,zz21,zz22,zz23,i64_w,i32_w]
           rfl
          refine pure_ (i:=9) (N:=some 39) (v:=undef) (a':=?_) #[T,T,T,T,T,T,T,T,T,T,F,F,F,F,F,F,F,F,F,F,F,F,F,F,F,F,F,F,F,F,F,F,F,F] rfl rfl (any_of HT_.out (by kernel_rfl)) (fun _ _ _ h=>h) (Or.inr ⟨by rfl,rfl⟩) ?_ ?_
          rotate_left
          ·simp only [Act.put,zz21,zz22,zz23,i64_w,i32_w]
           rfl
          refine pure_ (i:=10) (N:=some 40) (v:=undef) (a':=?_) #[T,T,T,T,T,T,T,T,T,T,T,F,F,F,F,F,F,F,F,F,F,F,F,F,F,F,F,F,F,F,F,F,F,F] rfl rfl (any_of HT_.out (by kernel_rfl)) (fun _ _ _ h=>h) (Or.inr ⟨by rfl,rfl⟩) ?_ ?_
          rotate_left
          ·simp only [Act.put,zz21,zz22,zz23,i64_w,i32_w]
           rfl
          refine pure_ (i:=11) (N:=some 41) (v:=undef) (a':=?_) #[T,T,T,T,T,T,T,T,T,T,T,T,F,F,F,F,F,F,F,F,F,F,F,F,F,F,F,F,F,F,F,F,F,F] rfl rfl (any_of HT_.out (by kernel_rfl)) (fun _ _ _ h=>h) (Or.inr ⟨by rfl,rfl⟩) ?_ ?_
          rotate_left
          ·simp only [Act.put,zz21,zz22,zz23,i64_w,i32_w]
           rfl
          refine pure_ (i:=12) (N:=some 42) (v:=undef) (a':=?_) #[T,T,T,T,T,T,T,T,T,T,T,T,T,F,F,F,F,F,F,F,F,F,F,F,F,F,F,F,F,F,F,F,F,F] rfl rfl (any_of HT_.out (by kernel_rfl)) (fun _ _ _ h=>h) (Or.inr ⟨by rfl,rfl⟩) ?_ ?_
          rotate_left
          ·simp only [Act.put,zz21,zz22,zz23,i64_w,i32_w]
           rfl
          refine pure_ (i:=13) (N:=some 43) (v:=undef) (a':=?_) #[T,T,T,T,T,T,T,T,T,T,T,T,T,T,F,F,F,F,F,F,F,F,F,F,F,F,F,F,F,F,F,F,F,F] rfl rfl (any_of HT_.out (by kernel_rfl)) (fun _ _ _ h=>h) (Or.inr ⟨by rfl,rfl⟩) ?_ ?_
          rotate_left
          ·simp only [Act.put,zz21,zz22,zz23,i64_w,i32_w]
           rfl
          refine pure_ (i:=14) (N:=some 44) (v:=undef) (a':=?_) #[T,T,T,T,T,T,T,T,T,T,T,T,T,T,T,F,F,F,F,F,F,F,F,F,F,F,F,F,F,F,F,F,F,F] rfl rfl (any_of HT_.out (by kernel_rfl)) (fun _ _ _ h=>h) (Or.inr ⟨by rfl,rfl⟩) ?_ ?_
          rotate_left
          ·simp only [Act.put,zz21,zz22,zz23,i64_w,i32_w]
           rfl
          refine pure_ (i:=15) (N:=some 45) (v:=undef) (a':=?_) #[T,T,T,T,T,T,T,T,T,T,T,T,T,T,T,T,F,F,F,F,F,F,F,F,F,F,F,F,F,F,F,F,F,F] rfl rfl (any_of HT_.out (by kernel_rfl)) (fun _ _ _ h=>h) (Or.inr ⟨by rfl,rfl⟩) ?_ ?_
          rotate_left
          ·simp only [Act.put,zz21,zz22,zz23,i64_w,i32_w]
           rfl
          refine pure_ (i:=16) (N:=some 46) (v:=undef) (a':=?_) #[T,T,T,T,T,T,T,T,T,T,T,T,T,T,T,T,T,F,F,F,F,F,F,F,F,F,F,F,F,F,F,F,F,F] rfl rfl (any_of HT_.out (by kernel_rfl)) (fun _ _ _ h=>h) (Or.inr ⟨by rfl,rfl⟩) ?_ ?_
          rotate_left
          ·simp only [Act.put,zz21,zz22,zz23,i64_w,i32_w]
           rfl
          refine pure_ (i:=17) (N:=some 47) (v:=undef) (a':=?_) #[T,T,T,T,T,T,T,T,T,T,T,T,T,T,T,T,T,T,F,F,F,F,F,F,F,F,F,F,F,F,F,F,F,F] rfl rfl (any_of HT_.out (by kernel_rfl)) (fun _ _ _ h=>h) (Or.inr ⟨by rfl,rfl⟩) ?_ ?_
          rotate_left
          ·simp only [Act.put,zz21,zz22,zz23,i64_w,i32_w]
           rfl
          refine pure_ (i:=18) (N:=some 48) (v:=?_) (a':=?_) #[T,T,T,T,T,T,T,T,T,T,T,T,T,T,T,T,T,T,T,F,F,F,F,F,F,F,F,F,F,F,F,F,F,F] rfl rfl (any_of HT_.out (by kernel_rfl)) (fun _ _ _ h=>h) (Or.inl ⟨by rfl,?_⟩) ?_ ?_
          rotate_left
          ·intro w'
           go_simp
           with_reducible rfl
          rotate_left
          ·simp only [Act.put,zz21,zz22,zz23,i64_w,i32_w]
           rfl
          refine pure_ (i:=19) (N:=some 49) (v:=?_) (a':=?_) #[T,T,T,T,T,T,T,T,T,T,T,T,T,T,T,T,T,T,T,T,F,F,F,F,F,F,F,F,F,F,F,F,F,F] rfl rfl (any_of HT_.out (by kernel_rfl)) (fun _ _ _ h=>h) (Or.inl ⟨by rfl,?_⟩) ?_ ?_
          rotate_left
          ·intro w'
           go_simp
           with_reducible rfl
          rotate_left
          ·simp only [Act.put,zz21,zz22,zz23,i64_w,i32_w]
           rfl
          refine pure_ (i:=20) (N:=some 50) (v:=undef) (a':=?_) #[T,T,T,T,T,T,T,T,T,T,T,T,T,T,T,T,T,T,T,T,T,F,F,F,F,F,F,F,F,F,F,F,F,F] rfl rfl (any_of HT_.out (by kernel_rfl)) (fun _ _ _ h=>h) (Or.inr ⟨by rfl,rfl⟩) ?_ ?_
          rotate_left
          ·simp only [Act.put,zz21,zz22,zz23,i64_w,i32_w]
           rfl
          refine pure_ (i:=21) (N:=some 51) (v:=undef) (a':=?_) #[T,T,T,T,T,T,T,T,T,T,T,T,T,T,T,T,T,T,T,T,T,T,F,F,F,F,F,F,F,F,F,F,F,F] rfl rfl (any_of HT_.out (by kernel_rfl)) (fun _ _ _ h=>h) (Or.inr ⟨by rfl,rfl⟩) ?_ ?_
          rotate_left
          ·simp only [Act.put,zz21,zz22,zz23,i64_w,i32_w]
           rfl
          refine pure_ (i:=22) (N:=some 52) (v:=undef) (a':=?_) #[T,T,T,T,T,T,T,T,T,T,T,T,T,T,T,T,T,T,T,T,T,T,T,F,F,F,F,F,F,F,F,F,F,F] rfl rfl (any_of HT_.out (by kernel_rfl)) (fun _ _ _ h=>h) (Or.inr ⟨by rfl,rfl⟩) ?_ ?_
          rotate_left
          ·simp only [Act.put,zz21,zz22,zz23,i64_w,i32_w]
           rfl
          refine pure_ (i:=23) (N:=some 53) (v:=undef) (a':=?_) #[T,T,T,T,T,T,T,T,T,T,T,T,T,T,T,T,T,T,T,T,T,T,T,T,F,F,F,F,F,F,F,F,F,F] rfl rfl (any_of HT_.out (by kernel_rfl)) (fun _ _ _ h=>h) (Or.inr ⟨by rfl,rfl⟩) ?_ ?_
          rotate_left
          ·simp only [Act.put,zz21,zz22,zz23,i64_w,i32_w]
           rfl
          refine pure_ (i:=24) (N:=some 54) (v:=undef) (a':=?_) #[T,T,T,T,T,T,T,T,T,T,T,T,T,T,T,T,T,T,T,T,T,T,T,T,T,F,F,F,F,F,F,F,F,F] rfl rfl (any_of HT_.out (by kernel_rfl)) (fun _ _ _ h=>h) (Or.inr ⟨by rfl,rfl⟩) ?_ ?_
          rotate_left
          ·simp only [Act.put,zz21,zz22,zz23,i64_w,i32_w]
           rfl
          refine pure_ (i:=25) (N:=some 55) (v:=undef) (a':=?_) #[T,T,T,T,T,T,T,T,T,T,T,T,T,T,T,T,T,T,T,T,T,T,T,T,T,T,F,F,F,F,F,F,F,F] rfl rfl (any_of HT_.out (by kernel_rfl)) (fun _ _ _ h=>h) (Or.inr ⟨by rfl,rfl⟩) ?_ ?_
          rotate_left
          ·simp only [Act.put,zz21,zz22,zz23,i64_w,i32_w]
           rfl
          refine pure_ (i:=26) (N:=some 56) (v:=undef) (a':=?_) #[T,T,T,T,T,T,T,T,T,T,T,T,T,T,T,T,T,T,T,T,T,T,T,T,T,T,T,F,F,F,F,F,F,F] rfl rfl (any_of HT_.out (by kernel_rfl)) (fun _ _ _ h=>h) (Or.inr ⟨by rfl,rfl⟩) ?_ ?_
          rotate_left
          ·simp only [Act.put,zz21,zz22,zz23,i64_w,i32_w]
           rfl
          refine pure_ (i:=27) (N:=some 57) (v:=undef) (a':=?_) #[T,T,T,T,T,T,T,T,T,T,T,T,T,T,T,T,T,T,T,T,T,T,T,T,T,T,T,T,F,F,F,F,F,F] rfl rfl (any_of HT_.out (by kernel_rfl)) (fun _ _ _ h=>h) (Or.inr ⟨by rfl,rfl⟩) ?_ ?_
          rotate_left
          ·simp only [Act.put,zz21,zz22,zz23,i64_w,i32_w]
           rfl
          refine pure_ (i:=28) (N:=some 58) (v:=undef) (a':=?_) #[T,T,T,T,T,T,T,T,T,T,T,T,T,T,T,T,T,T,T,T,T,T,T,T,T,T,T,T,T,F,F,F,F,F] rfl rfl (any_of HT_.out (by kernel_rfl)) (fun _ _ _ h=>h) (Or.inr ⟨by rfl,rfl⟩) ?_ ?_
          rotate_left
          ·simp only [Act.put,zz21,zz22,zz23,i64_w,i32_w]
           rfl
          refine pure_ (i:=29) (N:=some 59) (v:=undef) (a':=?_) #[T,T,T,T,T,T,T,T,T,T,T,T,T,T,T,T,T,T,T,T,T,T,T,T,T,T,T,T,T,T,F,F,F,F] rfl rfl (any_of HT_.out (by kernel_rfl)) (fun _ _ _ h=>h) (Or.inr ⟨by rfl,rfl⟩) ?_ ?_
          rotate_left
          ·simp only [Act.put,zz21,zz22,zz23,i64_w,i32_w]
           rfl
          refine pure_ (i:=30) (N:=some 60) (v:=undef) (a':=?_) #[T,T,T,T,T,T,T,T,T,T,T,T,T,T,T,T,T,T,T,T,T,T,T,T,T,T,T,T,T,T,T,F,F,F] rfl rfl (any_of HT_.out (by kernel_rfl)) (fun _ _ _ h=>h) (Or.inr ⟨by rfl,rfl⟩) ?_ ?_
          rotate_left
          ·simp only [Act.put,zz21,zz22,zz23,i64_w,i32_w]
           rfl
          refine pure_ (i:=31) (N:=some 61) (v:=undef) (a':=?_) #[T,T,T,T,T,T,T,T,T,T,T,T,T,T,T,T,T,T,T,T,T,T,T,T,T,T,T,T,T,T,T,T,F,F] rfl rfl (any_of HT_.out (by kernel_rfl)) (fun _ _ _ h=>h) (Or.inr ⟨by rfl,rfl⟩) ?_ ?_
          rotate_left
          ·simp only [Act.put,zz21,zz22,zz23,i64_w,i32_w]
           rfl
          refine pure_ (i:=32) (N:=some 62) (v:=undef) (a':=?_) #[T,T,T,T,T,T,T,T,T,T,T,T,T,T,T,T,T,T,T,T,T,T,T,T,T,T,T,T,T,T,T,T,T,F] rfl rfl (any_of HT_.out (by kernel_rfl)) (fun _ _ _ h=>h) (Or.inr ⟨by rfl,rfl⟩) ?_ ?_
          rotate_left
          ·simp only [Act.put,zz21,zz22,zz23,i64_w,i32_w]
           rfl
          refine pure_ (i:=33) (N:=some 63) (v:=?_) (a':=?_) #[T,T,T,T,T,T,T,T,T,T,T,T,T,T,T,T,T,T,T,T,T,T,T,T,T,T,T,T,T,T,T,T,T,T] rfl rfl (any_of HT_.out (by kernel_rfl)) (fun _ _ _ h=>h) (Or.inl ⟨by rfl,?_⟩) ?_ ?_
          rotate_left
          ·intro w'
           go_simp
           with_reducible rfl
          rotate_left
          ·simp only [Act.put,zz21,zz22,zz23,i64_w,i32_w]
           rfl
          refine done_ (done_of HT_.out (by kernel_rfl)) ?_
          try go_wp2
          go_ret
          exact ⟨by first | rfl | (simp [errW_none,errW_some] <;> rfl) | (simp [*,errW_none,errW_some] <;> rfl),by repeat first | exact HB.out | apply zz2 | apply zz0 | apply zz1 | refine zz3 ?_ GE106.out | refine zz3 ?_ GE109.out⟩
        ·rw [if_neg c12] at H
         exact absurd H (by simp)
       ·rw [if_neg c11] at H
        exact absurd H (by simp)
      ·rw [if_neg c10] at H
       have c10b0:decide (x25_2 < (l0_1.length:Int))=false:=decide_eq_false c10
       clear c10
       obtain rfl:=Option.some.inj H
       go_wp2
       go_ret
       exact ⟨by first | rfl | (simp [errW_none,errW_some] <;> rfl) | (simp [*,errW_none,errW_some] <;> rfl),by repeat first | exact HB.out | apply zz2 | apply zz0 | apply zz1 | refine zz3 ?_ GE106.out⟩

/-! ### spec_paTable: function 53 -/
mutual
def spec_paTable.l0:Nat→List (List Bool)→Int→Int→List (S80)→Option ((List (List Bool)))
 | 0,_,_,_,_=>none
 | k+1,x3,x4,x115000,x115001=>if x4 < x115000 then (if 0≤x115000 then (if (x115000:Int).toNat≤281474976710656 then (if x3.length < 5864062014805 then (spec_paTable.l0 k (x3 ++ [(List.replicate (x115000:Int).toNat false)]) (wrap64 (x4+1)) x115000 x115001) else (none)) else (none)) else (none)) else (spec_paTable.l1 k x3 x115001 (x115001.length:Int) 0)
def spec_paTable.l1:Nat→List (List Bool)→List (S80)→Int→Int→Option ((List (List Bool)))
 | 0,_,_,_,_=>none
 | k+1,x3,x20,x21,x22=>if x22 < x21 then (if 0≤x22 then (if x22 < (x20.length:Int) then (if 0≤((rd_T80 x20 x22).f0) then (if ((rd_T80 x20 x22).f0) < (x3.length:Int) then (if 0≤((rd_T80 x20 x22).f1) then (if ((rd_T80 x20 x22).f1) < ((rd_L4 x3 ((rd_T80 x20 x22).f0)).length:Int) then ((some (x3.set (((rd_T80 x20 x22).f0):Int).toNat ((rd_L4 x3 ((rd_T80 x20 x22).f0)).set (((rd_T80 x20 x22).f1):Int).toNat true):List (List Bool))).bind fun y126=>(if ((rd_T80 x20 x22).f1) < (x3.length:Int) then (if ((rd_T80 x20 x22).f0) < ((rd_L4 y126 ((rd_T80 x20 x22).f1)).length:Int) then (spec_paTable.l1 k (y126.set (((rd_T80 x20 x22).f1):Int).toNat ((rd_L4 y126 ((rd_T80 x20 x22).f1)).set (((rd_T80 x20 x22).f0):Int).toNat true)) x20 x21 (wrap64 (x22+1))) else (none)) else (none))) else (none)) else (none)) else (none)) else (none)) else (none)) else (none)) else (some x3)
end
def spec_paTable.f (k:Nat) (a0_0:Int) (l0_1:List (S80)):Option ((List (List Bool))):=spec_paTable.l0 k ([]:List (List Bool)) 0 a0_0 l0_1
theorem spec_paTable.mono_l:∀ k,(∀ y0 y1 y2 y3,LeO (spec_paTable.l0 k y0 y1 y2 y3) (spec_paTable.l0 (k+1) y0 y1 y2 y3))∧(∀ y0 y1 y2 y3,LeO (spec_paTable.l1 k y0 y1 y2 y3) (spec_paTable.l1 (k+1) y0 y1 y2 y3))
 | 0=>⟨fun _ _ _ _ r h=>by simp [spec_paTable.l0] at h,fun _ _ _ _ r h=>by simp [spec_paTable.l1] at h⟩
 | k+1=>by
  obtain ⟨ih0,ih1⟩:=spec_paTable.mono_l k
  refine ⟨?_,?_⟩
  ·intro y0 y1 y2 y3
   unfold spec_paTable.l0
   repeat' first
   | (with_reducible exact ih0 _ _ _ _)
   | (with_reducible exact ih1 _ _ _ _)
   | (with_reducible exact LeO.refl _)
   | (with_reducible exact LeO.none _)
   | (with_reducible refine LeO.ite ?_ ?_)
   | (with_reducible refine LeO.bind ?_ (fun _=>?_))
   | exact ih0 _ _ _ _
   | exact ih1 _ _ _ _
   | exact LeO.none _
   | refine LeO.ite ?_ ?_
   | refine LeO.bind ?_ (fun _=>?_)
  ·intro y0 y1 y2 y3
   unfold spec_paTable.l1
   repeat' first
   | (with_reducible exact ih0 _ _ _ _)
   | (with_reducible exact ih1 _ _ _ _)
   | (with_reducible exact LeO.refl _)
   | (with_reducible exact LeO.none _)
   | (with_reducible refine LeO.ite ?_ ?_)
   | (with_reducible refine LeO.bind ?_ (fun _=>?_))
   | exact ih0 _ _ _ _
   | exact ih1 _ _ _ _
   | exact LeO.none _
   | refine LeO.ite ?_ ?_
   | refine LeO.bind ?_ (fun _=>?_)
theorem spec_paTable.mono:∀ a0 a1 k,LeO (spec_paTable.f k a0 a1) (spec_paTable.f (k+1) a0 a1):=by
 intro a0 a1 k
 obtain ⟨ih0,ih1⟩:=spec_paTable.mono_l k
 unfold spec_paTable.f
 repeat' first
   | (with_reducible exact ih0 _ _ _ _)
   | (with_reducible exact ih1 _ _ _ _)
   | (with_reducible exact LeO.refl _)
   | (with_reducible exact LeO.none _)
   | (with_reducible refine LeO.ite ?_ ?_)
   | (with_reducible refine LeO.bind ?_ (fun _=>?_))
   | exact ih0 _ _ _ _
   | exact ih1 _ _ _ _
   | exact LeO.none _
   | refine LeO.ite ?_ ?_
   | refine LeO.bind ?_ (fun _=>?_)
def spec_paTable.T9:Bool × List (List Nat × List Nat):=(true,[([],[]),([],[]),([1],[1]),([0,2],[0,2]),([3],[3]),([],[]),([5],[5]),([4,6,0,1,2,3,4,5,6],[4,6]),([7,0,1,2,3,4,5,6],[7])])
def spec_paTable.B9:List Nat:=[0,0,2,7,15,0,32,127,255]
theorem spec_paTable.tab9:rtab .any (opsOf Try.f53 9)=spec_paTable.T9:=by kernel_rfl
theorem spec_paTable.bits9:waitsOk spec_paTable.T9.2 spec_paTable.B9=true:=by kernel_rfl
def spec_paTable.T10:Bool × List (List Nat × List Nat):=(true,[([],[]),([],[]),([1],[1]),([0,2],[0,2]),([3],[3]),([],[]),([5],[5]),([4,6,0,1,2,3,4,5,6],[4,6]),([7,0,1,2,3,4,5,6],[7])])
def spec_paTable.B10:List Nat:=[0,0,2,7,15,0,32,127,255]
theorem spec_paTable.tab10:rtab .any (opsOf Try.f53 10)=spec_paTable.T10:=by kernel_rfl
theorem spec_paTable.bits10:waitsOk spec_paTable.T10.2 spec_paTable.B10=true:=by kernel_rfl
set_option maxHeartbeats 8000000 in
set_option maxRecDepth 100000 in
theorem spec_paTable.calls (k:Nat) (a0_0:Int) (A0_1:Option Addr) (c0_1:Nat) (l0_1:List (S80)) (r:List (List Bool)) (w:World) (hr0_1:Kd.C k80 w A0_1 l0_1.length l0_1) (hc0_1:l0_1.length≤c0_1) (h:spec_paTable.f k a0_0 l0_1=some r) :
  Calls Try.prog 53 #[.agg #[.int .i64 a0_0,.slice A0_1 l0_1.length c0_1]] w fun e w'=>∃ v0_:Value,e=.returned (v0_)∧Kd.S (Kd.slice 4 Kd.bool) 92 w' w.heap.size (fun _=>True) v0_ r∧Below w.heap.size w w':=by
 have hu30:=Try.underlying30
 have hu80:=Try.underlying80
 have HR0_1:=zz31 hr0_1
 have HC0_1:=zz31 hc0_1
 clear hr0_1 hc0_1
 have HB:=zz31 (Below.refl w.heap.size w)
 have H:(spec_paTable.l0 k ([]:List (List Bool)) 0 a0_0 l0_1)=some r:=h
 clear h
 have H':=zz31 H
 clear H
 go_enter Try.func53,Try.ntmps53
 go_wp2_with (first | ((with_reducible refine gate_dst (N:=1) rfl ?_);refine box_event ?hg (N:=1) ?hd (cs:=#[.int .i64 a0_0,.slice A0_1 l0_1.length c0_1]) (t:=30) ?hr ?_;(case hd=>rfl);(case hg=>rfl);(case hr=>first | (go_simp;done) | (go_simp;rfl));intro gb114 hg w2 hbox hb;have n0_:=zz31 (zz4 (by repeat first | exact HB.out | apply zz2 | apply zz0 | apply zz1) hb);have n1_:=zz31 (hbox);have n2_:=zz31 ((by rw [hg];exact (zz5 (by repeat first | exact HB.out | apply zz2 | apply zz0 | apply zz1)):w.heap.size≤gb114));have n3_:=zz31 ((by rw [hg];exact (zz5 (by repeat first | exact HB.out | apply zz2 | apply zz0 | apply zz1)):w.heap.size≤gb114));clear HB;have HB:=n0_;have BK114:=n1_;have GW114:=n2_;have GE114:=n3_;clear n0_ n1_ n2_ n3_;clear hb hbox hg))
 go_loopg [3,4] k (fun kq v3 v4 w'=>∃ (x3_1:List (List Bool)) (x4_1:Int),v4=.int .i64 x4_1∧Aside0 (spec_paTable.l0 kq x3_1 x4_1 a0_0 l0_1=some r)∧Aside0 (kq≤k)∧Aside0 (Kd.S (Kd.slice 4 Kd.bool) 92 w' w.heap.size (fun _=>True) v3 x3_1)∧Aside0 (w'.heap[gb114]?=some (.cells #[.int .i64 a0_0,(.slice A0_1 l0_1.length c0_1)] 30 (0,0)))∧Aside0 (Below w.heap.size w w'))
 case atStart=>exact ⟨(([]:List (List Bool))),(0),(by first | rfl | (simp;done) | (simp [*];done)),H',⟨Nat.le_refl _⟩,⟨by first | exact Kd.S_nil _ _ _ _ _ | exact Kd.N_nil _ _ _ _ _ | exact Kd.V_nil _ _ _ _ _ | exact Kd.Q_nil _ _ _ _ _ | exact Kd.R_nil _ _ _ _ _⟩,⟨by (with_reducible repeat (first | refine zz6 ?_ _ | refine zz7 ?_ | refine zz8 ?_ _));exact BK114.out⟩,⟨by repeat first | exact HB.out | apply zz2 | apply zz0 | apply zz1 | refine zz3 ?_ GE114.out⟩⟩
 case round =>
  clear H'
  try clear p2
  obtain ⟨x3_1,x4_1,rfl,HA,HK1,HO_3,BK114,HB⟩:=hrel
  cases gk with
  | zero=>exact absurd HA.out (by simp [spec_paTable.l0])
  | succ k1 =>
   have H:=HA.out
   clear HA
   simp only [spec_paTable.l0] at H
   by_cases c3:x4_1 < a0_0
   ·rw [if_pos c3] at H
    have c3b0:decide (x4_1 < a0_0)=true:=decide_eq_true c3
    clear c3
    by_cases c4:0≤a0_0
    ·rw [if_pos c4] at H
     have c4b0:=eq_true c4
     have c4b1:decide (0≤a0_0)=true:=decide_eq_true c4
     clear c4
     by_cases c5:(a0_0:Int).toNat≤281474976710656
     ·rw [if_pos c5] at H
      have c5b0:=eq_true c5
      have c5b1:decide ((a0_0:Int).toNat≤281474976710656)=true:=decide_eq_true c5
      clear c5
      obtain ⟨y115,hy115⟩:∃ y_:List Bool,y_=(List.replicate (a0_0:Int).toNat false):=⟨_,rfl⟩
      replace H:(if x3_1.length < 5864062014805 then (spec_paTable.l0 k1 (x3_1 ++ [y115]) (wrap64 (x4_1+1)) a0_0 l0_1) else (none))=some r:=by first | (rw [hy115];with_reducible exact H) | (have H2_:=(Option.bind_some _ _).symm.trans H;rw [hy115];with_reducible exact H2_) | (have H2_:=(Option.bind_some _ _).symm.trans H;with_reducible exact H2_) | with_reducible exact H | (rw [hy115];exact H) | exact H
      have Ny115:=zz31 hy115
      clear hy115
      by_cases c6:x3_1.length < 5864062014805
      ·rw [if_pos c6] at H
       have LMc6:=zz31 c6
       clear c6
       obtain ⟨y118,hy118⟩:∃ y_:List (List Bool),y_=(x3_1 ++ [y115]):=⟨_,rfl⟩
       replace H:(spec_paTable.l0 k1 y118 (wrap64 (x4_1+1)) a0_0 l0_1)=some r:=by first | (rw [hy118];with_reducible exact H) | (have H2_:=(Option.bind_some _ _).symm.trans H;rw [hy118];with_reducible exact H2_) | (have H2_:=(Option.bind_some _ _).symm.trans H;with_reducible exact H2_) | with_reducible exact H | (rw [hy118];exact H) | exact H
       have Ny118:=zz31 hy118
       clear hy118
       have H':=zz31 H
       clear H
       have hcz7_0:wr.cell? ⟨gb114,0,none⟩=some (.int .i64 a0_0):=(zz9 BK114.out 0).trans rfl
       have hcz7_1:wr.cell? ⟨gb114,1,none⟩=some (.slice A0_1 l0_1.length c0_1):=(zz9 BK114.out 1).trans rfl
       have hfz7_0:=zz10 BK114.out 0
       have hfz7_1:=zz10 BK114.out 1
       go_wp2_with (first | ((with_reducible refine gate_dst (N:=16) rfl ?_);refine Kd.R_make Kd.bool _ 4 rfl (N:=16) rfl 92 _ _ rfl a0_0 rfl rfl Try.underlying92 (.bool false) 1 info4 rfl (by decide) (by omega) false (ok:=fun _=>True) (okp:=fun _=>True) rfl (fun _ hk=>hk) trivial (zz29 (by first | (with_reducible assumption) | assumption)) (Nat.le_trans (Nat.mul_le_mul_right _ (zz29 (by first | (with_reducible assumption) | assumption):a0_0.toNat≤281474976710656)) (by omega)) (Below.refl _ _) (Nat.le_refl _) ?_;intro v116 w8 ho9 hb hg_ hnew_;clear hg_ hnew_;(first | rw [← Ny115.out] at ho9 | (simp only [Int.reduceToNat] at ho9;rw [← Ny115.out] at ho9));have n0_:=zz31 (Kd.S_elder' (by (with_reducible repeat (first | apply zz15 | apply zz16 | apply zz17));exact HO_3.out) (Kd.R_base ho9) hb);have n1_:=zz31 (Kd.R_lower ho9 (zz5 (by repeat first | exact HB.out | apply zz2 | apply zz0 | apply zz1 | refine zz3 ?_ GE114.out)));have n2_:=zz31 (zz11 (g:=gb114) (o:=.cells #[.int .i64 a0_0,.slice A0_1 l0_1.length c0_1] 30 (0,0)) (by (with_reducible repeat (first | refine zz6 ?_ _ | refine zz7 ?_ | refine zz8 ?_ _));exact BK114.out) hb);have n3_:=zz31 (zz4 (by repeat first | exact HB.out | apply zz2 | apply zz0 | apply zz1 | refine zz3 ?_ GE114.out) hb);clear HO_3;clear BK114;clear HB;have HO_3:=n0_;have HO117:=n1_;have BK114:=n2_;have HB:=n3_;clear n0_ n1_ n2_ n3_;clear hb ho9;obtain ⟨Ao11,co11,eo11⟩:=Kd.R_slice HO117.out;subst eo11) | ((with_reducible refine gate_builtin (b:=.append) (xs:=#[.tmp 13,.tmp 17]) rfl ?_);at_builtin;refine Kd.S_append (Kd.slice 4 Kd.bool) (w0:=w) w.heap.size rfl (.tmp 13) (.tmp 17) 67 92 (.slice none 0 0) 24 rfl Try.underlying67 info92 rfl (by decide) (by omega) u3 x3_1 y115 [.slice Ao11 y115.length co11] (fun _=>True) (fun k_=>some k_=(.slice Ao11 y115.length co11:Value).ownBlock) rfl rfl ?aP (fun k_ hk_=>((Kd.R_mono (ok':=fun k_=>((fun _=>True)) k_∧some k_ ≠ (u3:Value).ownBlock) (Kd.R_apart' (HO117.out) (Kd.S_typed HO_3.out) (by decide)) (fun k_ hk=>⟨trivial,hk.2⟩))).1 k_ hk_.symm) ?aF ?aO ?aB ?aS ?aL ?_;(case aP=>exact Kd.M_row (Kd.R_mono (Kd.R_tight rfl (Kd.R_mono (ok':=fun k_=>((fun _=>True)) k_∧some k_ ≠ (u3:Value).ownBlock) (Kd.R_apart' (HO117.out) (Kd.S_typed HO_3.out) (by decide)) (fun k_ hk=>⟨trivial,hk.2⟩))) (fun _ h_=>h_)));(case aB=>exact (by repeat first | exact HB.out | apply zz2 | apply zz0 | apply zz1 | refine zz3 ?_ GE114.out));(case aF=>exact (fun _ _=>trivial));(case aO=>exact (by (with_reducible repeat (first | apply zz15 | apply zz16 | apply zz17));exact Kd.S_mono HO_3.out (fun k_ hk=>⟨trivial,fun e_=>hk.2 e_⟩)));(case aS=>exact (zz5 (by repeat first | exact HB.out | apply zz2 | apply zz0 | apply zz1 | refine zz3 ?_ GE114.out)));(case aL=>have:=LMc6.out;omega);intro v119 w10 ho hb hg hat;rw [← Ny118.out] at ho;have n0_:=zz31 (blk_grown (g:=gb114) (o:=.cells #[.int .i64 a0_0,.slice A0_1 l0_1.length c0_1] 30 (0,0)) (by (with_reducible repeat (first | refine zz6 ?_ _ | refine zz7 ?_ | refine zz8 ?_ _));exact BK114.out) hg (Kd.S_ne HO_3.out BK114.out (by decide)));have n1_:=zz31 (hb);have n2_:=zz31 (ho);clear BK114;clear HB;clear HO_3;clear HO117;have BK114:=n0_;have HB:=n1_;have HO120:=n2_;clear n0_ n1_ n2_;clear ho hb hg hat))
       go_roundg k1
       case measure=>have:=HK1.out;omega
       case rel=>exact ⟨(y118),(wrap64 (x4_1+1)),(by first | rfl | (simp;done) | (simp [*];done)),H',⟨by have:=HK1.out;omega⟩,⟨by (with_reducible repeat (first | apply zz15 | apply zz16 | apply zz17));exact HO120.out⟩,⟨by (with_reducible repeat (first | refine zz6 ?_ _ | refine zz7 ?_ | refine zz8 ?_ _));exact BK114.out⟩,⟨by repeat first | exact HB.out | apply zz2 | apply zz0 | apply zz1 | refine zz3 ?_ GE114.out⟩⟩
      ·rw [if_neg c6] at H
       exact absurd H (by simp)
     ·rw [if_neg c5] at H
      exact absurd H (by simp)
    ·rw [if_neg c4] at H
     exact absurd H (by simp)
   ·rw [if_neg c3] at H
    have c3b0:decide (x4_1 < a0_0)=false:=decide_eq_false c3
    clear c3
    have H':=zz31 H
    clear H
    have hcz12_0:wr.cell? ⟨gb114,0,none⟩=some (.int .i64 a0_0):=(zz9 BK114.out 0).trans rfl
    have hcz12_1:wr.cell? ⟨gb114,1,none⟩=some (.slice A0_1 l0_1.length c0_1):=(zz9 BK114.out 1).trans rfl
    have hfz12_0:=zz10 BK114.out 0
    have hfz12_1:=zz10 BK114.out 1
    go_wp2
    go_loopg [22] k1 (fun kq v22 w'=>∃ (x3_2:List (List Bool)) (x22_2:Int),v22=.int .i64 x22_2∧Aside0 (spec_paTable.l1 kq x3_2 l0_1 (l0_1.length:Int) x22_2=some r)∧Aside0 (kq≤k1)∧Aside0 (Kd.S (Kd.slice 4 Kd.bool) 92 w' w.heap.size (fun _=>True) u3 x3_2)∧Aside0 (w'.heap[gb114]?=some (.cells #[.int .i64 a0_0,(.slice A0_1 l0_1.length c0_1)] 30 (0,0)))∧Aside0 (Below w.heap.size w w'))
    case atStart=>exact ⟨(x3_1),(0),(by first | rfl | (simp;done) | (simp [*];done)),H',⟨Nat.le_refl _⟩,⟨by (with_reducible repeat (first | apply zz15 | apply zz16 | apply zz17));exact HO_3.out⟩,⟨by (with_reducible repeat (first | refine zz6 ?_ _ | refine zz7 ?_ | refine zz8 ?_ _));exact BK114.out⟩,⟨by repeat first | exact HB.out | apply zz2 | apply zz0 | apply zz1 | refine zz3 ?_ GE114.out⟩⟩
    case round =>
     clear H'
     try clear p2
     try clear c3
     try clear c3b0
     try clear c4
     try clear c4b0
     try clear c4b1
     try clear c5
     try clear c5b0
     try clear c5b1
     try clear c6
     try clear p6
     try clear hcz12_0
     try clear hcz12_1
     try clear hcz7_0
     try clear hcz7_1
     try clear hfz12_0
     try clear hfz12_1
     try clear hfz7_0
     try clear hfz7_1
     try clear p2
     obtain ⟨x3_2,x22_2,rfl,HA,HK2,HO_3,BK114,HB⟩:=hrel
     cases gk with
     | zero=>exact absurd HA.out (by simp [spec_paTable.l1])
     | succ k2 =>
      have H:=HA.out
      clear HA
      simp only [spec_paTable.l1] at H
      by_cases c13:x22_2 < (l0_1.length:Int)
      ·rw [if_pos c13] at H
       have c13b0:decide (x22_2 < (l0_1.length:Int))=true:=decide_eq_true c13
       clear c13
       by_cases c14:0≤x22_2
       ·rw [if_pos c14] at H
        have c14b0:decide (0≤x22_2)=true:=decide_eq_true c14
        clear c14
        by_cases c15:x22_2 < (l0_1.length:Int)
        ·rw [if_pos c15] at H
         have c15b0:decide (x22_2 < (l0_1.length:Int))=true:=decide_eq_true c15
         clear c15
         by_cases c16:0≤((rd_T80 l0_1 x22_2).f0)
         ·rw [if_pos c16] at H
          have c16b0:decide (0≤((rd_T80 l0_1 x22_2).f0))=true:=decide_eq_true c16
          clear c16
          by_cases c17:((rd_T80 l0_1 x22_2).f0) < (x3_2.length:Int)
          ·rw [if_pos c17] at H
           have c17b0:decide (((rd_T80 l0_1 x22_2).f0) < (x3_2.length:Int))=true:=decide_eq_true c17
           clear c17
           by_cases c18:0≤((rd_T80 l0_1 x22_2).f1)
           ·rw [if_pos c18] at H
            have c18b0:decide (0≤((rd_T80 l0_1 x22_2).f1))=true:=decide_eq_true c18
            clear c18
            by_cases c19:((rd_T80 l0_1 x22_2).f1) < ((rd_L4 x3_2 ((rd_T80 l0_1 x22_2).f0)).length:Int)
            ·rw [if_pos c19] at H
             have c19b0:decide (((rd_T80 l0_1 x22_2).f1) < ((rd_L4 x3_2 ((rd_T80 l0_1 x22_2).f0)).length:Int))=true:=decide_eq_true c19
             clear c19
             obtain ⟨y124,hy124⟩:∃ y_:List Bool,y_=((rd_L4 x3_2 ((rd_T80 l0_1 x22_2).f0)).set (((rd_T80 l0_1 x22_2).f1):Int).toNat true):=⟨_,rfl⟩
             replace H:((some (x3_2.set (((rd_T80 l0_1 x22_2).f0):Int).toNat y124:List (List Bool))).bind fun y126=>(if ((rd_T80 l0_1 x22_2).f1) < (x3_2.length:Int) then (if ((rd_T80 l0_1 x22_2).f0) < ((rd_L4 y126 ((rd_T80 l0_1 x22_2).f1)).length:Int) then (spec_paTable.l1 k2 (y126.set (((rd_T80 l0_1 x22_2).f1):Int).toNat ((rd_L4 y126 ((rd_T80 l0_1 x22_2).f1)).set (((rd_T80 l0_1 x22_2).f0):Int).toNat true)) l0_1 (l0_1.length:Int) (wrap64 (x22_2+1))) else (none)) else (none)))=some r:=by first | (rw [hy124];with_reducible exact H) | (have H2_:=(Option.bind_some _ _).symm.trans H;rw [hy124];with_reducible exact H2_) | (have H2_:=(Option.bind_some _ _).symm.trans H;with_reducible exact H2_) | with_reducible exact H | (rw [hy124];exact H) | exact H
             have Ny124:=zz31 hy124
             clear hy124
             obtain ⟨y126,hy126⟩:∃ y_:List (List Bool),y_=(x3_2.set (((rd_T80 l0_1 x22_2).f0):Int).toNat y124):=⟨_,rfl⟩
             replace H:(if ((rd_T80 l0_1 x22_2).f1) < (x3_2.length:Int) then (if ((rd_T80 l0_1 x22_2).f0) < ((rd_L4 y126 ((rd_T80 l0_1 x22_2).f1)).length:Int) then (spec_paTable.l1 k2 (y126.set (((rd_T80 l0_1 x22_2).f1):Int).toNat ((rd_L4 y126 ((rd_T80 l0_1 x22_2).f1)).set (((rd_T80 l0_1 x22_2).f0):Int).toNat true)) l0_1 (l0_1.length:Int) (wrap64 (x22_2+1))) else (none)) else (none))=some r:=by first | (rw [hy126];with_reducible exact H) | (have H2_:=(Option.bind_some _ _).symm.trans H;rw [hy126];with_reducible exact H2_) | (have H2_:=(Option.bind_some _ _).symm.trans H;with_reducible exact H2_) | with_reducible exact H | (rw [hy126];exact H) | exact H
             have Ny126:=zz31 hy126
             clear hy126
             by_cases c21:((rd_T80 l0_1 x22_2).f1) < (x3_2.length:Int)
             ·rw [if_pos c21] at H
              have c21b0:decide (((rd_T80 l0_1 x22_2).f1) < (x3_2.length:Int))=true:=decide_eq_true c21
              clear c21
              by_cases c22:((rd_T80 l0_1 x22_2).f0) < ((rd_L4 y126 ((rd_T80 l0_1 x22_2).f1)).length:Int)
              ·rw [if_pos c22] at H
               have c22b0:decide (((rd_T80 l0_1 x22_2).f0) < ((rd_L4 y126 ((rd_T80 l0_1 x22_2).f1)).length:Int))=true:=decide_eq_true c22
               clear c22
               obtain ⟨y128,hy128⟩:∃ y_:List Bool,y_=((rd_L4 y126 ((rd_T80 l0_1 x22_2).f1)).set (((rd_T80 l0_1 x22_2).f0):Int).toNat true):=⟨_,rfl⟩
               replace H:(spec_paTable.l1 k2 (y126.set (((rd_T80 l0_1 x22_2).f1):Int).toNat y128) l0_1 (l0_1.length:Int) (wrap64 (x22_2+1)))=some r:=by first | (rw [hy128];with_reducible exact H) | (have H2_:=(Option.bind_some _ _).symm.trans H;rw [hy128];with_reducible exact H2_) | (have H2_:=(Option.bind_some _ _).symm.trans H;with_reducible exact H2_) | with_reducible exact H | (rw [hy128];exact H) | exact H
               have Ny128:=zz31 hy128
               clear hy128
               obtain ⟨y130,hy130⟩:∃ y_:List (List Bool),y_=(y126.set (((rd_T80 l0_1 x22_2).f1):Int).toNat y128):=⟨_,rfl⟩
               replace H:(spec_paTable.l1 k2 y130 l0_1 (l0_1.length:Int) (wrap64 (x22_2+1)))=some r:=by first | (rw [hy130];with_reducible exact H) | (have H2_:=(Option.bind_some _ _).symm.trans H;rw [hy130];with_reducible exact H2_) | (have H2_:=(Option.bind_some _ _).symm.trans H;with_reducible exact H2_) | with_reducible exact H | (rw [hy130];exact H) | exact H
               have Ny130:=zz31 hy130
               clear hy130
               have H':=zz31 H
               clear H
               have p121:0≤(x22_2:Int):=zz29 (by first | (with_reducible assumption) | assumption)
               have q121:x22_2 < (l0_1.length:Int):=zz29 (by first | (with_reducible assumption) | assumption)
               obtain ⟨ad121,e121,hx121_0,hx121_1⟩:=at_T80 HR0_1.out x22_2 p121 q121
               cases e121
               try replace hx121_0:=(HB.out.cell (World.block_lt_of_cell? w _ hx121_0)).trans hx121_0
               try replace hx121_1:=(HB.out.cell (World.block_lt_of_cell? w _ hx121_1)).trans hx121_1
               replace p121:=eq_true p121
               replace q121:=eq_true q121
               try go_wp2_with (first | ((with_reducible refine gate_dst (N:=6) rfl ?_);refine box_event ?hg (N:=6) ?hd (cs:=#[.int .i64 0,.int .i64 0]) (t:=80) ?hr ?_;(case hd=>rfl);(case hg=>rfl);(case hr=>first | (go_simp;done) | (go_simp;rfl));intro gb122 hg w24 hbox hb;have n0_:=zz31 (Kd.S_below (by (with_reducible repeat (first | apply zz15 | apply zz16 | apply zz17));exact HO_3.out) hb);have n1_:=zz31 (zz11 (g:=gb114) (o:=.cells #[.int .i64 a0_0,.slice (some ad121) l0_1.length c0_1] 30 (0,0)) (by (with_reducible repeat (first | refine zz6 ?_ _ | refine zz7 ?_ | refine zz8 ?_ _));exact BK114.out) hb);have n2_:=zz31 (zz4 (by repeat first | exact HB.out | apply zz2 | apply zz0 | apply zz1 | refine zz3 ?_ GE114.out) hb);have n3_:=zz31 (hbox);have n4_:=zz31 ((by rw [hg];exact (zz5 (by repeat first | exact HB.out | apply zz2 | apply zz0 | apply zz1 | refine zz3 ?_ GE114.out)):w.heap.size≤gb122));have n5_:=zz31 ((by rw [hg];exact (zz5 (by repeat first | exact HB.out | apply zz2 | apply zz0 | apply zz1 | refine zz3 ?_ GE114.out)):w.heap.size≤gb122));have n6_:=zz31 ((by rw [hg];exact Nat.ne_of_lt (blk_lt (g:=gb114) (o:=.cells #[.int .i64 a0_0,.slice (some ad121) l0_1.length c0_1] 30 (0,0)) (by (with_reducible repeat (first | refine zz6 ?_ _ | refine zz7 ?_ | refine zz8 ?_ _));exact BK114.out)):gb114 ≠ gb122));have n7_:=zz31 ((by rw [hg];exact Nat.ne_of_gt (blk_lt (g:=gb114) (o:=.cells #[.int .i64 a0_0,.slice (some ad121) l0_1.length c0_1] 30 (0,0)) (by (with_reducible repeat (first | refine zz6 ?_ _ | refine zz7 ?_ | refine zz8 ?_ _));exact BK114.out)):gb122 ≠ gb114));clear HO_3;clear BK114;clear HB;have HO_3:=n0_;have BK114:=n1_;have HB:=n2_;have BK122:=n3_;have GW122:=n4_;have GE122:=n5_;have NB114_122:=n6_;have NB122_114:=n7_;clear n0_ n1_ n2_ n3_ n4_ n5_ n6_ n7_;clear hb hbox hg;have hnb25:=NB122_114.out;have hnc25:=NB114_122.out;have hcz26_0:w24.cell? ⟨gb122,0,none⟩=some (.int .i64 0):=(zz9 BK122.out 0).trans rfl;have hcz26_1:w24.cell? ⟨gb122,1,none⟩=some (.int .i64 0):=(zz9 BK122.out 1).trans rfl;have hfz26_0:=zz10 BK122.out 0;have hfz26_1:=zz10 BK122.out 1))
               have n0_:Aside0 (Kd.S (Kd.slice 4 Kd.bool) 92 ((w24.setCell ⟨gb122,0,none⟩ (.int .i64 ((rd_T80 l0_1 x22_2).f0))).setCell ⟨gb122,1,none⟩ (.int .i64 ((rd_T80 l0_1 x22_2).f1))) w.heap.size (fun _=>True) u3 x3_2):=⟨by (with_reducible repeat (first | apply zz15 | apply zz16 | apply zz17));exact Kd.S_mono (Kd.S_far (p:=⟨gb122,1,none⟩) (Kd.S_far (p:=⟨gb122,0,none⟩) (Kd.S_types HO_3.out BK122.out (by decide)) (fun _ hk=>hk.2) (.int .i64 ((rd_T80 l0_1 x22_2).f0))) (fun _ hk=>hk.2) (.int .i64 ((rd_T80 l0_1 x22_2).f1))) (fun _ hk=>trivial)⟩
               have n1_:Aside0 (((w24.setCell ⟨gb122,0,none⟩ (.int .i64 ((rd_T80 l0_1 x22_2).f0))).setCell ⟨gb122,1,none⟩ (.int .i64 ((rd_T80 l0_1 x22_2).f1))).heap[gb114]?=some (.cells #[.int .i64 a0_0,.slice (some ad121) l0_1.length c0_1] 30 (0,0))):=⟨by (with_reducible repeat (first | refine zz6 ?_ _ | refine zz7 ?_ | refine zz8 ?_ _));refine blk_far ?_ NB114_122.out _;(with_reducible repeat (first | refine zz6 ?_ _ | refine zz7 ?_ | refine zz8 ?_ _));refine blk_far ?_ NB114_122.out _;(with_reducible repeat (first | refine zz6 ?_ _ | refine zz7 ?_ | refine zz8 ?_ _));exact BK114.out⟩
               have n2_:Aside0 (((w24.setCell ⟨gb122,0,none⟩ (.int .i64 ((rd_T80 l0_1 x22_2).f0))).setCell ⟨gb122,1,none⟩ (.int .i64 ((rd_T80 l0_1 x22_2).f1))).heap[gb122]?=some (.cells #[.int .i64 ((rd_T80 l0_1 x22_2).f0),.int .i64 ((rd_T80 l0_1 x22_2).f1)] 80 (0,0))):=⟨by (with_reducible repeat (first | refine zz6 ?_ _ | refine zz7 ?_ | refine zz8 ?_ _));refine blk_put (cs:=#[.int .i64 ((rd_T80 l0_1 x22_2).f0),.int .i64 0]) ?_ 1 _ rfl;(with_reducible repeat (first | refine zz6 ?_ _ | refine zz7 ?_ | refine zz8 ?_ _));refine blk_put (cs:=#[.int .i64 0,.int .i64 0]) ?_ 0 _ rfl;(with_reducible repeat (first | refine zz6 ?_ _ | refine zz7 ?_ | refine zz8 ?_ _));exact BK122.out⟩
               have n3_:Aside0 (Below w.heap.size w ((w24.setCell ⟨gb122,0,none⟩ (.int .i64 ((rd_T80 l0_1 x22_2).f0))).setCell ⟨gb122,1,none⟩ (.int .i64 ((rd_T80 l0_1 x22_2).f1)))):=⟨by repeat first | exact HB.out | apply zz2 | apply zz0 | apply zz1 | refine zz3 ?_ GE114.out | refine zz3 ?_ GE122.out⟩
               (try clear HO_3)
               (try clear BK114)
               (try clear BK122)
               (try clear HB)
               generalize ((w24.setCell ⟨gb122,0,none⟩ (.int .i64 ((rd_T80 l0_1 x22_2).f0))).setCell ⟨gb122,1,none⟩ (.int .i64 ((rd_T80 l0_1 x22_2).f1)))=w27 at n0_ n1_ n2_ n3_ ⊢
               have HO_3:=n0_
               have BK114:=n1_
               have BK122:=n2_
               have HB:=n3_
               clear n0_ n1_ n2_ n3_
               have n0_:=zz31 (zz17 HO_3.out)
               have n1_:=zz31 (zz7 BK114.out)
               have n2_:=zz31 (zz7 BK122.out)
               have n3_:=zz31 (zz1 HB.out)
               clear HO_3
               clear BK114
               clear BK122
               clear HB
               have HO_3:=n0_
               have BK114:=n1_
               have BK122:=n2_
               have HB:=n3_
               clear n0_ n1_ n2_ n3_
               obtain ⟨Ao29,co29,eo29⟩:=Kd.S_slice HO_3.out
               (first | subst eo29 | (injection eo29 with f1_ f2_ f3_;have f4_:=f1_.symm;have f5_:=f3_.symm;clear f1_ f2_ f3_;subst f4_;subst f5_))
               have p123:0≤(((rd_T80 l0_1 x22_2).f0):Int):=zz29 (by first | (with_reducible assumption) | assumption)
               have q123:((rd_T80 l0_1 x22_2).f0) < (x3_2.length:Int):=zz29 (by first | (with_reducible assumption) | assumption)
               obtain ⟨ad123,A123_0,c123_0,e123,hx123_0,hl123_0,hi123_0⟩:=at_L4 (Kd.S_reads' HO_3.out).2.2 ((rd_T80 l0_1 x22_2).f0) p123 q123
               cases e123
               obtain ⟨ce123,hce123,hMe123,hcc123⟩:=Kd.S_get HO_3.out [] ((rd_T80 l0_1 x22_2).f0) p123 (by first | exact q123 | exact zz29 (by first | (with_reducible assumption) | assumption) | (have e_:=(Kd.S_reads' HO_3.out).1;omega))
               obtain ⟨ve123_0,rfl,ge123_0⟩:=hMe123
               have hv123_0:=hcc123 0 _ rfl
               rw [Nat.add_zero,show ((Kd.slice 4 Kd.bool)).sz=1 from rfl,Nat.mul_one] at hv123_0
               replace hv123_0:=Option.some.inj (hv123_0.symm.trans hx123_0)
               rw [hv123_0] at ge123_0
               have HL123_0:=zz31 (show Kd.R Kd.bool 4 _ _ _ _ (rd_L4 x3_2 ((rd_T80 l0_1 x22_2).f0)) from ge123_0)
               clear hv123_0 ge123_0
               have HX123_0:=zz31 hx123_0
               clear hcc123 hce123
               have HR123_0:=zz31 hi123_0
               have HC123_0:=zz31 hl123_0
               clear hi123_0 hl123_0
               replace p123:=eq_true p123
               replace q123:=eq_true q123
               have p20:0≤(((rd_T80 l0_1 x22_2).f1):Int):=zz29 (by first | (with_reducible assumption) | assumption)
               have q20:(((rd_T80 l0_1 x22_2).f1):Int) < (((rd_L4 x3_2 ((rd_T80 l0_1 x22_2).f0)).length:Int):Int):=zz29 (by first | (with_reducible assumption) | assumption)
               obtain ⟨go20,co20,eo20,gb20,gl20,cl20,HG20⟩:=Kd.R_form HL123_0.out (by omega)
               (first | cases eo20 | (injection eo20 with ea_ en_ ec_;(first | subst ea_ | (injection ea_ with ea_;subst ea_));subst ec_;clear en_))
               have GB20:=zz31 gb20
               have GG20:=zz31 HG20
               clear gb20 gl20 HG20
               obtain ⟨hx20_0,hf20_0⟩:=Kd.R_celln false HL123_0.out (((rd_T80 l0_1 x22_2).f1):Int) p20 q20
               replace p20:=eq_true p20
               replace q20:=eq_true q20
               have hq30:(((rd_T80 l0_1 x22_2).f0):Int) < (x3_2.length:Int):=(by have h_:(((rd_T80 l0_1 x22_2).f0):Int) < ((x3_2.length:Int):Int):=zz29 (by first | (with_reducible assumption) | assumption);first | exact h_ | (have e_:=(Kd.S_reads' HO_3.out).1;omega) | simpa only [List.length_set,List.length_set] using h_)
               obtain ⟨oki30,ce30,hcl30,hM30,hcc30,hok30,hbk30⟩:=Kd.S_borrow HO_3.out [] (((rd_T80 l0_1 x22_2).f0):Int) (zz29 (by first | (with_reducible assumption) | assumption)) (by first | exact hq30 | (have e_:=(Kd.S_reads' HO_3.out).1;omega))
               obtain ⟨ve30_0,rfl,ge30_0⟩:=hM30
               have hv30:=hcc30 0 _ rfl
               rw [Nat.add_zero,show ((Kd.slice 4 Kd.bool)).sz=1 from rfl,Nat.mul_one] at hv30
               replace hv30:=Option.some.inj (hv30.symm.trans HX123_0.out)
               subst hv30
               clear hcc30 hcl30
               replace ge30_0:=(show Kd.R Kd.bool 4 _ _ _ _ (rd_L4 x3_2 ((rd_T80 l0_1 x22_2).f0)) from ge30_0)
               have HP30:=Kd.R_putg ge30_0 (((rd_T80 l0_1 x22_2).f1):Int) true
               rw [← Ny124.out] at HP30
               have HS30:=hbk30 HP30.2 (fun k_ e_=>by injection e_ with e_;subst e_;exact ge30_0.1 _ rfl) (x':=y124) (Kd.M_row HP30.1)
               rw [← Ny126.out] at HS30
               have HQ30:=zz31 HS30
               clear HP30 HS30 hbk30 hok30
               refine start_ (n:=9) (S:=fun w'=>w'.cell? ⟨gb122,0,none⟩=some (.int .i64 ((rd_T80 l0_1 x22_2).f0))∧w'.cell? ⟨gb122,1,none⟩=some (.int .i64 ((rd_T80 l0_1 x22_2).f1))∧w'.cell? (ad123.add (((rd_T80 l0_1 x22_2).f0)).toNat)=some (.slice (some ⟨go20,0,none⟩) (rd_L4 x3_2 ((rd_T80 l0_1 x22_2).f0)).length c123_0)) (ds:=[8]) #[F,F,F,F,F,F,F,F,F] (by kernel_rfl) rfl rfl ⟨(zz9 BK122.out 0).trans rfl,(zz9 BK122.out 1).trans rfl,hx123_0⟩ (fun hHeld=>?_);refine with_tabW spec_paTable.tab9 spec_paTable.bits9 (fun HT_ HW_=>?_)
               generalize w27.drew=w28 at HO_3 BK114 BK122 HB GG20 HL123_0 HQ30 HR123_0 HX123_0 hf20_0 hx123_0 hx20_0 hHeld ⊢
               refine pure_ (i:=0) (N:=some 26) (v:=?_) (a':=?_) #[T,F,F,F,F,F,F,F,F] rfl rfl (any_of HT_.out (by kernel_rfl)) (fun _ _ _ h=>h) (Or.inl ⟨by rfl,?_⟩) ?_ ?_
               rotate_left
               ·intro w'
                go_simp
                with_reducible rfl
               rotate_left
               ·simp only [Act.put,zz21,zz22,zz23,i64_w,i32_w]
                rfl
               refine pure_ (i:=1) (N:=some 27) (v:=?_) (a':=?_) #[T,T,F,F,F,F,F,F,F] rfl rfl (any_of HT_.out (by kernel_rfl)) (fun _ _ _ h=>h) (Or.inl ⟨by rfl,?_⟩) ?_ ?_
               rotate_left
               ·intro w'
                go_simp
                with_reducible rfl
               rotate_left
               ·simp only [Act.put,zz21,zz22,zz23,i64_w,i32_w]
                rfl
               refine pure_ (i:=5) (N:=some 31) (v:=?_) (a':=?_) #[T,T,F,F,F,T,F,F,F] rfl rfl (any_of HT_.out (by kernel_rfl)) (fun _ _ _ h=>h) (Or.inl ⟨by rfl,?_⟩) ?_ ?_
               rotate_left
               ·intro w'
                go_simp
                with_reducible rfl
               rotate_left
               ·simp only [Act.put,zz21,zz22,zz23,i64_w,i32_w]
                rfl
               refine take_ (i:=2) (N:=some 28) (v:=?_) (a':=?_) #[T,T,T,F,F,T,F,F,F] rfl rfl (take_ofW HT_.out HW_.out (by kernel_rfl)) (fun _ _ _ h=>h) (Or.inl ⟨by rfl,?_⟩) hHeld ?_ ?_
               rotate_left
               ·rintro w' ⟨s0,s1,s2⟩
                go_simp
                with_reducible rfl
               rotate_left
               ·simp only [Act.put,zz21,zz22,zz23,i64_w,i32_w]
                rfl
               refine pure_ (i:=3) (N:=some 29) (v:=?_) (a':=?_) #[T,T,T,T,F,T,F,F,F] rfl rfl (any_of HT_.out (by kernel_rfl)) (fun _ _ _ h=>h) (Or.inl ⟨by rfl,?_⟩) ?_ ?_
               rotate_left
               ·intro w'
                go_simp
                with_reducible rfl
               rotate_left
               ·simp only [Act.put,zz21,zz22,zz23,i64_w,i32_w]
                rfl
               refine take_ (i:=4) (N:=some 30) (v:=?_) (a':=?_) #[T,T,T,T,T,T,F,F,F] rfl rfl (take_ofW HT_.out HW_.out (by kernel_rfl)) (fun _ _ _ h=>h) (Or.inl ⟨by rfl,?_⟩) hHeld ?_ ?_
               rotate_left
               ·rintro w' ⟨s0,s1,s2⟩
                go_simp
                with_reducible rfl
               rotate_left
               ·simp only [Act.put,zz21,zz22,zz23,i64_w,i32_w]
                rfl
               refine take_ (i:=6) (N:=some 32) (v:=?_) (a':=?_) #[T,T,T,T,T,T,T,F,F] rfl rfl (take_ofW HT_.out HW_.out (by kernel_rfl)) (fun _ _ _ h=>h) (Or.inl ⟨by rfl,?_⟩) hHeld ?_ ?_
               rotate_left
               ·rintro w' ⟨s0,s1,s2⟩
                go_simp
                with_reducible rfl
               rotate_left
               ·simp only [Act.put,zz21,zz22,zz23,i64_w,i32_w]
                rfl
               refine pure_ (i:=7) (N:=some 33) (v:=?_) (a':=?_) #[T,T,T,T,T,T,T,T,F] rfl rfl (any_of HT_.out (by kernel_rfl)) (fun _ _ _ h=>h) (Or.inl ⟨by rfl,?_⟩) ?_ ?_
               rotate_left
               ·intro w'
                go_simp
                with_reducible rfl
               rotate_left
               ·simp only [Act.put,zz21,zz22,zz23,i64_w,i32_w]
                rfl
               refine last_ (i:=8) (N:=none) #[T,T,T,T,T,T,T,T,T] rfl rfl (one_of HT_.out (by kernel_rfl)) (by decide) (fun K hK=>?_)
               refine skip_ (w1:=?_) (by rfl) rfl ?_ ?_
               rotate_left
               ·go_simp
                rfl
               refine hK.out _ _ ?_
               clear hK K
               refine done_ (done_of HT_.out (by kernel_rfl)) ?_
               try go_wp2
               have n0_:Aside0 (Kd.S (Kd.slice 4 Kd.bool) 92 (w28.setCell ⟨go20,(((rd_T80 l0_1 x22_2).f1):Int).toNat,none⟩ (.bool true)) w.heap.size (fun _=>True) (.slice (some ad123) x3_2.length co29) y126):=⟨by (with_reducible repeat (first | apply zz15 | apply zz16 | apply zz17));exact HQ30.out⟩
               have n1_:Aside0 ((w28.setCell ⟨go20,(((rd_T80 l0_1 x22_2).f1):Int).toNat,none⟩ (.bool true)).heap[gb114]?=some (.cells #[.int .i64 a0_0,.slice (some ad121) l0_1.length c0_1] 30 (0,0))):=⟨by (with_reducible repeat (first | refine zz6 ?_ _ | refine zz7 ?_ | refine zz8 ?_ _));refine blk_far ?_ (by have h_:=Kd.R_ne HL123_0.out BK114.out (by decide);intro e_;exact h_ (by rw [e_];rfl)) _;(with_reducible repeat (first | refine zz6 ?_ _ | refine zz7 ?_ | refine zz8 ?_ _));exact BK114.out⟩
               have n2_:Aside0 ((w28.setCell ⟨go20,(((rd_T80 l0_1 x22_2).f1):Int).toNat,none⟩ (.bool true)).heap[gb122]?=some (.cells #[.int .i64 ((rd_T80 l0_1 x22_2).f0),.int .i64 ((rd_T80 l0_1 x22_2).f1)] 80 (0,0))):=⟨by (with_reducible repeat (first | refine zz6 ?_ _ | refine zz7 ?_ | refine zz8 ?_ _));refine blk_far ?_ (by have h_:=Kd.R_ne HL123_0.out BK122.out (by decide);intro e_;exact h_ (by rw [e_];rfl)) _;(with_reducible repeat (first | refine zz6 ?_ _ | refine zz7 ?_ | refine zz8 ?_ _));exact BK122.out⟩
               have n3_:Aside0 (Below w.heap.size w (w28.setCell ⟨go20,(((rd_T80 l0_1 x22_2).f1):Int).toNat,none⟩ (.bool true))):=⟨by repeat first | exact HB.out | apply zz2 | apply zz0 | apply zz1 | refine zz3 ?_ GB20.out | refine zz3 ?_ GE114.out | refine zz3 ?_ GE122.out⟩
               (try clear HO_3)
               (try clear BK114)
               (try clear BK122)
               (try clear HB)
               generalize (w28.setCell ⟨go20,(((rd_T80 l0_1 x22_2).f1):Int).toNat,none⟩ (.bool true))=w32 at n0_ n1_ n2_ n3_ ⊢
               have HO_3:=n0_
               have BK114:=n1_
               have BK122:=n2_
               have HB:=n3_
               clear n0_ n1_ n2_ n3_
               have n0_:=zz31 (zz17 HO_3.out)
               have n1_:=zz31 (zz7 BK114.out)
               have n2_:=zz31 (zz7 BK122.out)
               have n3_:=zz31 (zz1 HB.out)
               clear HO_3
               clear BK114
               clear BK122
               clear HB
               have HO_3:=n0_
               have BK114:=n1_
               have BK122:=n2_
               have HB:=n3_
               clear n0_ n1_ n2_ n3_
               have p127:0≤(((rd_T80 l0_1 x22_2).f1):Int):=zz29 (by first | (with_reducible assumption) | assumption)
               have q127:((rd_T80 l0_1 x22_2).f1) < (y126.length:Int):=(by have h_:(((rd_T80 l0_1 x22_2).f1):Int) < ((x3_2.length:Int):Int):=zz29 (by first | (with_reducible assumption) | assumption);first | (have e_:=(Kd.S_reads' HO_3.out).1;omega) | simpa only [Ny126.out,List.length_set] using h_)
               have ql127:((((rd_T80 l0_1 x22_2).f1):Int) < ((x3_2.length:Int):Int))=True:=eq_true (zz29 (by first | (with_reducible assumption) | assumption))
               obtain ⟨ad127,A127_0,c127_0,e127,hx127_0,hl127_0,hi127_0⟩:=at_L4 (Kd.S_reads' HO_3.out).2.2 ((rd_T80 l0_1 x22_2).f1) p127 q127
               obtain rfl:ad123=ad127:=(by injection e127)
               obtain ⟨ce127,hce127,hMe127,hcc127⟩:=Kd.S_get HO_3.out [] ((rd_T80 l0_1 x22_2).f1) p127 (by first | exact q127 | exact zz29 (by first | (with_reducible assumption) | assumption) | (have e_:=(Kd.S_reads' HO_3.out).1;omega))
               obtain ⟨ve127_0,rfl,ge127_0⟩:=hMe127
               have hv127_0:=hcc127 0 _ rfl
               rw [Nat.add_zero,show ((Kd.slice 4 Kd.bool)).sz=1 from rfl,Nat.mul_one] at hv127_0
               replace hv127_0:=Option.some.inj (hv127_0.symm.trans hx127_0)
               rw [hv127_0] at ge127_0
               have HL127_0:=zz31 (show Kd.R Kd.bool 4 _ _ _ _ (rd_L4 y126 ((rd_T80 l0_1 x22_2).f1)) from ge127_0)
               clear hv127_0 ge127_0
               have HX127_0:=zz31 hx127_0
               clear hcc127 hce127
               have HR127_0:=zz31 hi127_0
               have HC127_0:=zz31 hl127_0
               clear hi127_0 hl127_0
               replace p127:=eq_true p127
               replace q127:=eq_true q127
               have p23:0≤(((rd_T80 l0_1 x22_2).f0):Int):=zz29 (by first | (with_reducible assumption) | assumption)
               have q23:(((rd_T80 l0_1 x22_2).f0):Int) < (((rd_L4 y126 ((rd_T80 l0_1 x22_2).f1)).length:Int):Int):=zz29 (by first | (with_reducible assumption) | assumption)
               obtain ⟨go23,co23,eo23,gb23,gl23,cl23,HG23⟩:=Kd.R_form HL127_0.out (by omega)
               (first | cases eo23 | (injection eo23 with ea_ en_ ec_;(first | subst ea_ | (injection ea_ with ea_;subst ea_));subst ec_;clear en_))
               have GB23:=zz31 gb23
               have GG23:=zz31 HG23
               clear gb23 gl23 HG23
               obtain ⟨hx23_0,hf23_0⟩:=Kd.R_celln false HL127_0.out (((rd_T80 l0_1 x22_2).f0):Int) p23 q23
               replace p23:=eq_true p23
               replace q23:=eq_true q23
               have hq34:(((rd_T80 l0_1 x22_2).f1):Int) < (y126.length:Int):=(by have h_:(((rd_T80 l0_1 x22_2).f1):Int) < ((x3_2.length:Int):Int):=zz29 (by first | (with_reducible assumption) | assumption);first | exact h_ | (have e_:=(Kd.S_reads' HO_3.out).1;omega) | simpa only [Ny126.out,List.length_set] using h_)
               obtain ⟨oki34,ce34,hcl34,hM34,hcc34,hok34,hbk34⟩:=Kd.S_borrow HO_3.out [] (((rd_T80 l0_1 x22_2).f1):Int) (zz29 (by first | (with_reducible assumption) | assumption)) (by first | exact hq34 | (have e_:=(Kd.S_reads' HO_3.out).1;omega))
               obtain ⟨ve34_0,rfl,ge34_0⟩:=hM34
               have hv34:=hcc34 0 _ rfl
               rw [Nat.add_zero,show ((Kd.slice 4 Kd.bool)).sz=1 from rfl,Nat.mul_one] at hv34
               replace hv34:=Option.some.inj (hv34.symm.trans HX127_0.out)
               subst hv34
               clear hcc34 hcl34
               replace ge34_0:=(show Kd.R Kd.bool 4 _ _ _ _ (rd_L4 y126 ((rd_T80 l0_1 x22_2).f1)) from ge34_0)
               have HP34:=Kd.R_putg ge34_0 (((rd_T80 l0_1 x22_2).f0):Int) true
               rw [← Ny128.out] at HP34
               have HS34:=hbk34 HP34.2 (fun k_ e_=>by injection e_ with e_;subst e_;exact ge34_0.1 _ rfl) (x':=y128) (Kd.M_row HP34.1)
               rw [← Ny130.out] at HS34
               have HQ34:=zz31 HS34
               clear HP34 HS34 hbk34 hok34
               refine start_ (n:=9) (S:=fun w'=>w'.cell? ⟨gb122,0,none⟩=some (.int .i64 ((rd_T80 l0_1 x22_2).f0))∧w'.cell? ⟨gb122,1,none⟩=some (.int .i64 ((rd_T80 l0_1 x22_2).f1))∧w'.cell? (ad123.add (((rd_T80 l0_1 x22_2).f1)).toNat)=some (.slice (some ⟨go23,0,none⟩) (rd_L4 y126 ((rd_T80 l0_1 x22_2).f1)).length c127_0)) (ds:=[8]) #[F,F,F,F,F,F,F,F,F] (by kernel_rfl) rfl rfl ⟨(zz9 BK122.out 0).trans rfl,(zz9 BK122.out 1).trans rfl,hx127_0⟩ (fun hHeld=>?_);refine with_tabW spec_paTable.tab10 spec_paTable.bits10 (fun HT_ HW_=>?_)
               generalize w32.drew=w33 at HO_3 BK114 BK122 HB GG23 HL127_0 HQ30 HQ34 HR127_0 HX127_0 hf23_0 hx127_0 hx23_0 hHeld ⊢
               refine pure_ (i:=0) (N:=some 34) (v:=?_) (a':=?_) #[T,F,F,F,F,F,F,F,F] rfl rfl (any_of HT_.out (by kernel_rfl)) (fun _ _ _ h=>h) (Or.inl ⟨by rfl,?_⟩) ?_ ?_
               rotate_left
               ·intro w'
                go_simp
                with_reducible rfl
               rotate_left
               ·simp only [Act.put,zz21,zz22,zz23,i64_w,i32_w]
                rfl
               refine pure_ (i:=1) (N:=some 35) (v:=?_) (a':=?_) #[T,T,F,F,F,F,F,F,F] rfl rfl (any_of HT_.out (by kernel_rfl)) (fun _ _ _ h=>h) (Or.inl ⟨by rfl,?_⟩) ?_ ?_
               rotate_left
               ·intro w'
                go_simp
                with_reducible rfl
               rotate_left
               ·simp only [Act.put,zz21,zz22,zz23,i64_w,i32_w]
                rfl
               refine pure_ (i:=5) (N:=some 39) (v:=?_) (a':=?_) #[T,T,F,F,F,T,F,F,F] rfl rfl (any_of HT_.out (by kernel_rfl)) (fun _ _ _ h=>h) (Or.inl ⟨by rfl,?_⟩) ?_ ?_
               rotate_left
               ·intro w'
                go_simp
                with_reducible rfl
               rotate_left
               ·simp only [Act.put,zz21,zz22,zz23,i64_w,i32_w]
                rfl
               refine take_ (i:=2) (N:=some 36) (v:=?_) (a':=?_) #[T,T,T,F,F,T,F,F,F] rfl rfl (take_ofW HT_.out HW_.out (by kernel_rfl)) (fun _ _ _ h=>h) (Or.inl ⟨by rfl,?_⟩) hHeld ?_ ?_
               rotate_left
               ·rintro w' ⟨s0,s1,s2⟩
                go_simp
                with_reducible rfl
               rotate_left
               ·simp only [Act.put,zz21,zz22,zz23,i64_w,i32_w]
                rfl
               refine pure_ (i:=3) (N:=some 37) (v:=?_) (a':=?_) #[T,T,T,T,F,T,F,F,F] rfl rfl (any_of HT_.out (by kernel_rfl)) (fun _ _ _ h=>h) (Or.inl ⟨by rfl,?_⟩) ?_ ?_
               rotate_left
               ·intro w'
                go_simp
                with_reducible rfl
               rotate_left
               ·simp only [Act.put,zz21,zz22,zz23,i64_w,i32_w]
                rfl
               refine take_ (i:=4) (N:=some 38) (v:=?_) (a':=?_) #[T,T,T,T,T,T,F,F,F] rfl rfl (take_ofW HT_.out HW_.out (by kernel_rfl)) (fun _ _ _ h=>h) (Or.inl ⟨by rfl,?_⟩) hHeld ?_ ?_
               rotate_left
               ·rintro w' ⟨s0,s1,s2⟩
                go_simp
                with_reducible rfl
               rotate_left
               ·simp only [Act.put,zz21,zz22,zz23,i64_w,i32_w]
                rfl
               refine take_ (i:=6) (N:=some 40) (v:=?_) (a':=?_) #[T,T,T,T,T,T,T,F,F] rfl rfl (take_ofW HT_.out HW_.out (by kernel_rfl)) (fun _ _ _ h=>h) (Or.inl ⟨by rfl,?_⟩) hHeld ?_ ?_
               rotate_left
               ·rintro w' ⟨s0,s1,s2⟩
                go_simp
                with_reducible rfl
               rotate_left
               ·simp only [Act.put,zz21,zz22,zz23,i64_w,i32_w]
                rfl
               refine pure_ (i:=7) (N:=some 41) (v:=?_) (a':=?_) #[T,T,T,T,T,T,T,T,F] rfl rfl (any_of HT_.out (by kernel_rfl)) (fun _ _ _ h=>h) (Or.inl ⟨by rfl,?_⟩) ?_ ?_
               rotate_left
               ·intro w'
                go_simp
                with_reducible rfl
               rotate_left
               ·simp only [Act.put,zz21,zz22,zz23,i64_w,i32_w]
                rfl
               refine last_ (i:=8) (N:=none) #[T,T,T,T,T,T,T,T,T] rfl rfl (one_of HT_.out (by kernel_rfl)) (by decide) (fun K hK=>?_)
               refine skip_ (w1:=?_) (by rfl) rfl ?_ ?_
               rotate_left
               ·go_simp
                rfl
               refine hK.out _ _ ?_
               clear hK K
               refine done_ (done_of HT_.out (by kernel_rfl)) ?_
               try go_wp2
               go_roundg k2
               case measure=>have:=HK1.out;have:=HK2.out;omega
               case rel=>exact ⟨(y130),(wrap64 (x22_2+1)),(by first | rfl | (simp;done) | (simp [*];done)),H',⟨by have:=HK1.out;have:=HK2.out;omega⟩,⟨by (with_reducible repeat (first | apply zz15 | apply zz16 | apply zz17));exact HQ34.out⟩,⟨by (with_reducible repeat (first | refine zz6 ?_ _ | refine zz7 ?_ | refine zz8 ?_ _));refine blk_far ?_ (by have h_:=Kd.R_ne HL127_0.out BK114.out (by decide);intro e_;exact h_ (by rw [e_];rfl)) _;(with_reducible repeat (first | refine zz6 ?_ _ | refine zz7 ?_ | refine zz8 ?_ _));exact BK114.out⟩,⟨by repeat first | exact HB.out | apply zz2 | apply zz0 | apply zz1 | refine zz3 ?_ GB23.out | refine zz3 ?_ GE114.out | refine zz3 ?_ GE122.out⟩⟩
              ·rw [if_neg c22] at H
               exact absurd H (by simp)
             ·rw [if_neg c21] at H
              exact absurd H (by simp)
            ·rw [if_neg c19] at H
             exact absurd H (by simp)
           ·rw [if_neg c18] at H
            exact absurd H (by simp)
          ·rw [if_neg c17] at H
           exact absurd H (by simp)
         ·rw [if_neg c16] at H
          exact absurd H (by simp)
        ·rw [if_neg c15] at H
         exact absurd H (by simp)
       ·rw [if_neg c14] at H
        exact absurd H (by simp)
      ·rw [if_neg c13] at H
       have c13b0:decide (x22_2 < (l0_1.length:Int))=false:=decide_eq_false c13
       clear c13
       obtain rfl:=Option.some.inj H
       go_wp2
       go_ret
       exact ⟨_,by first | rfl | (simp [errW_none,errW_some] <;> rfl) | (simp [*,errW_none,errW_some] <;> rfl),by (with_reducible repeat (first | apply zz15 | apply zz16 | apply zz17));exact HO_3.out,by repeat first | exact HB.out | apply zz2 | apply zz0 | apply zz1 | refine zz3 ?_ GE114.out⟩

/-! ### laws_toPair: function 80 -/
def laws_toPair.f (a0_0:Int) (a0_1:Int):Option (Int × Int):=some (a0_0,a0_1)
set_option maxHeartbeats 8000000 in
set_option maxRecDepth 100000 in
theorem laws_toPair.calls (a0_0:Int) (a0_1:Int) (r1:Int) (r2:Int) (w:World) (h:laws_toPair.f a0_0 a0_1=some (r1,r2)) :
  Calls Try.prog 80 #[.agg #[.int .i64 a0_0,.int .i64 a0_1]] w fun e w'=>e=.returned (.agg #[.int .i64 r1,.int .i64 r2])∧Below w.heap.size w w':=by
 have hu94:=Try.underlying94
 have hu80:=Try.underlying80
 have HB:=zz31 (Below.refl w.heap.size w)
 have H:(some (a0_0,a0_1))=some (r1,r2):=h
 clear h
 simp only [Option.some.injEq,Prod.mk.injEq] at H
 obtain ⟨rfl,rfl⟩:=H
 go_enter Try.func80,Try.ntmps80
 go_wp2_with (first | ((with_reducible refine gate_dst (N:=1) rfl ?_);refine box_event ?hg (N:=1) ?hd (cs:=#[.int .i64 a0_0,.int .i64 a0_1]) (t:=94) ?hr ?_;(case hd=>rfl);(case hg=>rfl);(case hr=>first | (go_simp;done) | (go_simp;rfl));intro gb159 hg w2 hbox hb;have n0_:=zz31 (zz4 (by repeat first | exact HB.out | apply zz2 | apply zz0 | apply zz1) hb);have n1_:=zz31 (hbox);have n2_:=zz31 ((by rw [hg];exact (zz5 (by repeat first | exact HB.out | apply zz2 | apply zz0 | apply zz1)):w.heap.size≤gb159));have n3_:=zz31 ((by rw [hg];exact (zz5 (by repeat first | exact HB.out | apply zz2 | apply zz0 | apply zz1)):w.heap.size≤gb159));clear HB;have HB:=n0_;have BK159:=n1_;have GW159:=n2_;have GE159:=n3_;clear n0_ n1_ n2_ n3_;clear hb hbox hg) | ((with_reducible refine gate_dst (N:=2) rfl ?_);refine box_event ?hg (N:=2) ?hd (cs:=#[.int .i64 0,.int .i64 0]) (t:=80) ?hr ?_;(case hd=>rfl);(case hg=>rfl);(case hr=>first | (go_simp;done) | (go_simp;rfl));intro gb160 hg w3 hbox hb;have n0_:=zz31 (zz11 (g:=gb159) (o:=.cells #[.int .i64 a0_0,.int .i64 a0_1] 94 (0,0)) (by (with_reducible repeat (first | refine zz6 ?_ _ | refine zz7 ?_ | refine zz8 ?_ _));exact BK159.out) hb);have n1_:=zz31 (zz4 (by repeat first | exact HB.out | apply zz2 | apply zz0 | apply zz1 | refine zz3 ?_ GE159.out) hb);have n2_:=zz31 (hbox);have n3_:=zz31 ((by rw [hg];exact (zz5 (by repeat first | exact HB.out | apply zz2 | apply zz0 | apply zz1 | refine zz3 ?_ GE159.out)):w.heap.size≤gb160));have n4_:=zz31 ((by rw [hg];exact (zz5 (by repeat first | exact HB.out | apply zz2 | apply zz0 | apply zz1 | refine zz3 ?_ GE159.out)):w.heap.size≤gb160));have n5_:=zz31 ((by rw [hg];exact Nat.ne_of_lt (blk_lt (g:=gb159) (o:=.cells #[.int .i64 a0_0,.int .i64 a0_1] 94 (0,0)) (by (with_reducible repeat (first | refine zz6 ?_ _ | refine zz7 ?_ | refine zz8 ?_ _));exact BK159.out)):gb159 ≠ gb160));have n6_:=zz31 ((by rw [hg];exact Nat.ne_of_gt (blk_lt (g:=gb159) (o:=.cells #[.int .i64 a0_0,.int .i64 a0_1] 94 (0,0)) (by (with_reducible repeat (first | refine zz6 ?_ _ | refine zz7 ?_ | refine zz8 ?_ _));exact BK159.out)):gb160 ≠ gb159));clear BK159;clear HB;have BK159:=n0_;have HB:=n1_;have BK160:=n2_;have GW160:=n3_;have GE160:=n4_;have NB159_160:=n5_;have NB160_159:=n6_;clear n0_ n1_ n2_ n3_ n4_ n5_ n6_;clear hb hbox hg) | ((with_reducible refine gate_dst (N:=3) rfl ?_);refine box_event ?hg (N:=3) ?hd (cs:=#[.int .i64 0,.int .i64 0]) (t:=80) ?hr ?_;(case hd=>rfl);(case hg=>rfl);(case hr=>first | (go_simp;done) | (go_simp;rfl));intro gb161 hg w4 hbox hb;have n0_:=zz31 (zz11 (g:=gb159) (o:=.cells #[.int .i64 a0_0,.int .i64 a0_1] 94 (0,0)) (by (with_reducible repeat (first | refine zz6 ?_ _ | refine zz7 ?_ | refine zz8 ?_ _));exact BK159.out) hb);have n1_:=zz31 (zz11 (g:=gb160) (o:=.cells #[.int .i64 0,.int .i64 0] 80 (0,0)) (by (with_reducible repeat (first | refine zz6 ?_ _ | refine zz7 ?_ | refine zz8 ?_ _));exact BK160.out) hb);have n2_:=zz31 (zz4 (by repeat first | exact HB.out | apply zz2 | apply zz0 | apply zz1 | refine zz3 ?_ GE159.out | refine zz3 ?_ GE160.out) hb);have n3_:=zz31 (hbox);have n4_:=zz31 ((by rw [hg];exact (zz5 (by repeat first | exact HB.out | apply zz2 | apply zz0 | apply zz1 | refine zz3 ?_ GE159.out | refine zz3 ?_ GE160.out)):w.heap.size≤gb161));have n5_:=zz31 ((by rw [hg];exact (zz5 (by repeat first | exact HB.out | apply zz2 | apply zz0 | apply zz1 | refine zz3 ?_ GE159.out | refine zz3 ?_ GE160.out)):w.heap.size≤gb161));have n6_:=zz31 ((by rw [hg];exact Nat.ne_of_lt (blk_lt (g:=gb159) (o:=.cells #[.int .i64 a0_0,.int .i64 a0_1] 94 (0,0)) (by (with_reducible repeat (first | refine zz6 ?_ _ | refine zz7 ?_ | refine zz8 ?_ _));exact BK159.out)):gb159 ≠ gb161));have n7_:=zz31 ((by rw [hg];exact Nat.ne_of_gt (blk_lt (g:=gb159) (o:=.cells #[.int .i64 a0_0,.int .i64 a0_1] 94 (0,0)) (by (with_reducible repeat (first | refine zz6 ?_ _ | refine zz7 ?_ | refine zz8 ?_ _));exact BK159.out)):gb161 ≠ gb159));have n8_:=zz31 ((by rw [hg];exact Nat.ne_of_lt (blk_lt (g:=gb160) (o:=.cells #[.int .i64 0,.int .i64 0] 80 (0,0)) (by (with_reducible repeat (first | refine zz6 ?_ _ | refine zz7 ?_ | refine zz8 ?_ _));exact BK160.out)):gb160 ≠ gb161));have n9_:=zz31 ((by rw [hg];exact Nat.ne_of_gt (blk_lt (g:=gb160) (o:=.cells #[.int .i64 0,.int .i64 0] 80 (0,0)) (by (with_reducible repeat (first | refine zz6 ?_ _ | refine zz7 ?_ | refine zz8 ?_ _));exact BK160.out)):gb161 ≠ gb160));clear BK159;clear BK160;clear HB;have BK159:=n0_;have BK160:=n1_;have HB:=n2_;have BK161:=n3_;have GW161:=n4_;have GE161:=n5_;have NB159_161:=n6_;have NB161_159:=n7_;have NB160_161:=n8_;have NB161_160:=n9_;clear n0_ n1_ n2_ n3_ n4_ n5_ n6_ n7_ n8_ n9_;clear hb hbox hg;have hnb5:=NB159_160.out;have hnc5:=NB160_159.out;have hnb6:=NB159_161.out;have hnc6:=NB161_159.out;have hcz7_0:w4.cell? ⟨gb159,0,none⟩=some (.int .i64 a0_0):=(zz9 BK159.out 0).trans rfl;have hcz7_1:w4.cell? ⟨gb159,1,none⟩=some (.int .i64 a0_1):=(zz9 BK159.out 1).trans rfl;have hfz7_0:=zz10 BK159.out 0;have hfz7_1:=zz10 BK159.out 1;have hnb8:=NB161_160.out;have hnc8:=NB160_161.out;have hcz9_0:w4.cell? ⟨gb161,0,none⟩=some (.int .i64 0):=(zz9 BK161.out 0).trans rfl;have hcz9_1:w4.cell? ⟨gb161,1,none⟩=some (.int .i64 0):=(zz9 BK161.out 1).trans rfl;have hfz9_0:=zz10 BK161.out 0;have hfz9_1:=zz10 BK161.out 1;have hcz10_0:w4.cell? ⟨gb160,0,none⟩=some (.int .i64 0):=(zz9 BK160.out 0).trans rfl;have hcz10_1:w4.cell? ⟨gb160,1,none⟩=some (.int .i64 0):=(zz9 BK160.out 1).trans rfl;have hfz10_0:=zz10 BK160.out 0;have hfz10_1:=zz10 BK160.out 1))
 refine bodyPost_ret (results_cell_row rfl _ _ gb160 80 #[.int .i64 a0_0,.int .i64 a0_1] (0,0) _ rfl (by (with_reducible repeat (first | refine zz6 ?_ _ | refine zz7 ?_ | refine zz8 ?_ _));refine blk_put (cs:=#[.int .i64 a0_0,.int .i64 0]) ?_ 1 _ rfl;(with_reducible repeat (first | refine zz6 ?_ _ | refine zz7 ?_ | refine zz8 ?_ _));refine blk_put (cs:=#[.int .i64 0,.int .i64 0]) ?_ 0 _ rfl;(with_reducible repeat (first | refine zz6 ?_ _ | refine zz7 ?_ | refine zz8 ?_ _));refine blk_far ?_ NB160_161.out _;(with_reducible repeat (first | refine zz6 ?_ _ | refine zz7 ?_ | refine zz8 ?_ _));refine blk_far ?_ NB160_161.out _;(with_reducible repeat (first | refine zz6 ?_ _ | refine zz7 ?_ | refine zz8 ?_ _));exact BK160.out) Try.underlying80 rfl (by kernel_rfl)) rfl ?_
 exact ⟨by first | rfl | (simp [errW_none,errW_some] <;> rfl) | (simp [*,errW_none,errW_some] <;> rfl),by repeat first | exact HB.out | apply zz2 | apply zz0 | apply zz1 | refine zz3 ?_ GE159.out | refine zz3 ?_ GE160.out | refine zz3 ?_ GE161.out⟩

/-! ### laws_toPairS: function 44 -/
def laws_toPairS.l0:Nat→List (S94)→List (S80)→Int→Option ((List (S80)))
 | 0,_,_,_=>none
 | k+1,x0,x3,x4=>if x4 < (x0.length:Int) then (if 0≤x4 then ((laws_toPair.f ((rd_T94 x0 x4).f0) ((rd_T94 x0 x4).f1)).bind fun bt166=>(if x4 < (x3.length:Int) then (laws_toPairS.l0 k x0 (x3.set (x4:Int).toNat (⟨bt166.1,bt166.2⟩:S80)) (wrap64 (x4+1))) else (none))) else (none)) else (some x3)
def laws_toPairS.f (k:Nat) (l0:List (S94)):Option ((List (S80))):=if 0≤(l0.length:Int) then (if ((l0.length:Int):Int).toNat≤17592186044416 then (laws_toPairS.l0 k l0 (List.replicate ((l0.length:Int):Int).toNat z80) 0) else (none)) else (none)
theorem laws_toPairS.mono_l:∀ k,(∀ y0 y1 y2,LeO (laws_toPairS.l0 k y0 y1 y2) (laws_toPairS.l0 (k+1) y0 y1 y2))
 | 0=>fun _ _ _ r h=>by simp [laws_toPairS.l0] at h
 | k+1=>by
  have ih0:=laws_toPairS.mono_l k
  ·intro y0 y1 y2
   unfold laws_toPairS.l0
   repeat' first
   | (with_reducible exact ih0 _ _ _)
   | (with_reducible exact LeO.refl _)
   | (with_reducible exact LeO.none _)
   | (with_reducible refine LeO.ite ?_ ?_)
   | (with_reducible refine LeO.bind ?_ (fun _=>?_))
   | exact ih0 _ _ _
   | exact LeO.none _
   | refine LeO.ite ?_ ?_
   | refine LeO.bind ?_ (fun _=>?_)
theorem laws_toPairS.mono:∀ a0 k,LeO (laws_toPairS.f k a0) (laws_toPairS.f (k+1) a0):=by
 intro a0 k
 have ih0:=laws_toPairS.mono_l k
 unfold laws_toPairS.f
 repeat' first
   | (with_reducible exact ih0 _ _ _)
   | (with_reducible exact LeO.refl _)
   | (with_reducible exact LeO.none _)
   | (with_reducible refine LeO.ite ?_ ?_)
   | (with_reducible refine LeO.bind ?_ (fun _=>?_))
   | exact ih0 _ _ _
   | exact LeO.none _
   | refine LeO.ite ?_ ?_
   | refine LeO.bind ?_ (fun _=>?_)
set_option maxHeartbeats 8000000 in
set_option maxRecDepth 100000 in
theorem laws_toPairS.calls (k:Nat) (A0:Option Addr) (c0:Nat) (l0:List (S94)) (r:List (S80)) (w:World) (hr0:Kd.C k94 w A0 l0.length l0) (hc0:l0.length≤c0) (h:laws_toPairS.f k l0=some r) :
  Calls Try.prog 44 #[.slice A0 l0.length c0] w fun e w'=>∃ v0_:Value,e=.returned (v0_)∧Kd.R k80 80 w' w.heap.size (fun _=>True) v0_ r∧Below w.heap.size w w':=by
 have hu94:=Try.underlying94
 have hu80:=Try.underlying80
 have HR0:=zz31 hr0
 have HC0:=zz31 hc0
 clear hr0 hc0
 have HB:=zz31 (Below.refl w.heap.size w)
 have H:(if 0≤(l0.length:Int) then (if ((l0.length:Int):Int).toNat≤17592186044416 then (laws_toPairS.l0 k l0 (List.replicate ((l0.length:Int):Int).toNat z80) 0) else (none)) else (none))=some r:=h
 clear h
 by_cases c2:0≤(l0.length:Int)
 ·rw [if_pos c2] at H
  have c2b0:=eq_true c2
  have c2b1:decide (0≤(l0.length:Int))=true:=decide_eq_true c2
  clear c2
  by_cases c3:((l0.length:Int):Int).toNat≤17592186044416
  ·rw [if_pos c3] at H
   have c3b0:=eq_true c3
   have c3b1:decide (((l0.length:Int):Int).toNat≤17592186044416)=true:=decide_eq_true c3
   clear c3
   obtain ⟨y162,hy162⟩:∃ y_:List (S80),y_=(List.replicate ((l0.length:Int):Int).toNat z80):=⟨_,rfl⟩
   replace H:(laws_toPairS.l0 k l0 y162 0)=some r:=by first | (rw [hy162];with_reducible exact H) | (have H2_:=(Option.bind_some _ _).symm.trans H;rw [hy162];with_reducible exact H2_) | (have H2_:=(Option.bind_some _ _).symm.trans H;with_reducible exact H2_) | with_reducible exact H | (rw [hy162];exact H) | exact H
   have Ny162:=zz31 hy162
   clear hy162
   have H':=zz31 H
   clear H
   go_enter Try.func44,Try.ntmps44
   go_wp2_with (first | ((with_reducible refine gate_dst (N:=7) rfl ?_);refine Kd.R_make k80 _ 80 rfl (N:=7) rfl 28 _ _ rfl (l0.length:Int) rfl rfl Try.underlying28 (.agg #[(.int .i64 0),(.int .i64 0)]) 16 info80 rfl (by decide) (by omega) z80 (ok:=fun _=>True) (okp:=fun _=>True) (k80_mkM _ _ _ z80 ) (fun _ hk=>hk) trivial (zz29 (by first | (with_reducible assumption) | assumption)) (Nat.le_trans (Nat.mul_le_mul_right _ (zz29 (by first | (with_reducible assumption) | assumption):(l0.length:Int).toNat≤17592186044416)) (by omega)) (Below.refl _ _) (Nat.le_refl _) ?_;intro v163 w4 ho5 hb hg_ hnew_;clear hg_ hnew_;(first | rw [← Ny162.out] at ho5 | (simp only [Int.reduceToNat] at ho5;rw [← Ny162.out] at ho5));have n0_:=zz31 (Kd.R_lower ho5 (zz5 (by repeat first | exact HB.out | apply zz2 | apply zz0 | apply zz1)));have n1_:=zz31 (zz4 (by repeat first | exact HB.out | apply zz2 | apply zz0 | apply zz1) hb);clear HB;have HO164:=n0_;have HB:=n1_;clear n0_ n1_;clear hb ho5))
   go_loopg [4] k (fun kq v4 w'=>∃ (x3_1:List (S80)) (x4_1:Int),v4=.int .i64 x4_1∧Aside0 (laws_toPairS.l0 kq l0 x3_1 x4_1=some r)∧Aside0 (kq≤k)∧Aside0 (Kd.R k80 80 w' w.heap.size (fun _=>True) v163 x3_1)∧Aside0 (Below w.heap.size w w'))
   case atStart=>exact ⟨(y162),(0),(by first | rfl | (simp;done) | (simp [*];done)),H',⟨Nat.le_refl _⟩,⟨by (with_reducible repeat (first | apply zz12 | apply zz13 | apply zz14));exact HO164.out⟩,⟨by repeat first | exact HB.out | apply zz2 | apply zz0 | apply zz1⟩⟩
   case round =>
    clear H'
    try clear c2
    try clear c2b0
    try clear c2b1
    try clear p2
    try clear c3
    try clear c3b0
    try clear c3b1
    try clear c4
    obtain ⟨x3_1,x4_1,rfl,HA,HK1,HO_3,HB⟩:=hrel
    cases gk with
    | zero=>exact absurd HA.out (by simp [laws_toPairS.l0])
    | succ k1 =>
     have H:=HA.out
     clear HA
     simp only [laws_toPairS.l0] at H
     by_cases c6:x4_1 < (l0.length:Int)
     ·rw [if_pos c6] at H
      have c6b0:decide (x4_1 < (l0.length:Int))=true:=decide_eq_true c6
      clear c6
      by_cases c7:0≤x4_1
      ·rw [if_pos c7] at H
       have c7b0:decide (0≤x4_1)=true:=decide_eq_true c7
       clear c7
       replace H:=zz30.mp H
       obtain ⟨⟨t166,t167⟩,A80,H⟩:=H
       replace H:(if x4_1 < (x3_1.length:Int) then (laws_toPairS.l0 k1 l0 (x3_1.set (x4_1:Int).toNat (⟨t166,t167⟩:S80)) (wrap64 (x4_1+1))) else (none))=some r:=H
       have A8:=zz31 A80
       clear A80
       by_cases c9:x4_1 < (x3_1.length:Int)
       ·rw [if_pos c9] at H
        have c9b0:decide (x4_1 < (x3_1.length:Int))=true:=decide_eq_true c9
        clear c9
        obtain ⟨y168,hy168⟩:∃ y_:List (S80),y_=(x3_1.set (x4_1:Int).toNat (⟨t166,t167⟩:S80)):=⟨_,rfl⟩
        replace H:(laws_toPairS.l0 k1 l0 y168 (wrap64 (x4_1+1)))=some r:=by first | (rw [hy168];with_reducible exact H) | (have H2_:=(Option.bind_some _ _).symm.trans H;rw [hy168];with_reducible exact H2_) | (have H2_:=(Option.bind_some _ _).symm.trans H;with_reducible exact H2_) | with_reducible exact H | (rw [hy168];exact H) | exact H
        have Ny168:=zz31 hy168
        clear hy168
        have H':=zz31 H
        clear H
        have p165:0≤(x4_1:Int):=zz29 (by first | (with_reducible assumption) | assumption)
        have q165:x4_1 < (l0.length:Int):=zz29 (by first | (with_reducible assumption) | assumption)
        obtain ⟨ad165,e165,hx165_0,hx165_1⟩:=at_T94 HR0.out x4_1 p165 q165
        cases e165
        try replace hx165_0:=(HB.out.cell (World.block_lt_of_cell? w _ hx165_0)).trans hx165_0
        try replace hx165_1:=(HB.out.cell (World.block_lt_of_cell? w _ hx165_1)).trans hx165_1
        replace p165:=eq_true p165
        replace q165:=eq_true q165
        go_wp2_with (first | ((with_reducible refine gate_callee (f:=80) rfl ?_);refine goesL_ (some 20) rfl rfl Try.func80 (by kernel_rfl) rfl #[.agg #[.int .i64 ((rd_T94 l0 x4_1).f0),.int .i64 ((rd_T94 l0 x4_1).f1)]] rfl (by (try simp only [zz26,zz27,zz28]);first | done | rfl | (simp only [zz24,zz25];rfl)) ?_;(with_reducible refine (laws_toPair.calls ((rd_T94 l0 x4_1).f0) ((rd_T94 l0 x4_1).f1) t166 t167 _ A8.out).mono ?_);rintro e w11 ⟨rfl,hb⟩;refine ⟨_,rfl,?_⟩;have n0_:=zz31 (Kd.R_below (by (with_reducible repeat (first | apply zz12 | apply zz13 | apply zz14));exact HO_3.out) hb);have n1_:=zz31 (zz4 (by repeat first | exact HB.out | apply zz2 | apply zz0 | apply zz1) hb);clear HO_3;clear HB;have HO_3:=n0_;have HB:=n1_;clear n0_ n1_;(try clear hb);(try clear hb2);(try clear hk);(try clear hi);have p10:0≤(x4_1:Int):=zz29 (by first | (with_reducible assumption) | assumption);have q10:(x4_1:Int) < ((x3_1.length:Int):Int):=zz29 (by first | (with_reducible assumption) | assumption);obtain ⟨go10,co10,eo10,gb10,gl10,cl10,HG10⟩:=Kd.R_form HO_3.out (by omega);(first | cases eo10 | (injection eo10 with ea_ en_ ec_;(first | subst ea_ | (injection ea_ with ea_;subst ea_));subst ec_;clear en_));have GB10:=zz31 gb10;have GG10:=zz31 HG10;clear gb10 gl10 HG10;obtain ⟨ce10,hcl10,hM10,hcc10,hfr10⟩:=Kd.R_elem HO_3.out z80 (x4_1:Int) p10 q10;obtain rfl:=k80_openM hM10;have hx10_0:w11.cell? ⟨go10,(x4_1:Int).toNat * 2,none⟩=some (.int .i64 ((rd_T80 x3_1 x4_1).f0)):=hcc10 0 _ rfl;have hx10_1:w11.cell? ⟨go10,(x4_1:Int).toNat * 2+1,none⟩=some (.int .i64 ((rd_T80 x3_1 x4_1).f1)):=hcc10 1 _ rfl;have hf10_0:w11.frozen? ⟨go10,(x4_1:Int).toNat * 2,none⟩=false:=hfr10 0;have hf10_1:w11.frozen? ⟨go10,(x4_1:Int).toNat * 2+1,none⟩=false:=hfr10 1;clear hcl10 hcc10 hfr10 hM10;replace p10:=eq_true p10;replace q10:=eq_true q10;have HX12:=zz31 (show Kd.R k80 80 w11 w.heap.size (fun _=>True) (.slice (some ⟨go10,0,none⟩) x3_1.length co10) x3_1 from (by (with_reducible repeat (first | apply zz12 | apply zz13 | apply zz14));exact HO_3.out));obtain ⟨ce12,hcl12,hM12,hcc12,hfr12⟩:=Kd.R_elem HX12.out z80 (x4_1:Int) (zz29 (by first | (with_reducible assumption) | assumption)) (by have h_:(x4_1:Int) < ((x3_1.length:Int):Int):=zz29 (by first | (with_reducible assumption) | assumption);first | exact h_ | (have e_:=(Kd.R_reads' HO_3.out).1;omega) | simpa using h_);obtain rfl:=k80_openM hM12;have HP12:=Kd.R_seg HX12.out (x4_1:Int) (zz29 (by first | (with_reducible assumption) | assumption)) (by have h_:(x4_1:Int) < ((x3_1.length:Int):Int):=zz29 (by first | (with_reducible assumption) | assumption);first | exact h_ | (have e_:=(Kd.R_reads' HO_3.out).1;omega) | simpa using h_) (seg:=[.int .i64 t166,.int .i64 t167]) (j:=0) hcl12 hcc12 (show 2≤2 from by decide) (x':=(⟨t166,t167⟩:S80)) (k80_mkM _ _ _ (⟨t166,t167⟩:S80) ) (fun _ hk=>hk);have hx12_0:=hcc12 0 _ rfl;(try simp only [show (k80).sz=2 from rfl,Nat.mul_one,Nat.add_zero] at hx12_0);have hf12_0:=hfr12 0;(try simp only [show (k80).sz=2 from rfl,Nat.mul_one,Nat.add_zero] at hf12_0);have hx12_1:=hcc12 1 _ rfl;(try simp only [show (k80).sz=2 from rfl,Nat.mul_one,Nat.add_zero] at hx12_1);have hf12_1:=hfr12 1;(try simp only [show (k80).sz=2 from rfl,Nat.mul_one,Nat.add_zero] at hf12_1);clear hcl12 hcc12 hfr12 hM12) | ((with_reducible refine gate_store (t:=80) (p:=21) rfl ?_);refine store_event (t:=80) (p:=21) (v:=?vo_w13) (w1:=((w11.setCell ⟨go10,(x4_1:Int).toNat * 2,none⟩ (.int .i64 t166)).setCell ⟨go10,(x4_1:Int).toNat * 2+1,none⟩ (.int .i64 t167))) ?hg ?ho ?hn ?hr ?_;(case ho=>rfl);(case hg=>rfl);(case hn=>rfl);(case hr=>first | (go_simp;done) | (go_simp;rfl));intro w13 hw;have hg:w11.grownBy w13 (some go10):=(by rw [hw];exact HP12.2);have hp_:Kd.R k80 80 w13 w.heap.size (fun _=>True) (.slice (some ⟨go10,0,none⟩) x3_1.length co10) y168:=(by rw [hw,Ny168.out];exact HP12.1);clear HP12;have n0_:=zz31 (hp_);have n1_:=zz31 ((by rw [hw];exact zz3 (zz3 (HB.out) GB10.out) GB10.out:Below w.heap.size w w13));clear HO_3;clear HB;have HO_3:=n0_;have HB:=n1_;clear n0_ n1_;clear hg hw hp_))
        go_roundg k1
        case measure=>have:=HK1.out;omega
        case rel=>exact ⟨(y168),(wrap64 (x4_1+1)),(by first | rfl | (simp;done) | (simp [*];done)),H',⟨by have:=HK1.out;omega⟩,⟨by (with_reducible repeat (first | apply zz12 | apply zz13 | apply zz14));exact HO_3.out⟩,⟨by repeat first | exact HB.out | apply zz2 | apply zz0 | apply zz1⟩⟩
       ·rw [if_neg c9] at H
        exact absurd H (by simp)
      ·rw [if_neg c7] at H
       exact absurd H (by simp)
     ·rw [if_neg c6] at H
      have c6b0:decide (x4_1 < (l0.length:Int))=false:=decide_eq_false c6
      clear c6
      obtain rfl:=Option.some.inj H
      go_wp2
      go_ret
      exact ⟨_,by first | rfl | (simp [errW_none,errW_some] <;> rfl) | (simp [*,errW_none,errW_some] <;> rfl),by (with_reducible repeat (first | apply zz12 | apply zz13 | apply zz14));exact HO_3.out,by repeat first | exact HB.out | apply zz2 | apply zz0 | apply zz1⟩
  ·rw [if_neg c3] at H
   exact absurd H (by simp)
 ·rw [if_neg c2] at H
  exact absurd H (by simp)

/-! ### laws_toParty: function 14 -/
def laws_toParty.f (k:Nat) (a0_0:Int) (l0_1:List (S94)):Option (Int × (List (S80))):=(laws_toPairS.f k l0_1).bind fun t172=>(some (a0_0,t172))
theorem laws_toParty.mono:∀ a0 a1 k,LeO (laws_toParty.f k a0 a1) (laws_toParty.f (k+1) a0 a1):=by
 intro a0 a1 k
 unfold laws_toParty.f
 repeat' first
   | (with_reducible exact laws_toPairS.mono _ _)
   | (with_reducible exact LeO.refl _)
   | (with_reducible exact LeO.none _)
   | (with_reducible refine LeO.ite ?_ ?_)
   | (with_reducible refine LeO.bind ?_ (fun _=>?_))
   | exact laws_toPairS.mono _ _
   | exact LeO.none _
   | refine LeO.ite ?_ ?_
   | refine LeO.bind ?_ (fun _=>?_)
set_option maxHeartbeats 8000000 in
set_option maxRecDepth 100000 in
theorem laws_toParty.calls (k:Nat) (a0_0:Int) (A0_1:Option Addr) (c0_1:Nat) (l0_1:List (S94)) (r1:Int) (r2:List (S80)) (w:World) (hr0_1:Kd.C k94 w A0_1 l0_1.length l0_1) (hc0_1:l0_1.length≤c0_1) (h:laws_toParty.f k a0_0 l0_1=some (r1,r2)) :
  Calls Try.prog 14 #[.agg #[.int .i64 a0_0,.slice A0_1 l0_1.length c0_1]] w fun e w'=>∃ v1_:Value,e=.returned (.agg #[.int .i64 r1,v1_])∧Kd.R k80 80 w' w.heap.size (fun _=>True) v1_ r2∧Below w.heap.size w w':=by
 have hu24:=Try.underlying24
 have hu30:=Try.underlying30
 have HR0_1:=zz31 hr0_1
 have HC0_1:=zz31 hc0_1
 clear hr0_1 hc0_1
 have HB:=zz31 (Below.refl w.heap.size w)
 have H:((laws_toPairS.f k l0_1).bind fun t172=>(some (a0_0,t172)))=some (r1,r2):=h
 clear h
 replace H:=zz30.mp H
 obtain ⟨t172,A20,H⟩:=H
 replace H:(some (a0_0,t172))=some (r1,r2):=H
 have A2:=zz31 A20
 clear A20
 simp only [Option.some.injEq,Prod.mk.injEq] at H
 obtain ⟨rfl,rfl⟩:=H
 go_enter Try.func14,Try.ntmps14
 go_wp2_with (first | ((with_reducible refine gate_dst (N:=1) rfl ?_);refine box_event ?hg (N:=1) ?hd (cs:=#[.int .i64 a0_0,.slice A0_1 l0_1.length c0_1]) (t:=24) ?hr ?_;(case hd=>rfl);(case hg=>rfl);(case hr=>first | (go_simp;done) | (go_simp;rfl));intro gb169 hg w3 hbox hb;have n0_:=zz31 (zz4 (by repeat first | exact HB.out | apply zz2 | apply zz0 | apply zz1) hb);have n1_:=zz31 (hbox);have n2_:=zz31 ((by rw [hg];exact (zz5 (by repeat first | exact HB.out | apply zz2 | apply zz0 | apply zz1)):w.heap.size≤gb169));have n3_:=zz31 ((by rw [hg];exact (zz5 (by repeat first | exact HB.out | apply zz2 | apply zz0 | apply zz1)):w.heap.size≤gb169));clear HB;have HB:=n0_;have BK169:=n1_;have GW169:=n2_;have GE169:=n3_;clear n0_ n1_ n2_ n3_;clear hb hbox hg) | ((with_reducible refine gate_dst (N:=2) rfl ?_);refine box_event ?hg (N:=2) ?hd (cs:=#[.int .i64 0,.slice none 0 0]) (t:=30) ?hr ?_;(case hd=>rfl);(case hg=>rfl);(case hr=>first | (go_simp;done) | (go_simp;rfl));intro gb170 hg w4 hbox hb;have n0_:=zz31 (zz11 (g:=gb169) (o:=.cells #[.int .i64 a0_0,.slice A0_1 l0_1.length c0_1] 24 (0,0)) (by (with_reducible repeat (first | refine zz6 ?_ _ | refine zz7 ?_ | refine zz8 ?_ _));exact BK169.out) hb);have n1_:=zz31 (zz4 (by repeat first | exact HB.out | apply zz2 | apply zz0 | apply zz1 | refine zz3 ?_ GE169.out) hb);have n2_:=zz31 (hbox);have n3_:=zz31 ((by rw [hg];exact (zz5 (by repeat first | exact HB.out | apply zz2 | apply zz0 | apply zz1 | refine zz3 ?_ GE169.out)):w.heap.size≤gb170));have n4_:=zz31 ((by rw [hg];exact (zz5 (by repeat first | exact HB.out | apply zz2 | apply zz0 | apply zz1 | refine zz3 ?_ GE169.out)):w.heap.size≤gb170));have n5_:=zz31 ((by rw [hg];exact Nat.ne_of_lt (blk_lt (g:=gb169) (o:=.cells #[.int .i64 a0_0,.slice A0_1 l0_1.length c0_1] 24 (0,0)) (by (with_reducible repeat (first | refine zz6 ?_ _ | refine zz7 ?_ | refine zz8 ?_ _));exact BK169.out)):gb169 ≠ gb170));have n6_:=zz31 ((by rw [hg];exact Nat.ne_of_gt (blk_lt (g:=gb169) (o:=.cells #[.int .i64 a0_0,.slice A0_1 l0_1.length c0_1] 24 (0,0)) (by (with_reducible repeat (first | refine zz6 ?_ _ | refine zz7 ?_ | refine zz8 ?_ _));exact BK169.out)):gb170 ≠ gb169));clear BK169;clear HB;have BK169:=n0_;have HB:=n1_;have BK170:=n2_;have GW170:=n3_;have GE170:=n4_;have NB169_170:=n5_;have NB170_169:=n6_;clear n0_ n1_ n2_ n3_ n4_ n5_ n6_;clear hb hbox hg) | ((with_reducible refine gate_dst (N:=3) rfl ?_);refine box_event ?hg (N:=3) ?hd (cs:=#[.int .i64 0,.slice none 0 0]) (t:=30) ?hr ?_;(case hd=>rfl);(case hg=>rfl);(case hr=>first | (go_simp;done) | (go_simp;rfl));intro gb171 hg w5 hbox hb;have n0_:=zz31 (zz11 (g:=gb169) (o:=.cells #[.int .i64 a0_0,.slice A0_1 l0_1.length c0_1] 24 (0,0)) (by (with_reducible repeat (first | refine zz6 ?_ _ | refine zz7 ?_ | refine zz8 ?_ _));exact BK169.out) hb);have n1_:=zz31 (zz11 (g:=gb170) (o:=.cells #[.int .i64 0,.slice none 0 0] 30 (0,0)) (by (with_reducible repeat (first | refine zz6 ?_ _ | refine zz7 ?_ | refine zz8 ?_ _));exact BK170.out) hb);have n2_:=zz31 (zz4 (by repeat first | exact HB.out | apply zz2 | apply zz0 | apply zz1 | refine zz3 ?_ GE169.out | refine zz3 ?_ GE170.out) hb);have n3_:=zz31 (hbox);have n4_:=zz31 ((by rw [hg];exact (zz5 (by repeat first | exact HB.out | apply zz2 | apply zz0 | apply zz1 | refine zz3 ?_ GE169.out | refine zz3 ?_ GE170.out)):w.heap.size≤gb171));have n5_:=zz31 ((by rw [hg];exact (zz5 (by repeat first | exact HB.out | apply zz2 | apply zz0 | apply zz1 | refine zz3 ?_ GE169.out | refine zz3 ?_ GE170.out)):w.heap.size≤gb171));have n6_:=zz31 ((by rw [hg];exact Nat.ne_of_lt (blk_lt (g:=gb169) (o:=.cells #[.int .i64 a0_0,.slice A0_1 l0_1.length c0_1] 24 (0,0)) (by (with_reducible repeat (first | refine zz6 ?_ _ | refine zz7 ?_ | refine zz8 ?_ _));exact BK169.out)):gb169 ≠ gb171));have n7_:=zz31 ((by rw [hg];exact Nat.ne_of_gt (blk_lt (g:=gb169) (o:=.cells #[.int .i64 a0_0,.slice A0_1 l0_1.length c0_1] 24 (0,0)) (by (with_reducible repeat (first | refine zz6 ?_ _ | refine zz7 ?_ | refine zz8 ?_ _));exact BK169.out)):gb171 ≠ gb169));have n8_:=zz31 ((by rw [hg];exact Nat.ne_of_lt (blk_lt (g:=gb170) (o:=.cells #[.int .i64 0,.slice none 0 0] 30 (0,0)) (by (with_reducible repeat (first | refine zz6 ?_ _ | refine zz7 ?_ | refine zz8 ?_ _));exact BK170.out)):gb170 ≠ gb171));have n9_:=zz31 ((by rw [hg];exact Nat.ne_of_gt (blk_lt (g:=gb170) (o:=.cells #[.int .i64 0,.slice none 0 0] 30 (0,0)) (by (with_reducible repeat (first | refine zz6 ?_ _ | refine zz7 ?_ | refine zz8 ?_ _));exact BK170.out)):gb171 ≠ gb170));clear BK169;clear BK170;clear HB;have BK169:=n0_;have BK170:=n1_;have HB:=n2_;have BK171:=n3_;have GW171:=n4_;have GE171:=n5_;have NB169_171:=n6_;have NB171_169:=n7_;have NB170_171:=n8_;have NB171_170:=n9_;clear n0_ n1_ n2_ n3_ n4_ n5_ n6_ n7_ n8_ n9_;clear hb hbox hg;have hnb6:=NB169_170.out;have hnc6:=NB170_169.out;have hnb7:=NB169_171.out;have hnc7:=NB171_169.out;have hcz8_0:w5.cell? ⟨gb169,0,none⟩=some (.int .i64 a0_0):=(zz9 BK169.out 0).trans rfl;have hcz8_1:w5.cell? ⟨gb169,1,none⟩=some (.slice A0_1 l0_1.length c0_1):=(zz9 BK169.out 1).trans rfl;have hfz8_0:=zz10 BK169.out 0;have hfz8_1:=zz10 BK169.out 1;have hnb9:=NB171_170.out;have hnc9:=NB170_171.out;have hcz10_0:w5.cell? ⟨gb171,0,none⟩=some (.int .i64 0):=(zz9 BK171.out 0).trans rfl;have hcz10_1:w5.cell? ⟨gb171,1,none⟩=some (.slice none 0 0):=(zz9 BK171.out 1).trans rfl;have hfz10_0:=zz10 BK171.out 0;have hfz10_1:=zz10 BK171.out 1) | ((with_reducible refine gate_callee (f:=44) rfl ?_);refine goesL_ (some 9) rfl rfl Try.func44 (by kernel_rfl) rfl #[.slice A0_1 l0_1.length c0_1] rfl (by (try simp only [zz26,zz27,zz28]);first | done | rfl | (simp only [zz24,zz25];rfl)) ?_;(with_reducible refine (laws_toPairS.calls k _ _ l0_1 t172 _ ?side1 ?side2 A2.out).mono ?_);(case side1=>exact Kd.C_below HR0_1.out (by repeat first | exact HB.out | apply zz2 | apply zz0 | apply zz1 | refine zz3 ?_ GE169.out | refine zz3 ?_ GE170.out | refine zz3 ?_ GE171.out));(case side2=>exact HC0_1.out);rintro e w11 ⟨v173,rfl,ho0,hb⟩;refine ⟨_,rfl,?_⟩;have n0_:=zz31 (Kd.R_lower ho0 (zz5 (by repeat first | exact HB.out | apply zz2 | apply zz0 | apply zz1 | refine zz3 ?_ GE169.out | refine zz3 ?_ GE170.out | refine zz3 ?_ GE171.out)));have n1_:=zz31 (zz11 (g:=gb169) (o:=.cells #[.int .i64 a0_0,.slice A0_1 l0_1.length c0_1] 24 (0,0)) (by (with_reducible repeat (first | refine zz6 ?_ _ | refine zz7 ?_ | refine zz8 ?_ _));refine blk_far ?_ NB169_171.out _;(with_reducible repeat (first | refine zz6 ?_ _ | refine zz7 ?_ | refine zz8 ?_ _));exact BK169.out) hb);have n2_:=zz31 (zz11 (g:=gb170) (o:=.cells #[.int .i64 0,.slice none 0 0] 30 (0,0)) (by (with_reducible repeat (first | refine zz6 ?_ _ | refine zz7 ?_ | refine zz8 ?_ _));refine blk_far ?_ NB170_171.out _;(with_reducible repeat (first | refine zz6 ?_ _ | refine zz7 ?_ | refine zz8 ?_ _));exact BK170.out) hb);have n3_:=zz31 (zz11 (g:=gb171) (o:=.cells #[.int .i64 a0_0,.slice none 0 0] 30 (0,0)) (by (with_reducible repeat (first | refine zz6 ?_ _ | refine zz7 ?_ | refine zz8 ?_ _));refine blk_put (cs:=#[.int .i64 0,.slice none 0 0]) ?_ 0 _ rfl;(with_reducible repeat (first | refine zz6 ?_ _ | refine zz7 ?_ | refine zz8 ?_ _));exact BK171.out) hb);have n4_:=zz31 (zz4 (by repeat first | exact HB.out | apply zz2 | apply zz0 | apply zz1 | refine zz3 ?_ GE169.out | refine zz3 ?_ GE170.out | refine zz3 ?_ GE171.out) hb);clear BK169;clear BK170;clear BK171;clear HB;have HO174:=n0_;have BK169:=n1_;have BK170:=n2_;have BK171:=n3_;have HB:=n4_;clear n0_ n1_ n2_ n3_ n4_;(try clear hb);(try clear hb2);(try clear hk);(try clear hi);(try clear ho0);obtain ⟨Ao12,co12,eo12⟩:=Kd.R_slice HO174.out;subst eo12;have hcz13_0:w11.cell? ⟨gb171,0,none⟩=some (.int .i64 a0_0):=(zz9 BK171.out 0).trans rfl;have hcz13_1:w11.cell? ⟨gb171,1,none⟩=some (.slice none 0 0):=(zz9 BK171.out 1).trans rfl;have hfz13_0:=zz10 BK171.out 0;have hfz13_1:=zz10 BK171.out 1;have hcz14_0:w11.cell? ⟨gb170,0,none⟩=some (.int .i64 0):=(zz9 BK170.out 0).trans rfl;have hcz14_1:w11.cell? ⟨gb170,1,none⟩=some (.slice none 0 0):=(zz9 BK170.out 1).trans rfl;have hfz14_0:=zz10 BK170.out 0;have hfz14_1:=zz10 BK170.out 1))
 refine bodyPost_ret (results_cell_row rfl _ _ gb170 30 #[.int .i64 a0_0,.slice Ao12 t172.length co12] (0,0) _ rfl (by (with_reducible repeat (first | refine zz6 ?_ _ | refine zz7 ?_ | refine zz8 ?_ _));refine blk_put (cs:=#[.int .i64 a0_0,.slice none 0 0]) ?_ 1 _ rfl;(with_reducible repeat (first | refine zz6 ?_ _ | refine zz7 ?_ | refine zz8 ?_ _));refine blk_put (cs:=#[.int .i64 0,.slice none 0 0]) ?_ 0 _ rfl;(with_reducible repeat (first | refine zz6 ?_ _ | refine zz7 ?_ | refine zz8 ?_ _));refine blk_far ?_ NB170_171.out _;(with_reducible repeat (first | refine zz6 ?_ _ | refine zz7 ?_ | refine zz8 ?_ _));exact BK170.out) Try.underlying30 rfl (by kernel_rfl)) rfl ?_
 exact ⟨_,by first | rfl | (simp [errW_none,errW_some] <;> rfl) | (simp [*,errW_none,errW_some] <;> rfl),by (with_reducible repeat (first | apply zz12 | apply zz13 | apply zz14));exact Kd.R_mono (Kd.R_far (p:=⟨gb170,1,none⟩) (Kd.R_far (p:=⟨gb170,0,none⟩) (Kd.R_far (p:=⟨gb171,1,none⟩) (Kd.R_types (Kd.R_types HO174.out BK171.out (by decide)) BK170.out (by decide)) (fun _ hk=>hk.1.2) (.slice Ao12 t172.length co12)) (fun _ hk=>hk.2) (.int .i64 a0_0)) (fun _ hk=>hk.2) (.slice Ao12 t172.length co12)) (fun _ hk=>trivial),by repeat first | exact HB.out | apply zz2 | apply zz0 | apply zz1 | refine zz3 ?_ GE169.out | refine zz3 ?_ GE170.out | refine zz3 ?_ GE171.out⟩

end Go.Proofs.Ytialimbdkokdcaa.P
