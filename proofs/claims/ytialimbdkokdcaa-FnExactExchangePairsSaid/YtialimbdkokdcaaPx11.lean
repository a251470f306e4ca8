-- PRINTED by print.py (a twelfth state) out of the translation. Not trusted: Lean checks it.
import Derived.Test.YtialimbdkokdcaaPx0
import Derived.Test.YtialimbdkokdcaaPx1
namespace Go.Proofs.Ytialimbdkokdcaa.P
open Go.RowKit Go.Proofs.YtialimbdkokdcaaW.PrintWords Go.Proofs.YtialimbdkokdcaaW.PrintLast Go.Proofs.YtialimbdkokdcaaW.PrintMore
attribute [local go_sem] max2_int min2_int max_two min_two max_three min_three max_four min_four   -- for this text's walks alone
set_option linter.unusedVariables false
set_option linter.unusedSimpArgs false

/-! ### spec_paHas: function 56 -/
def spec_paHas.f (a0_0:Int) (l0_1:List (S80)) (a1:Int):Option (Bool):=(spec_l1In.f a1 0 (wrap64 (a0_0 - 1))).bind fun t294=>(some t294)
set_option maxHeartbeats 8000000 in
set_option maxRecDepth 100000 in
theorem spec_paHas.calls (a0_0:Int) (A0_1:Option Addr) (c0_1:Nat) (l0_1:List (S80)) (a1:Int) (r:Bool) (w:World) (hr0_1:Kd.C k80 w A0_1 l0_1.length l0_1) (hc0_1:l0_1.length≤c0_1) (h:spec_paHas.f a0_0 l0_1 a1=some r) :
  Calls Try.prog 56 #[.agg #[.int .i64 a0_0,.slice A0_1 l0_1.length c0_1],.int .i64 a1] w fun e w'=>e=.returned (.bool r)∧Below w.heap.size w w':=by
 have hu30:=Try.underlying30
 have HR0_1:=zz31 hr0_1
 have HC0_1:=zz31 hc0_1
 clear hr0_1 hc0_1
 have HB:=zz31 (Below.refl w.heap.size w)
 have H:((spec_l1In.f a1 0 (wrap64 (a0_0 - 1))).bind fun t294=>(some t294))=some r:=h
 clear h
 replace H:=zz30.mp H
 obtain ⟨t294,A30,H⟩:=H
 replace H:(some t294)=some r:=H
 have A3:=zz31 A30
 clear A30
 obtain rfl:=Option.some.inj H
 go_enter Try.func56,Try.ntmps56
 go_wp2_with (first | ((with_reducible refine gate_dst (N:=2) rfl ?_);refine box_event ?hg (N:=2) ?hd (cs:=#[.int .i64 a0_0,.slice A0_1 l0_1.length c0_1]) (t:=30) ?hr ?_;(case hd=>rfl);(case hg=>rfl);(case hr=>first | (go_simp;done) | (go_simp;rfl));intro gb293 hg w4 hbox hb;have n0_:=zz31 (zz4 (by repeat first | exact HB.out | apply zz2 | apply zz0 | apply zz1) hb);have n1_:=zz31 (hbox);have n2_:=zz31 ((by rw [hg];exact (zz5 (by repeat first | exact HB.out | apply zz2 | apply zz0 | apply zz1)):w.heap.size≤gb293));have n3_:=zz31 ((by rw [hg];exact (zz5 (by repeat first | exact HB.out | apply zz2 | apply zz0 | apply zz1)):w.heap.size≤gb293));clear HB;have HB:=n0_;have BK293:=n1_;have GW293:=n2_;have GE293:=n3_;clear n0_ n1_ n2_ n3_;clear hb hbox hg;have hcz5_0:w4.cell? ⟨gb293,0,none⟩=some (.int .i64 a0_0):=(zz9 BK293.out 0).trans rfl;have hcz5_1:w4.cell? ⟨gb293,1,none⟩=some (.slice A0_1 l0_1.length c0_1):=(zz9 BK293.out 1).trans rfl;have hfz5_0:=zz10 BK293.out 0;have hfz5_1:=zz10 BK293.out 1) | ((with_reducible refine gate_callee (f:=78) rfl ?_);refine goesL_ (some 9) rfl rfl Try.func78 (by kernel_rfl) rfl #[.int .i64 a1,.int .i64 0,.int .i64 (wrap64 (a0_0 - 1))] rfl (by (try simp only [zz26,zz27,zz28]);first | done | rfl | (simp only [zz24,zz25];rfl)) ?_;(with_reducible refine (spec_l1In.calls a1 0 (wrap64 (a0_0 - 1)) t294 _ A3.out).mono ?_);rintro e w' ⟨rfl,⟨nd,rfl⟩⟩;refine ⟨_,rfl,?_⟩))
 go_ret
 exact ⟨by first | rfl | (simp [errW_none,errW_some] <;> rfl) | (simp [*,errW_none,errW_some] <;> rfl),by repeat first | exact HB.out | apply zz2 | apply zz0 | apply zz1 | refine zz3 ?_ GE293.out⟩

end Go.Proofs.Ytialimbdkokdcaa.P
