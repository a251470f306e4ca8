-- PRINTED by print.py (a twelfth state) out of the translation. Not trusted: Lean checks it.
import Derived.Test.YtiopgbpjkjnphaaPx0
import Derived.Test.YtiopgbpjkjnphaaPx2
namespace Go.Proofs.Ytiopgbpjkjnphaa.P
open Go.RowKit Go.Proofs.YtiopgbpjkjnphaaW.PrintWords Go.Proofs.YtiopgbpjkjnphaaW.PrintLast Go.Proofs.YtiopgbpjkjnphaaW.PrintMore
attribute [local go_sem] max2_int min2_int max_two min_two max_three min_three max_four min_four   -- for this text's walks alone
set_option linter.unusedVariables false
set_option linter.unusedSimpArgs false

/-! ### spec_paPeople: function 54 -/
def spec_paPeople.f (a0:Int):Option (Bool):=(spec_l1In.f a0 0 12).bind fun t103=>(some t103)
set_option maxHeartbeats 8000000 in
set_option maxRecDepth 100000 in
theorem spec_paPeople.calls (a0:Int) (r:Bool) (w:World) (h:spec_paPeople.f a0=some r) :
  Calls Try.prog 54 #[.int .i64 a0] w fun e w'=>e=.returned (.bool r)∧Drawn0 w w':=by
 have H:((spec_l1In.f a0 0 12).bind fun t103=>(some t103))=some r:=h
 clear h
 replace H:=zz30.mp H
 obtain ⟨t103,A20,H⟩:=H
 replace H:(some t103)=some r:=H
 have A2:=Aside0.mk A20
 clear A20
 obtain rfl:=Option.some.inj H
 go_enter Try.func54,Try.ntmps54
 go_wp2_with (first | ((with_reducible refine gate_callee (f:=60) rfl ?_);refine goesL_ (some 4) rfl rfl Try.func60 (by kernel_rfl) rfl #[.int .i64 a0,.int .i64 0,.int .i64 12] rfl (by (try simp only [zz26,zz27,zz28]);first | done | rfl | (simp only [zz24,zz25];rfl) | (simp only [zz25];congr;(try simp only [decide_eq_true_eq] at *);omega)) ?_;(with_reducible refine (spec_l1In.calls a0 0 12 t103 _ A2.out).mono ?_);rintro e w' ⟨rfl,⟨nd,rfl⟩⟩;refine ⟨_,rfl,?_⟩))
 go_ret
 exact ⟨by first | rfl | (simp;done) | (simp [*];done),by repeat (first | exact Drawn0.refl _ | apply Drawn0.step)⟩

/-! ### impl_areCrowd: function 52 -/
def impl_areCrowd.f (a0:Int):Option (Bool):=(impl_within.f a0 0 12).bind fun t143=>(some t143)
set_option maxHeartbeats 8000000 in
set_option maxRecDepth 100000 in
theorem impl_areCrowd.calls (a0:Int) (r:Bool) (w:World) (h:impl_areCrowd.f a0=some r) :
  Calls Try.prog 52 #[.int .i64 a0] w fun e w'=>e=.returned (.bool r)∧Drawn0 w w':=by
 have H:((impl_within.f a0 0 12).bind fun t143=>(some t143))=some r:=h
 clear h
 replace H:=zz30.mp H
 obtain ⟨t143,A20,H⟩:=H
 replace H:(some t143)=some r:=H
 have A2:=Aside0.mk A20
 clear A20
 obtain rfl:=Option.some.inj H
 go_enter Try.func52,Try.ntmps52
 go_wp2_with (first | ((with_reducible refine gate_callee (f:=78) rfl ?_);refine goesL_ (some 4) rfl rfl Try.func78 (by kernel_rfl) rfl #[.int .i64 a0,.int .i64 0,.int .i64 12] rfl (by (try simp only [zz26,zz27,zz28]);first | done | rfl | (simp only [zz24,zz25];rfl) | (simp only [zz25];congr;(try simp only [decide_eq_true_eq] at *);omega)) ?_;(with_reducible refine (impl_within.calls a0 0 12 t143 _ A2.out).mono ?_);rintro e w' ⟨rfl,⟨nd,rfl⟩⟩;refine ⟨_,rfl,?_⟩))
 go_ret
 exact ⟨by first | rfl | (simp;done) | (simp [*];done),by repeat (first | exact Drawn0.refl _ | apply Drawn0.step)⟩

end Go.Proofs.Ytiopgbpjkjnphaa.P
