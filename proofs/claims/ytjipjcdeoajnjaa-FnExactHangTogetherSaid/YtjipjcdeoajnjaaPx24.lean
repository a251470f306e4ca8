-- PRINTED by print.py (a twelfth state) out of the translation. Not trusted: Lean checks it.
import Derived.Test.YtjipjcdeoajnjaaPx0
import Derived.Test.YtjipjcdeoajnjaaPx13
import Derived.Test.YtjipjcdeoajnjaaPx21
namespace Go.Proofs.Ytjipjcdeoajnjaa.P
open Go.RowKit Go.Proofs.YtjipjcdeoajnjaaW.PrintWords Go.Proofs.YtjipjcdeoajnjaaW.PrintLast Go.Proofs.YtjipjcdeoajnjaaW.PrintMore
attribute [local go_sem] max2_int min2_int max_two min_two max_three min_three max_four min_four   -- for this text's walks alone
set_option linter.unusedVariables false
set_option linter.unusedSimpArgs false

/-! ### spec_deCan: function 74 -/
def spec_deCan.f (k:Nat) (l0:List Int):Option (Bool):=(spec_deSum.f k l0).bind fun t348=>(if (Int.tmod t348 2)=0 then ((spec_deFails.f k l0).bind fun t349=>(some (t349 == 0))) else (some false))
theorem spec_deCan.mono:∀ a0 k,LeO (spec_deCan.f k a0) (spec_deCan.f (k+1) a0):=by
 intro a0 k
 unfold spec_deCan.f
 repeat' first
   | (with_reducible exact spec_deFails.mono _ _)
   | (with_reducible exact spec_deSum.mono _ _)
   | (with_reducible exact LeO.refl _)
   | (with_reducible exact LeO.none _)
   | (with_reducible refine LeO.ite ?_ ?_)
   | (with_reducible refine LeO.bind ?_ (fun _=>?_))
   | exact spec_deFails.mono _ _
   | exact spec_deSum.mono _ _
   | exact LeO.none _
   | refine LeO.ite ?_ ?_
   | refine LeO.bind ?_ (fun _=>?_)
set_option maxHeartbeats 8000000 in
set_option maxRecDepth 100000 in
theorem spec_deCan.calls (k:Nat) (A0:Option Addr) (c0:Nat) (l0:List Int) (r:Bool) (w:World) (hr0:Kd.C (Kd.int .i64) w A0 l0.length l0) (hc0:l0.length≤c0) (h:spec_deCan.f k l0=some r) :
  Calls Try.prog 74 #[.slice A0 l0.length c0] w fun e w'=>e=.returned (.bool r)∧Below w.heap.size w w':=by
 have HR0:=zz31 hr0
 have HC0:=zz31 hc0
 clear hr0 hc0
 have HB:=zz31 (Below.refl w.heap.size w)
 have H:((spec_deSum.f k l0).bind fun t348=>(if (Int.tmod t348 2)=0 then ((spec_deFails.f k l0).bind fun t349=>(some (t349 == 0))) else (some false)))=some r:=h
 clear h
 replace H:=zz30.mp H
 obtain ⟨t348,A20,H⟩:=H
 replace H:(if (Int.tmod t348 2)=0 then ((spec_deFails.f k l0).bind fun t349=>(some (t349 == 0))) else (some false))=some r:=H
 have A2:=zz31 A20
 clear A20
 by_cases c3:(Int.tmod t348 2)=0
 ·rw [if_pos c3] at H
  have c3b0:((Int.tmod t348 2) == 0)=true:=beq_iff_eq.mpr c3
  have c3b1:((Int.tmod t348 2) != 0)=false:=bne_eq_false_iff_eq.mpr c3
  clear c3
  replace H:=zz30.mp H
  obtain ⟨t349,A40,H⟩:=H
  replace H:(some (t349 == 0))=some r:=H
  have A4:=zz31 A40
  clear A40
  obtain rfl:=Option.some.inj H
  go_enter Try.func74,Try.ntmps74
  go_wp2_with (first | ((with_reducible refine gate_callee (f:=58) rfl ?_);refine goesL_ (some 4) rfl rfl Try.func58 (by kernel_rfl) rfl #[.slice A0 l0.length c0] rfl (by (try simp only [zz26,zz27,zz28]);first | done | rfl | (simp only [zz24,zz25];rfl)) ?_;(with_reducible refine (spec_deSum.calls k _ _ l0 t348 _ ?side1 ?side2 A2.out).mono ?_);(case side1=>repeat (first | exact HR0.out | (with_reducible refine zz18 ?_ _) | (with_reducible refine zz19 ?_ _) | (with_reducible refine zz20 ?_)));(case side2=>exact HC0.out);rintro e w' ⟨rfl,⟨nd,rfl⟩⟩;refine ⟨_,rfl,?_⟩) | (go_at_call 72;(with_reducible refine (spec_deFails.calls k _ _ l0 t349 _ ?side1 ?side2 A4.out).mono ?_);(case side1=>repeat (first | exact HR0.out | (with_reducible refine zz18 ?_ _) | (with_reducible refine zz19 ?_ _) | (with_reducible refine zz20 ?_)));(case side2=>exact HC0.out);rintro e w5 ⟨rfl,hb⟩;have n0_:=zz31 (zz4 (by repeat first | exact HB.out | apply zz2 | apply zz0 | apply zz1) hb);clear HB;have HB:=n0_;clear n0_;(try clear hb);(try clear hb2);(try clear hk);(try clear hi)))
  go_ret
  exact ⟨by first | rfl | (simp [errW_none,errW_some] <;> rfl) | (simp [*,errW_none,errW_some] <;> rfl),by repeat first | exact HB.out | apply zz2 | apply zz0 | apply zz1⟩
 ·rw [if_neg c3] at H
  have c3b0:((Int.tmod t348 2) == 0)=false:=beq_eq_false_iff_ne.mpr c3
  have c3b1:((Int.tmod t348 2) != 0)=true:=bne_iff_ne.mpr c3
  obtain rfl:=Option.some.inj H
  go_enter Try.func74,Try.ntmps74
  go_wp2_with (first | ((with_reducible refine gate_callee (f:=58) rfl ?_);refine goesL_ (some 4) rfl rfl Try.func58 (by kernel_rfl) rfl #[.slice A0 l0.length c0] rfl (by (try simp only [zz26,zz27,zz28]);first | done | rfl | (simp only [zz24,zz25];rfl)) ?_;(with_reducible refine (spec_deSum.calls k _ _ l0 t348 _ ?side1 ?side2 A2.out).mono ?_);(case side1=>repeat (first | exact HR0.out | (with_reducible refine zz18 ?_ _) | (with_reducible refine zz19 ?_ _) | (with_reducible refine zz20 ?_)));(case side2=>exact HC0.out);rintro e w' ⟨rfl,⟨nd,rfl⟩⟩;refine ⟨_,rfl,?_⟩))
  go_ret
  exact ⟨by first | rfl | (simp [errW_none,errW_some] <;> rfl) | (simp [*,errW_none,errW_some] <;> rfl),by repeat first | exact HB.out | apply zz2 | apply zz0 | apply zz1⟩

end Go.Proofs.Ytjipjcdeoajnjaa.P
