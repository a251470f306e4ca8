-- PRINTED by print.py (a twelfth state) out of the translation. Not trusted: Lean checks it.
import Derived.Test.YtjipjcdeoajnjaaPx0
import Derived.Test.YtjipjcdeoajnjaaPx1
namespace Go.Proofs.Ytjipjcdeoajnjaa.P
open Go.RowKit Go.Proofs.YtjipjcdeoajnjaaW.PrintWords Go.Proofs.YtjipjcdeoajnjaaW.PrintLast Go.Proofs.YtjipjcdeoajnjaaW.PrintMore
attribute [local go_sem] max2_int min2_int max_two min_two max_three min_three max_four min_four   -- for this text's walks alone
set_option linter.unusedVariables false
set_option linter.unusedSimpArgs false

/-! ### spec_CountNumbers: function 35 -/
def spec_CountNumbers.f (k:Nat) (a0:Int):Option (Int × Bool):=(spec_AllNumbers.f k a0).bind fun bt155=>(some ((bt155.1.length:Int),bt155.2))
theorem spec_CountNumbers.mono:∀ a0 k,LeO (spec_CountNumbers.f k a0) (spec_CountNumbers.f (k+1) a0):=by
 intro a0 k
 unfold spec_CountNumbers.f
 repeat' first
   | (with_reducible exact spec_AllNumbers.mono _ _)
   | (with_reducible exact LeO.refl _)
   | (with_reducible exact LeO.none _)
   | (with_reducible refine LeO.ite ?_ ?_)
   | (with_reducible refine LeO.bind ?_ (fun _=>?_))
   | exact spec_AllNumbers.mono _ _
   | exact LeO.none _
   | refine LeO.ite ?_ ?_
   | refine LeO.bind ?_ (fun _=>?_)
set_option maxHeartbeats 8000000 in
set_option maxRecDepth 100000 in
theorem spec_CountNumbers.calls (k:Nat) (a0:Int) (r1:Int) (r2:Bool) (w:World) (h:spec_CountNumbers.f k a0=some (r1,r2)) :
  Calls Try.prog 35 #[.int .i64 a0] w fun e w'=>e=.returned (.tuple #[.int .i64 r1,.bool r2])∧Below w.heap.size w w':=by
 have HB:=zz31 (Below.refl w.heap.size w)
 have H:((spec_AllNumbers.f k a0).bind fun bt155=>(some ((bt155.1.length:Int),bt155.2)))=some (r1,r2):=h
 clear h
 replace H:=zz30.mp H
 obtain ⟨⟨t155,t156⟩,A20,H⟩:=H
 replace H:(some ((t155.length:Int),t156))=some (r1,r2):=H
 have A2:=zz31 A20
 clear A20
 simp only [Option.some.injEq,Prod.mk.injEq] at H
 obtain ⟨rfl,rfl⟩:=H
 go_enter Try.func35,Try.ntmps35
 go_wp2_with (first | ((with_reducible refine gate_callee (f:=39) rfl ?_);refine goesL_ (some 8) rfl rfl Try.func39 (by kernel_rfl) rfl #[.int .i64 a0] rfl (by (try simp only [zz26,zz27,zz28]);first | done | rfl | (simp only [zz24,zz25];rfl)) ?_;(with_reducible refine (spec_AllNumbers.calls k a0 t155 t156 _ A2.out).mono ?_);rintro e w3 ⟨v157,rfl,ho0,hb⟩;refine ⟨_,rfl,?_⟩;have n0_:=zz31 (Kd.S_lower ho0 (zz5 (by repeat first | exact HB.out | apply zz2 | apply zz0 | apply zz1)));have n1_:=zz31 (zz4 (by repeat first | exact HB.out | apply zz2 | apply zz0 | apply zz1) hb);clear HB;have HO158:=n0_;have HB:=n1_;clear n0_ n1_;(try clear hb);(try clear hb2);(try clear hk);(try clear hi);(try clear ho0);obtain ⟨Ao4,co4,eo4⟩:=Kd.S_slice HO158.out;subst eo4))
 go_ret2
 exact ⟨by first | rfl | (simp [errW_none,errW_some] <;> rfl) | (simp [*,errW_none,errW_some] <;> rfl),by repeat first | exact HB.out | apply zz2 | apply zz0 | apply zz1⟩

/-! ### impl_CountNumbers: function 36 -/
def impl_CountNumbers.f (k:Nat) (a0:Int):Option (Int × Bool):=(impl_AllNumbers.f k a0).bind fun bt159=>(some ((bt159.1.length:Int),bt159.2))
theorem impl_CountNumbers.mono:∀ a0 k,LeO (impl_CountNumbers.f k a0) (impl_CountNumbers.f (k+1) a0):=by
 intro a0 k
 unfold impl_CountNumbers.f
 repeat' first
   | (with_reducible exact impl_AllNumbers.mono _ _)
   | (with_reducible exact LeO.refl _)
   | (with_reducible exact LeO.none _)
   | (with_reducible refine LeO.ite ?_ ?_)
   | (with_reducible refine LeO.bind ?_ (fun _=>?_))
   | exact impl_AllNumbers.mono _ _
   | exact LeO.none _
   | refine LeO.ite ?_ ?_
   | refine LeO.bind ?_ (fun _=>?_)
set_option maxHeartbeats 8000000 in
set_option maxRecDepth 100000 in
theorem impl_CountNumbers.calls (k:Nat) (a0:Int) (r1:Int) (r2:Bool) (w:World) (h:impl_CountNumbers.f k a0=some (r1,r2)) :
  Calls Try.prog 36 #[.int .i64 a0] w fun e w'=>e=.returned (.tuple #[.int .i64 r1,.bool r2])∧Below w.heap.size w w':=by
 have HB:=zz31 (Below.refl w.heap.size w)
 have H:((impl_AllNumbers.f k a0).bind fun bt159=>(some ((bt159.1.length:Int),bt159.2)))=some (r1,r2):=h
 clear h
 replace H:=zz30.mp H
 obtain ⟨⟨t159,t160⟩,A20,H⟩:=H
 replace H:(some ((t159.length:Int),t160))=some (r1,r2):=H
 have A2:=zz31 A20
 clear A20
 simp only [Option.some.injEq,Prod.mk.injEq] at H
 obtain ⟨rfl,rfl⟩:=H
 go_enter Try.func36,Try.ntmps36
 go_wp2_with (first | ((with_reducible refine gate_callee (f:=40) rfl ?_);refine goesL_ (some 8) rfl rfl Try.func40 (by kernel_rfl) rfl #[.int .i64 a0] rfl (by (try simp only [zz26,zz27,zz28]);first | done | rfl | (simp only [zz24,zz25];rfl)) ?_;(with_reducible refine (impl_AllNumbers.calls k a0 t159 t160 _ A2.out).mono ?_);rintro e w3 ⟨v161,rfl,ho0,hb⟩;refine ⟨_,rfl,?_⟩;have n0_:=zz31 (Kd.S_lower ho0 (zz5 (by repeat first | exact HB.out | apply zz2 | apply zz0 | apply zz1)));have n1_:=zz31 (zz4 (by repeat first | exact HB.out | apply zz2 | apply zz0 | apply zz1) hb);clear HB;have HO162:=n0_;have HB:=n1_;clear n0_ n1_;(try clear hb);(try clear hb2);(try clear hk);(try clear hi);(try clear ho0);obtain ⟨Ao4,co4,eo4⟩:=Kd.S_slice HO162.out;subst eo4))
 go_ret2
 exact ⟨by first | rfl | (simp [errW_none,errW_some] <;> rfl) | (simp [*,errW_none,errW_some] <;> rfl),by repeat first | exact HB.out | apply zz2 | apply zz0 | apply zz1⟩

/-! ### laws_FnExactCountNumbers: function 10 -/
def laws_FnExactCountNumbers.f (k:Nat) (a0:Int):Option (Bool):=(spec_CountNumbers.f k a0).bind fun bt163=>((impl_CountNumbers.f k a0).bind fun bt165=>(if bt165.1=bt163.1 then (if (bt165.2 != bt163.2)=true then (some false) else (some true)) else (some false)))
theorem laws_FnExactCountNumbers.mono:∀ a0 k,LeO (laws_FnExactCountNumbers.f k a0) (laws_FnExactCountNumbers.f (k+1) a0):=by
 intro a0 k
 unfold laws_FnExactCountNumbers.f
 repeat' first
   | (with_reducible exact impl_CountNumbers.mono _ _)
   | (with_reducible exact spec_CountNumbers.mono _ _)
   | (with_reducible exact LeO.refl _)
   | (with_reducible exact LeO.none _)
   | (with_reducible refine LeO.ite ?_ ?_)
   | (with_reducible refine LeO.bind ?_ (fun _=>?_))
   | exact impl_CountNumbers.mono _ _
   | exact spec_CountNumbers.mono _ _
   | exact LeO.none _
   | refine LeO.ite ?_ ?_
   | refine LeO.bind ?_ (fun _=>?_)
set_option maxHeartbeats 8000000 in
set_option maxRecDepth 100000 in
theorem laws_FnExactCountNumbers.calls (k:Nat) (a0:Int) (r:Bool) (w:World) (h:laws_FnExactCountNumbers.f k a0=some r) :
  Calls Try.prog 10 #[.int .i64 a0] w fun e w'=>e=.returned (.bool r)∧Below w.heap.size w w':=by
 have HB:=zz31 (Below.refl w.heap.size w)
 have H:((spec_CountNumbers.f k a0).bind fun bt163=>((impl_CountNumbers.f k a0).bind fun bt165=>(if bt165.1=bt163.1 then (if (bt165.2 != bt163.2)=true then (some false) else (some true)) else (some false))))=some r:=h
 clear h
 replace H:=zz30.mp H
 obtain ⟨⟨t163,t164⟩,A20,H⟩:=H
 replace H:((impl_CountNumbers.f k a0).bind fun bt165=>(if bt165.1=t163 then (if (bt165.2 != t164)=true then (some false) else (some true)) else (some false)))=some r:=H
 have A2:=zz31 A20
 clear A20
 replace H:=zz30.mp H
 obtain ⟨⟨t165,t166⟩,A30,H⟩:=H
 replace H:(if t165=t163 then (if (t166 != t164)=true then (some false) else (some true)) else (some false))=some r:=H
 have A3:=zz31 A30
 clear A30
 by_cases c4:t165=t163
 ·rw [if_pos c4] at H
  have c4b0:(t165 == t163)=true:=beq_iff_eq.mpr c4
  have c4b1:(t165 != t163)=false:=bne_eq_false_iff_eq.mpr c4
  clear c4
  by_cases c5:(t166 != t164)=true
  ·rw [if_pos c5] at H
   have c5b0:(t166 != t164)=true:=c5
   (try (have c5b1:decide (t166=t164)=false:=by simpa using c5))
   (try (have c5b2:(t166 == t164)=false:=by simpa using c5))
   (try (have c5b3:¬ (t166=t164):=by simpa using c5))
   clear c5
   obtain rfl:=Option.some.inj H
   go_enter Try.func10,Try.ntmps10
   go_wp2_with (first | ((with_reducible refine gate_callee (f:=35) rfl ?_);refine goesL_ (some 9) rfl rfl Try.func35 (by kernel_rfl) rfl #[.int .i64 a0] rfl (by (try simp only [zz26,zz27,zz28]);first | done | rfl | (simp only [zz24,zz25];rfl)) ?_;(with_reducible refine (spec_CountNumbers.calls k a0 t163 t164 _ A2.out).mono ?_);rintro e w6 ⟨rfl,hb⟩;refine ⟨_,rfl,?_⟩;have n0_:=zz31 (zz4 (by repeat first | exact HB.out | apply zz2 | apply zz0 | apply zz1) hb);clear HB;have HB:=n0_;clear n0_;(try clear hb);(try clear hb2);(try clear hk);(try clear hi)) | ((with_reducible refine gate_callee (f:=36) rfl ?_);refine goesL_ (some 14) rfl rfl Try.func36 (by kernel_rfl) rfl #[.int .i64 a0] rfl (by (try simp only [zz26,zz27,zz28]);first | done | rfl | (simp only [zz24,zz25];rfl)) ?_;(with_reducible refine (impl_CountNumbers.calls k a0 t165 t166 _ A3.out).mono ?_);rintro e w7 ⟨rfl,hb⟩;refine ⟨_,rfl,?_⟩;have n0_:=zz31 (zz4 (by repeat first | exact HB.out | apply zz2 | apply zz0 | apply zz1) hb);clear HB;have HB:=n0_;clear n0_;(try clear hb);(try clear hb2);(try clear hk);(try clear hi)))
   go_ret
   exact ⟨by first | rfl | (simp [errW_none,errW_some] <;> rfl) | (simp [*,errW_none,errW_some] <;> rfl),by repeat first | exact HB.out | apply zz2 | apply zz0 | apply zz1⟩
  ·rw [if_neg c5] at H
   have c5b0:(t166 != t164)=false:=by simpa using c5
   (try (have c5b1:decide (t166=t164)=true:=by simpa using c5))
   (try (have c5b2:(t166 == t164)=true:=by simpa using c5))
   clear c5
   obtain rfl:=Option.some.inj H
   go_enter Try.func10,Try.ntmps10
   go_wp2_with (first | ((with_reducible refine gate_callee (f:=35) rfl ?_);refine goesL_ (some 9) rfl rfl Try.func35 (by kernel_rfl) rfl #[.int .i64 a0] rfl (by (try simp only [zz26,zz27,zz28]);first | done | rfl | (simp only [zz24,zz25];rfl)) ?_;(with_reducible refine (spec_CountNumbers.calls k a0 t163 t164 _ A2.out).mono ?_);rintro e w8 ⟨rfl,hb⟩;refine ⟨_,rfl,?_⟩;have n0_:=zz31 (zz4 (by repeat first | exact HB.out | apply zz2 | apply zz0 | apply zz1) hb);clear HB;have HB:=n0_;clear n0_;(try clear hb);(try clear hb2);(try clear hk);(try clear hi)) | ((with_reducible refine gate_callee (f:=36) rfl ?_);refine goesL_ (some 14) rfl rfl Try.func36 (by kernel_rfl) rfl #[.int .i64 a0] rfl (by (try simp only [zz26,zz27,zz28]);first | done | rfl | (simp only [zz24,zz25];rfl)) ?_;(with_reducible refine (impl_CountNumbers.calls k a0 t165 t166 _ A3.out).mono ?_);rintro e w9 ⟨rfl,hb⟩;refine ⟨_,rfl,?_⟩;have n0_:=zz31 (zz4 (by repeat first | exact HB.out | apply zz2 | apply zz0 | apply zz1) hb);clear HB;have HB:=n0_;clear n0_;(try clear hb);(try clear hb2);(try clear hk);(try clear hi)))
   go_ret
   exact ⟨by first | rfl | (simp [errW_none,errW_some] <;> rfl) | (simp [*,errW_none,errW_some] <;> rfl),by repeat first | exact HB.out | apply zz2 | apply zz0 | apply zz1⟩
 ·rw [if_neg c4] at H
  have c4b0:(t165 == t163)=false:=beq_eq_false_iff_ne.mpr c4
  have c4b1:(t165 != t163)=true:=bne_iff_ne.mpr c4
  obtain rfl:=Option.some.inj H
  go_enter Try.func10,Try.ntmps10
  go_wp2_with (first | ((with_reducible refine gate_callee (f:=35) rfl ?_);refine goesL_ (some 9) rfl rfl Try.func35 (by kernel_rfl) rfl #[.int .i64 a0] rfl (by (try simp only [zz26,zz27,zz28]);first | done | rfl | (simp only [zz24,zz25];rfl)) ?_;(with_reducible refine (spec_CountNumbers.calls k a0 t163 t164 _ A2.out).mono ?_);rintro e w10 ⟨rfl,hb⟩;refine ⟨_,rfl,?_⟩;have n0_:=zz31 (zz4 (by repeat first | exact HB.out | apply zz2 | apply zz0 | apply zz1) hb);clear HB;have HB:=n0_;clear n0_;(try clear hb);(try clear hb2);(try clear hk);(try clear hi)) | ((with_reducible refine gate_callee (f:=36) rfl ?_);refine goesL_ (some 14) rfl rfl Try.func36 (by kernel_rfl) rfl #[.int .i64 a0] rfl (by (try simp only [zz26,zz27,zz28]);first | done | rfl | (simp only [zz24,zz25];rfl)) ?_;(with_reducible refine (impl_CountNumbers.calls k a0 t165 t166 _ A3.out).mono ?_);rintro e w11 ⟨rfl,hb⟩;refine ⟨_,rfl,?_⟩;have n0_:=zz31 (zz4 (by repeat first | exact HB.out | apply zz2 | apply zz0 | apply zz1) hb);clear HB;have HB:=n0_;clear n0_;(try clear hb);(try clear hb2);(try clear hk);(try clear hi)))
  go_ret
  exact ⟨by first | rfl | (simp [errW_none,errW_some] <;> rfl) | (simp [*,errW_none,errW_some] <;> rfl),by repeat first | exact HB.out | apply zz2 | apply zz0 | apply zz1⟩

/-- THE ONE PURE STATEMENT of laws_FnExactCountNumbers: yours. -/
def laws_FnExactCountNumbers.Pure:Prop:=∀ (a0:Int),(Lit.int .i64 a0).wf=true→∃ k,laws_FnExactCountNumbers.f k a0=some true
theorem laws_FnExactCountNumbers.walk (P:laws_FnExactCountNumbers.Pure) (a0:Int) (w:World) (w0:(Lit.int .i64 a0).wf=true) :
  Calls Try.prog 10 #[.int .i64 a0] w fun e w'=>e=.returned (.bool true)∧Below w.heap.size w w':=by
 obtain ⟨k,h⟩:=P a0 w0
 refine (laws_FnExactCountNumbers.calls k a0 true w h).mono ?_
 rintro e w' ⟨rfl,hd⟩
 exact ⟨rfl,hd⟩

end Go.Proofs.Ytjipjcdeoajnjaa.P
