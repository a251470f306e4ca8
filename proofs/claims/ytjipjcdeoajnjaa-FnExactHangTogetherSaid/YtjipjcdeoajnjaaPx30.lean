-- PRINTED by print.py (a twelfth state) out of the translation. Not trusted: Lean checks it.
import Derived.Test.YtjipjcdeoajnjaaPx0
import Derived.Test.YtjipjcdeoajnjaaPx2
import Derived.Test.YtjipjcdeoajnjaaPx7
import Derived.Test.YtjipjcdeoajnjaaPx12
import Derived.Test.YtjipjcdeoajnjaaPx13
import Derived.Test.YtjipjcdeoajnjaaPx16
import Derived.Test.YtjipjcdeoajnjaaPx24
import Derived.Test.YtjipjcdeoajnjaaPx26
namespace Go.Proofs.Ytjipjcdeoajnjaa.P
open Go.RowKit Go.Proofs.YtjipjcdeoajnjaaW.PrintWords Go.Proofs.YtjipjcdeoajnjaaW.PrintLast Go.Proofs.YtjipjcdeoajnjaaW.PrintMore
attribute [local go_sem] max2_int min2_int max_two min_two max_three min_three max_four min_four   -- for this text's walks alone
set_option linter.unusedVariables false
set_option linter.unusedSimpArgs false

/-! ### spec_HangTogether: function 37 -/
def spec_HangTogether.j0:Nat→List Int→Int→Bool→Option (Bool × Bool)
 | 0,_,_,_=>none
 | k+1,x0,x4,x13=>if x13=true then (some (false,false)) else ((spec_deCan.f k x0).bind fun t372=>(if t372=true then (if x4 < 2 then ((spec_deSum.f k x0).bind fun t373=>(some (decide (t373 ≥ (wrap64 (2 * (wrap64 (x4 - 1))))),true))) else ((spec_l1Has.f k x0 0).bind fun t374=>(if t374=true then (some (false,true)) else ((spec_deSum.f k x0).bind fun t375=>(some (decide (t375 ≥ (wrap64 (2 * (wrap64 (x4 - 1))))),true)))))) else (some (false,true))))
def spec_HangTogether.f (k:Nat) (l0:List Int):Option (Bool × Bool):=(spec_deGood.f k l0).bind fun t371=>(if t371=true then (spec_HangTogether.j0 k l0 (l0.length:Int) (decide ((l0.length:Int) < 1))) else (spec_HangTogether.j0 k l0 (l0.length:Int) true))
theorem spec_HangTogether.mono_l:∀ k,(∀ y0 y1 y2,LeO (spec_HangTogether.j0 k y0 y1 y2) (spec_HangTogether.j0 (k+1) y0 y1 y2))
 | 0=>fun _ _ _ r h=>by simp [spec_HangTogether.j0] at h
 | k+1=>by
  have ih0:=spec_HangTogether.mono_l k
  ·intro y0 y1 y2
   unfold spec_HangTogether.j0
   repeat' first
   | (with_reducible exact ih0 _ _ _)
   | (with_reducible exact spec_deCan.mono _ _)
   | (with_reducible exact spec_deGood.mono _ _)
   | (with_reducible exact spec_deSum.mono _ _)
   | (with_reducible exact spec_l1Has.mono _ _ _)
   | (with_reducible exact LeO.refl _)
   | (with_reducible exact LeO.none _)
   | (with_reducible refine LeO.ite ?_ ?_)
   | (with_reducible refine LeO.bind ?_ (fun _=>?_))
   | exact ih0 _ _ _
   | exact spec_deCan.mono _ _
   | exact spec_deGood.mono _ _
   | exact spec_deSum.mono _ _
   | exact spec_l1Has.mono _ _ _
   | exact LeO.none _
   | refine LeO.ite ?_ ?_
   | refine LeO.bind ?_ (fun _=>?_)
theorem spec_HangTogether.mono:∀ a0 k,LeO (spec_HangTogether.f k a0) (spec_HangTogether.f (k+1) a0):=by
 intro a0 k
 have ih0:=spec_HangTogether.mono_l k
 unfold spec_HangTogether.f
 repeat' first
   | (with_reducible exact ih0 _ _ _)
   | (with_reducible exact spec_deCan.mono _ _)
   | (with_reducible exact spec_deGood.mono _ _)
   | (with_reducible exact spec_deSum.mono _ _)
   | (with_reducible exact spec_l1Has.mono _ _ _)
   | (with_reducible exact LeO.refl _)
   | (with_reducible exact LeO.none _)
   | (with_reducible refine LeO.ite ?_ ?_)
   | (with_reducible refine LeO.bind ?_ (fun _=>?_))
   | exact ih0 _ _ _
   | exact spec_deCan.mono _ _
   | exact spec_deGood.mono _ _
   | exact spec_deSum.mono _ _
   | exact spec_l1Has.mono _ _ _
   | exact LeO.none _
   | refine LeO.ite ?_ ?_
   | refine LeO.bind ?_ (fun _=>?_)
set_option maxHeartbeats 8000000 in
set_option maxRecDepth 100000 in
theorem spec_HangTogether.calls (k:Nat) (A0:Option Addr) (c0:Nat) (l0:List Int) (r1:Bool) (r2:Bool) (w:World) (hr0:Kd.C (Kd.int .i64) w A0 l0.length l0) (hc0:l0.length≤c0) (h:spec_HangTogether.f k l0=some (r1,r2)) :
  Calls Try.prog 37 #[.slice A0 l0.length c0] w fun e w'=>e=.returned (.tuple #[.bool r1,.bool r2])∧Below w.heap.size w w':=by
 have HR0:=zz31 hr0
 have HC0:=zz31 hc0
 clear hr0 hc0
 have HB:=zz31 (Below.refl w.heap.size w)
 have H:((spec_deGood.f k l0).bind fun t371=>(if t371=true then (spec_HangTogether.j0 k l0 (l0.length:Int) (decide ((l0.length:Int) < 1))) else (spec_HangTogether.j0 k l0 (l0.length:Int) true)))=some (r1,r2):=h
 clear h
 have HC2:=zz31 H
 clear H
 go_enter Try.func37,Try.ntmps37
 go_upto_region 2 with (fail)
 go_cut [13] (fun v13 wc=>∃ (kq:Nat) (x13_1:Bool),v13=.bool x13_1∧Aside0 (spec_HangTogether.j0 kq l0 (l0.length:Int) x13_1=some (r1,r2))∧Aside0 (kq≤k)∧Aside0 (Below w.heap.size w wc))
 case first =>
  have H:=HC2.out
  clear HC2
  replace H:=zz30.mp H
  obtain ⟨t371,A30,H⟩:=H
  replace H:(if t371=true then (spec_HangTogether.j0 k l0 (l0.length:Int) (decide ((l0.length:Int) < 1))) else (spec_HangTogether.j0 k l0 (l0.length:Int) true))=some (r1,r2):=H
  have A3:=zz31 A30
  clear A30
  by_cases c4:t371=true
  ·subst c4
   have H1:(spec_HangTogether.j0 k l0 (l0.length:Int) (decide ((l0.length:Int) < 1)))=some (r1,r2):=by rw [if_pos rfl] at H;exact H
   clear H
   have H:=H1
   clear H1
   have H':=zz31 H
   clear H
   go_wp2_with (first | ((with_reducible refine gate_callee (f:=56) rfl ?_);refine goesL_ (some 8) rfl rfl Try.func56 (by kernel_rfl) rfl #[.slice A0 l0.length c0] rfl (by (try simp only [zz26,zz27,zz28]);first | done | rfl | (simp only [zz24,zz25];rfl)) ?_;(with_reducible refine (spec_deGood.calls k _ _ l0 true _ ?side1 ?side2 A3.out).mono ?_);(case side1=>repeat (first | exact (Kd.C_below HR0.out HB.out) | (with_reducible refine zz18 ?_ _) | (with_reducible refine zz19 ?_ _) | (with_reducible refine zz20 ?_)));(case side2=>exact HC0.out);rintro e w' ⟨rfl,⟨nd,rfl⟩⟩;refine ⟨_,rfl,?_⟩))
   go_meet
   case rel=>exact ⟨_,(decide ((l0.length:Int) < 1)),(by first | rfl | (simp;done) | (simp [*];done)),H',⟨by first | omega | exact Nat.le_refl _⟩,⟨by repeat first | exact HB.out | apply zz2 | apply zz0 | apply zz1⟩⟩
  ·replace c4:=Bool.eq_false_iff.mpr c4
   subst c4
   have H1:(spec_HangTogether.j0 k l0 (l0.length:Int) true)=some (r1,r2):=by rw [if_neg (show ¬ (false=true) by decide)] at H;exact H
   clear H
   have H:=H1
   clear H1
   have H':=zz31 H
   clear H
   go_wp2_with (first | ((with_reducible refine gate_callee (f:=56) rfl ?_);refine goesL_ (some 8) rfl rfl Try.func56 (by kernel_rfl) rfl #[.slice A0 l0.length c0] rfl (by (try simp only [zz26,zz27,zz28]);first | done | rfl | (simp only [zz24,zz25];rfl)) ?_;(with_reducible refine (spec_deGood.calls k _ _ l0 false _ ?side1 ?side2 A3.out).mono ?_);(case side1=>repeat (first | exact (Kd.C_below HR0.out HB.out) | (with_reducible refine zz18 ?_ _) | (with_reducible refine zz19 ?_ _) | (with_reducible refine zz20 ?_)));(case side2=>exact HC0.out);rintro e w' ⟨rfl,⟨nd,rfl⟩⟩;refine ⟨_,rfl,?_⟩))
   go_meet
   case rel=>exact ⟨_,(true),(by first | rfl | (simp;done) | (simp [*];done)),H',⟨by first | omega | exact Nat.le_refl _⟩,⟨by repeat first | exact HB.out | apply zz2 | apply zz0 | apply zz1⟩⟩
 case rest =>
  clear HC2
  try clear p2
  try clear c3
  try clear c4
  obtain ⟨kq,x13_1,rfl,HA,HJ1,HB⟩:=hcut
  cases kq with
  | zero=>exact absurd HA.out (by simp [spec_HangTogether.j0])
  | succ kj1 =>
   have H:=HA.out
   clear HA
   simp only [spec_HangTogether.j0] at H
   by_cases c5:x13_1=true
   ·subst c5
    have H1:(some (false,false))=some (r1,r2):=by rw [if_pos rfl] at H;exact H
    clear H
    have H:=H1
    clear H1
    simp only [Option.some.injEq,Prod.mk.injEq] at H
    obtain ⟨rfl,rfl⟩:=H
    go_wp2
    go_ret2
    exact ⟨by first | rfl | (simp [errW_none,errW_some] <;> rfl) | (simp [*,errW_none,errW_some] <;> rfl),by repeat first | exact HB.out | apply zz2 | apply zz0 | apply zz1⟩
   ·replace c5:=Bool.eq_false_iff.mpr c5
    subst c5
    have H1:((spec_deCan.f kj1 l0).bind fun t372=>(if t372=true then (if (l0.length:Int) < 2 then ((spec_deSum.f kj1 l0).bind fun t373=>(some (decide (t373 ≥ (wrap64 (2 * (wrap64 ((l0.length:Int) - 1))))),true))) else ((spec_l1Has.f kj1 l0 0).bind fun t374=>(if t374=true then (some (false,true)) else ((spec_deSum.f kj1 l0).bind fun t375=>(some (decide (t375 ≥ (wrap64 (2 * (wrap64 ((l0.length:Int) - 1))))),true)))))) else (some (false,true))))=some (r1,r2):=by rw [if_neg (show ¬ (false=true) by decide)] at H;exact H
    clear H
    have H:=H1
    clear H1
    replace H:=zz30.mp H
    obtain ⟨t372,A60,H⟩:=H
    replace H:(if t372=true then (if (l0.length:Int) < 2 then ((spec_deSum.f kj1 l0).bind fun t373=>(some (decide (t373 ≥ (wrap64 (2 * (wrap64 ((l0.length:Int) - 1))))),true))) else ((spec_l1Has.f kj1 l0 0).bind fun t374=>(if t374=true then (some (false,true)) else ((spec_deSum.f kj1 l0).bind fun t375=>(some (decide (t375 ≥ (wrap64 (2 * (wrap64 ((l0.length:Int) - 1))))),true)))))) else (some (false,true)))=some (r1,r2):=H
    have A6:=zz31 A60
    clear A60
    by_cases c7:t372=true
    ·subst c7
     have H1:(if (l0.length:Int) < 2 then ((spec_deSum.f kj1 l0).bind fun t373=>(some (decide (t373 ≥ (wrap64 (2 * (wrap64 ((l0.length:Int) - 1))))),true))) else ((spec_l1Has.f kj1 l0 0).bind fun t374=>(if t374=true then (some (false,true)) else ((spec_deSum.f kj1 l0).bind fun t375=>(some (decide (t375 ≥ (wrap64 (2 * (wrap64 ((l0.length:Int) - 1))))),true))))))=some (r1,r2):=by rw [if_pos rfl] at H;exact H
     clear H
     have H:=H1
     clear H1
     by_cases c8:(l0.length:Int) < 2
     ·rw [if_pos c8] at H
      have c8b0:decide ((l0.length:Int) < 2)=true:=decide_eq_true c8
      have c8b1:decide (l0.length < 2)=true:=decide_eq_true (by omega)
      clear c8
      replace H:=zz30.mp H
      obtain ⟨t373,A90,H⟩:=H
      replace H:(some (decide (t373 ≥ (wrap64 (2 * (wrap64 ((l0.length:Int) - 1))))),true))=some (r1,r2):=H
      have A9:=zz31 A90
      clear A90
      simp only [Option.some.injEq,Prod.mk.injEq] at H
      obtain ⟨rfl,rfl⟩:=H
      go_wp2_with (first | ((with_reducible refine gate_callee (f:=74) rfl ?_);refine goesL_ (some 15) rfl rfl Try.func74 (by kernel_rfl) rfl #[.slice A0 l0.length c0] rfl (by (try simp only [zz26,zz27,zz28]);first | done | rfl | (simp only [zz24,zz25];rfl)) ?_;(with_reducible refine (spec_deCan.calls kj1 _ _ l0 true _ ?side1 ?side2 A6.out).mono ?_);(case side1=>repeat (first | exact (Kd.C_below HR0.out HB.out) | (with_reducible refine zz18 ?_ _) | (with_reducible refine zz19 ?_ _) | (with_reducible refine zz20 ?_)));(case side2=>exact HC0.out);rintro e w10 ⟨rfl,hb⟩;refine ⟨_,rfl,?_⟩;have n0_:=zz31 (zz4 (by repeat first | exact HB.out | apply zz2 | apply zz0 | apply zz1) hb);clear HB;have HB:=n0_;clear n0_;(try clear hb);(try clear hb2);(try clear hk);(try clear hi)) | (go_at_call 58;(with_reducible refine (spec_deSum.calls kj1 _ _ l0 t373 _ ?side1 ?side2 A9.out).mono ?_);(case side1=>repeat (first | exact (Kd.C_below HR0.out HB.out) | (with_reducible refine zz18 ?_ _) | (with_reducible refine zz19 ?_ _) | (with_reducible refine zz20 ?_)));(case side2=>exact HC0.out);rintro e w' ⟨rfl,⟨nd,rfl⟩⟩))
      go_ret2
      exact ⟨by first | rfl | (simp [errW_none,errW_some] <;> rfl) | (simp [*,errW_none,errW_some] <;> rfl),by repeat first | exact HB.out | apply zz2 | apply zz0 | apply zz1⟩
     ·rw [if_neg c8] at H
      have c8b0:decide ((l0.length:Int) < 2)=false:=decide_eq_false c8
      have c8b1:decide (l0.length < 2)=false:=decide_eq_false (by omega)
      clear c8
      replace H:=zz30.mp H
      obtain ⟨t374,A110,H⟩:=H
      replace H:(if t374=true then (some (false,true)) else ((spec_deSum.f kj1 l0).bind fun t375=>(some (decide (t375 ≥ (wrap64 (2 * (wrap64 ((l0.length:Int) - 1))))),true))))=some (r1,r2):=H
      have A11:=zz31 A110
      clear A110
      by_cases c12:t374=true
      ·subst c12
       have H1:(some (false,true))=some (r1,r2):=by rw [if_pos rfl] at H;exact H
       clear H
       have H:=H1
       clear H1
       simp only [Option.some.injEq,Prod.mk.injEq] at H
       obtain ⟨rfl,rfl⟩:=H
       go_wp2_with (first | ((with_reducible refine gate_callee (f:=74) rfl ?_);refine goesL_ (some 15) rfl rfl Try.func74 (by kernel_rfl) rfl #[.slice A0 l0.length c0] rfl (by (try simp only [zz26,zz27,zz28]);first | done | rfl | (simp only [zz24,zz25];rfl)) ?_;(with_reducible refine (spec_deCan.calls kj1 _ _ l0 true _ ?side1 ?side2 A6.out).mono ?_);(case side1=>repeat (first | exact (Kd.C_below HR0.out HB.out) | (with_reducible refine zz18 ?_ _) | (with_reducible refine zz19 ?_ _) | (with_reducible refine zz20 ?_)));(case side2=>exact HC0.out);rintro e w13 ⟨rfl,hb⟩;refine ⟨_,rfl,?_⟩;have n0_:=zz31 (zz4 (by repeat first | exact HB.out | apply zz2 | apply zz0 | apply zz1) hb);clear HB;have HB:=n0_;clear n0_;(try clear hb);(try clear hb2);(try clear hk);(try clear hi)) | (go_at_call 57;(with_reducible refine (spec_l1Has.calls kj1 _ _ l0 0 true _ ?side1 ?side2 A11.out).mono ?_);(case side1=>repeat (first | exact (Kd.C_below HR0.out HB.out) | (with_reducible refine zz18 ?_ _) | (with_reducible refine zz19 ?_ _) | (with_reducible refine zz20 ?_)));(case side2=>exact HC0.out);rintro e w' ⟨rfl,⟨nd,rfl⟩⟩))
       go_ret2
       exact ⟨by first | rfl | (simp [errW_none,errW_some] <;> rfl) | (simp [*,errW_none,errW_some] <;> rfl),by repeat first | exact HB.out | apply zz2 | apply zz0 | apply zz1⟩
      ·replace c12:=Bool.eq_false_iff.mpr c12
       subst c12
       have H1:((spec_deSum.f kj1 l0).bind fun t375=>(some (decide (t375 ≥ (wrap64 (2 * (wrap64 ((l0.length:Int) - 1))))),true)))=some (r1,r2):=by rw [if_neg (show ¬ (false=true) by decide)] at H;exact H
       clear H
       have H:=H1
       clear H1
       replace H:=zz30.mp H
       obtain ⟨t375,A140,H⟩:=H
       replace H:(some (decide (t375 ≥ (wrap64 (2 * (wrap64 ((l0.length:Int) - 1))))),true))=some (r1,r2):=H
       have A14:=zz31 A140
       clear A140
       simp only [Option.some.injEq,Prod.mk.injEq] at H
       obtain ⟨rfl,rfl⟩:=H
       go_wp2_with (first | ((with_reducible refine gate_callee (f:=74) rfl ?_);refine goesL_ (some 15) rfl rfl Try.func74 (by kernel_rfl) rfl #[.slice A0 l0.length c0] rfl (by (try simp only [zz26,zz27,zz28]);first | done | rfl | (simp only [zz24,zz25];rfl)) ?_;(with_reducible refine (spec_deCan.calls kj1 _ _ l0 true _ ?side1 ?side2 A6.out).mono ?_);(case side1=>repeat (first | exact (Kd.C_below HR0.out HB.out) | (with_reducible refine zz18 ?_ _) | (with_reducible refine zz19 ?_ _) | (with_reducible refine zz20 ?_)));(case side2=>exact HC0.out);rintro e w15 ⟨rfl,hb⟩;refine ⟨_,rfl,?_⟩;have n0_:=zz31 (zz4 (by repeat first | exact HB.out | apply zz2 | apply zz0 | apply zz1) hb);clear HB;have HB:=n0_;clear n0_;(try clear hb);(try clear hb2);(try clear hk);(try clear hi)) | (go_at_call 57;(with_reducible refine (spec_l1Has.calls kj1 _ _ l0 0 false _ ?side1 ?side2 A11.out).mono ?_);(case side1=>repeat (first | exact (Kd.C_below HR0.out HB.out) | (with_reducible refine zz18 ?_ _) | (with_reducible refine zz19 ?_ _) | (with_reducible refine zz20 ?_)));(case side2=>exact HC0.out);rintro e w' ⟨rfl,⟨nd,rfl⟩⟩) | (go_at_call 58;(with_reducible refine (spec_deSum.calls kj1 _ _ l0 t375 _ ?side1 ?side2 A14.out).mono ?_);(case side1=>repeat (first | exact (Kd.C_below HR0.out (by repeat first | exact HB.out | apply zz2 | apply zz0 | apply zz1)) | (with_reducible refine zz18 ?_ _) | (with_reducible refine zz19 ?_ _) | (with_reducible refine zz20 ?_)));(case side2=>exact HC0.out);rintro e w' ⟨rfl,⟨nd,rfl⟩⟩))
       go_ret2
       exact ⟨by first | rfl | (simp [errW_none,errW_some] <;> rfl) | (simp [*,errW_none,errW_some] <;> rfl),by repeat first | exact HB.out | apply zz2 | apply zz0 | apply zz1⟩
    ·replace c7:=Bool.eq_false_iff.mpr c7
     subst c7
     have H1:(some (false,true))=some (r1,r2):=by rw [if_neg (show ¬ (false=true) by decide)] at H;exact H
     clear H
     have H:=H1
     clear H1
     simp only [Option.some.injEq,Prod.mk.injEq] at H
     obtain ⟨rfl,rfl⟩:=H
     go_wp2_with (first | ((with_reducible refine gate_callee (f:=74) rfl ?_);refine goesL_ (some 15) rfl rfl Try.func74 (by kernel_rfl) rfl #[.slice A0 l0.length c0] rfl (by (try simp only [zz26,zz27,zz28]);first | done | rfl | (simp only [zz24,zz25];rfl)) ?_;(with_reducible refine (spec_deCan.calls kj1 _ _ l0 false _ ?side1 ?side2 A6.out).mono ?_);(case side1=>repeat (first | exact (Kd.C_below HR0.out HB.out) | (with_reducible refine zz18 ?_ _) | (with_reducible refine zz19 ?_ _) | (with_reducible refine zz20 ?_)));(case side2=>exact HC0.out);rintro e w16 ⟨rfl,hb⟩;refine ⟨_,rfl,?_⟩;have n0_:=zz31 (zz4 (by repeat first | exact HB.out | apply zz2 | apply zz0 | apply zz1) hb);clear HB;have HB:=n0_;clear n0_;(try clear hb);(try clear hb2);(try clear hk);(try clear hi)))
     go_ret2
     exact ⟨by first | rfl | (simp [errW_none,errW_some] <;> rfl) | (simp [*,errW_none,errW_some] <;> rfl),by repeat first | exact HB.out | apply zz2 | apply zz0 | apply zz1⟩

/-! ### impl_HangTogether: function 38 -/
def impl_HangTogether.j0:Nat→List Int→Int→Bool→Option (Bool × Bool)
 | 0,_,_,_=>none
 | k+1,x0,x4,x13=>if x13=true then (some (false,false)) else ((impl_canBe.f k x0).bind fun t377=>(if t377=true then (if x4=1 then ((impl_sum.f k x0).bind fun t378=>(some (decide (t378 ≥ (wrap64 (2 * (wrap64 (x4 - 1))))),true))) else ((slices_Contains_int_int.f k x0 0).bind fun t379=>(if t379=true then (some (false,true)) else ((impl_sum.f k x0).bind fun t380=>(some (decide (t380 ≥ (wrap64 (2 * (wrap64 (x4 - 1))))),true)))))) else (some (false,true))))
def impl_HangTogether.f (k:Nat) (l0:List Int):Option (Bool × Bool):=(impl_IsNumbers.f l0).bind fun t376=>(if t376=true then (impl_HangTogether.j0 k l0 (l0.length:Int) ((l0.length:Int) == 0)) else (impl_HangTogether.j0 k l0 (l0.length:Int) true))
theorem impl_HangTogether.mono_l:∀ k,(∀ y0 y1 y2,LeO (impl_HangTogether.j0 k y0 y1 y2) (impl_HangTogether.j0 (k+1) y0 y1 y2))
 | 0=>fun _ _ _ r h=>by simp [impl_HangTogether.j0] at h
 | k+1=>by
  have ih0:=impl_HangTogether.mono_l k
  ·intro y0 y1 y2
   unfold impl_HangTogether.j0
   repeat' first
   | (with_reducible exact ih0 _ _ _)
   | (with_reducible exact impl_canBe.mono _ _)
   | (with_reducible exact impl_sum.mono _ _)
   | (with_reducible exact slices_Contains_int_int.mono _ _ _)
   | (with_reducible exact LeO.refl _)
   | (with_reducible exact LeO.none _)
   | (with_reducible refine LeO.ite ?_ ?_)
   | (with_reducible refine LeO.bind ?_ (fun _=>?_))
   | exact ih0 _ _ _
   | exact impl_canBe.mono _ _
   | exact impl_sum.mono _ _
   | exact slices_Contains_int_int.mono _ _ _
   | exact LeO.none _
   | refine LeO.ite ?_ ?_
   | refine LeO.bind ?_ (fun _=>?_)
theorem impl_HangTogether.mono:∀ a0 k,LeO (impl_HangTogether.f k a0) (impl_HangTogether.f (k+1) a0):=by
 intro a0 k
 have ih0:=impl_HangTogether.mono_l k
 unfold impl_HangTogether.f
 repeat' first
   | (with_reducible exact ih0 _ _ _)
   | (with_reducible exact impl_canBe.mono _ _)
   | (with_reducible exact impl_sum.mono _ _)
   | (with_reducible exact slices_Contains_int_int.mono _ _ _)
   | (with_reducible exact LeO.refl _)
   | (with_reducible exact LeO.none _)
   | (with_reducible refine LeO.ite ?_ ?_)
   | (with_reducible refine LeO.bind ?_ (fun _=>?_))
   | exact ih0 _ _ _
   | exact impl_canBe.mono _ _
   | exact impl_sum.mono _ _
   | exact slices_Contains_int_int.mono _ _ _
   | exact LeO.none _
   | refine LeO.ite ?_ ?_
   | refine LeO.bind ?_ (fun _=>?_)
set_option maxHeartbeats 8000000 in
set_option maxRecDepth 100000 in
theorem impl_HangTogether.calls (k:Nat) (A0:Option Addr) (c0:Nat) (l0:List Int) (r1:Bool) (r2:Bool) (w:World) (hr0:Kd.C (Kd.int .i64) w A0 l0.length l0) (hc0:l0.length≤c0) (h:impl_HangTogether.f k l0=some (r1,r2)) :
  Calls Try.prog 38 #[.slice A0 l0.length c0] w fun e w'=>e=.returned (.tuple #[.bool r1,.bool r2])∧Below w.heap.size w w':=by
 have HR0:=zz31 hr0
 have HC0:=zz31 hc0
 clear hr0 hc0
 have HB:=zz31 (Below.refl w.heap.size w)
 have H:((impl_IsNumbers.f l0).bind fun t376=>(if t376=true then (impl_HangTogether.j0 k l0 (l0.length:Int) ((l0.length:Int) == 0)) else (impl_HangTogether.j0 k l0 (l0.length:Int) true)))=some (r1,r2):=h
 clear h
 have HC2:=zz31 H
 clear H
 go_enter Try.func38,Try.ntmps38
 go_upto_region 2 with (fail)
 go_cut [13] (fun v13 wc=>∃ (kq:Nat) (x13_1:Bool),v13=.bool x13_1∧Aside0 (impl_HangTogether.j0 kq l0 (l0.length:Int) x13_1=some (r1,r2))∧Aside0 (kq≤k)∧Aside0 (Below w.heap.size w wc))
 case first =>
  have H:=HC2.out
  clear HC2
  replace H:=zz30.mp H
  obtain ⟨t376,A30,H⟩:=H
  replace H:(if t376=true then (impl_HangTogether.j0 k l0 (l0.length:Int) ((l0.length:Int) == 0)) else (impl_HangTogether.j0 k l0 (l0.length:Int) true))=some (r1,r2):=H
  have A3:=zz31 A30
  clear A30
  by_cases c4:t376=true
  ·subst c4
   have H1:(impl_HangTogether.j0 k l0 (l0.length:Int) ((l0.length:Int) == 0))=some (r1,r2):=by rw [if_pos rfl] at H;exact H
   clear H
   have H:=H1
   clear H1
   have H':=zz31 H
   clear H
   go_wp2_with (first | ((with_reducible refine gate_callee (f:=62) rfl ?_);refine goesL_ (some 8) rfl rfl Try.func62 (by kernel_rfl) rfl #[.slice A0 l0.length c0] rfl (by (try simp only [zz26,zz27,zz28]);first | done | rfl | (simp only [zz24,zz25];rfl)) ?_;(with_reducible refine (impl_IsNumbers.calls _ _ l0 true _ ?side1 ?side2 A3.out).mono ?_);(case side1=>repeat (first | exact (Kd.C_below HR0.out HB.out) | (with_reducible refine zz18 ?_ _) | (with_reducible refine zz19 ?_ _) | (with_reducible refine zz20 ?_)));(case side2=>exact HC0.out);rintro e w5 ⟨rfl,hb⟩;refine ⟨_,rfl,?_⟩;have n0_:=zz31 (zz4 (by repeat first | exact HB.out | apply zz2 | apply zz0 | apply zz1) hb);clear HB;have HB:=n0_;clear n0_;(try clear hb);(try clear hb2);(try clear hk);(try clear hi)))
   go_meet
   case rel=>exact ⟨_,(((l0.length:Int) == 0)),(by first | rfl | (simp;done) | (simp [*];done)),H',⟨by first | omega | exact Nat.le_refl _⟩,⟨by repeat first | exact HB.out | apply zz2 | apply zz0 | apply zz1⟩⟩
  ·replace c4:=Bool.eq_false_iff.mpr c4
   subst c4
   have H1:(impl_HangTogether.j0 k l0 (l0.length:Int) true)=some (r1,r2):=by rw [if_neg (show ¬ (false=true) by decide)] at H;exact H
   clear H
   have H:=H1
   clear H1
   have H':=zz31 H
   clear H
   go_wp2_with (first | ((with_reducible refine gate_callee (f:=62) rfl ?_);refine goesL_ (some 8) rfl rfl Try.func62 (by kernel_rfl) rfl #[.slice A0 l0.length c0] rfl (by (try simp only [zz26,zz27,zz28]);first | done | rfl | (simp only [zz24,zz25];rfl)) ?_;(with_reducible refine (impl_IsNumbers.calls _ _ l0 false _ ?side1 ?side2 A3.out).mono ?_);(case side1=>repeat (first | exact (Kd.C_below HR0.out HB.out) | (with_reducible refine zz18 ?_ _) | (with_reducible refine zz19 ?_ _) | (with_reducible refine zz20 ?_)));(case side2=>exact HC0.out);rintro e w6 ⟨rfl,hb⟩;refine ⟨_,rfl,?_⟩;have n0_:=zz31 (zz4 (by repeat first | exact HB.out | apply zz2 | apply zz0 | apply zz1) hb);clear HB;have HB:=n0_;clear n0_;(try clear hb);(try clear hb2);(try clear hk);(try clear hi)))
   go_meet
   case rel=>exact ⟨_,(true),(by first | rfl | (simp;done) | (simp [*];done)),H',⟨by first | omega | exact Nat.le_refl _⟩,⟨by repeat first | exact HB.out | apply zz2 | apply zz0 | apply zz1⟩⟩
 case rest =>
  clear HC2
  try clear p2
  try clear c3
  try clear c4
  try clear c6
  obtain ⟨kq,x13_1,rfl,HA,HJ1,HB⟩:=hcut
  cases kq with
  | zero=>exact absurd HA.out (by simp [impl_HangTogether.j0])
  | succ kj1 =>
   have H:=HA.out
   clear HA
   simp only [impl_HangTogether.j0] at H
   by_cases c7:x13_1=true
   ·subst c7
    have H1:(some (false,false))=some (r1,r2):=by rw [if_pos rfl] at H;exact H
    clear H
    have H:=H1
    clear H1
    simp only [Option.some.injEq,Prod.mk.injEq] at H
    obtain ⟨rfl,rfl⟩:=H
    go_wp2
    go_ret2
    exact ⟨by first | rfl | (simp [errW_none,errW_some] <;> rfl) | (simp [*,errW_none,errW_some] <;> rfl),by repeat first | exact HB.out | apply zz2 | apply zz0 | apply zz1⟩
   ·replace c7:=Bool.eq_false_iff.mpr c7
    subst c7
    have H1:((impl_canBe.f kj1 l0).bind fun t377=>(if t377=true then (if (l0.length:Int)=1 then ((impl_sum.f kj1 l0).bind fun t378=>(some (decide (t378 ≥ (wrap64 (2 * (wrap64 ((l0.length:Int) - 1))))),true))) else ((slices_Contains_int_int.f kj1 l0 0).bind fun t379=>(if t379=true then (some (false,true)) else ((impl_sum.f kj1 l0).bind fun t380=>(some (decide (t380 ≥ (wrap64 (2 * (wrap64 ((l0.length:Int) - 1))))),true)))))) else (some (false,true))))=some (r1,r2):=by rw [if_neg (show ¬ (false=true) by decide)] at H;exact H
    clear H
    have H:=H1
    clear H1
    replace H:=zz30.mp H
    obtain ⟨t377,A80,H⟩:=H
    replace H:(if t377=true then (if (l0.length:Int)=1 then ((impl_sum.f kj1 l0).bind fun t378=>(some (decide (t378 ≥ (wrap64 (2 * (wrap64 ((l0.length:Int) - 1))))),true))) else ((slices_Contains_int_int.f kj1 l0 0).bind fun t379=>(if t379=true then (some (false,true)) else ((impl_sum.f kj1 l0).bind fun t380=>(some (decide (t380 ≥ (wrap64 (2 * (wrap64 ((l0.length:Int) - 1))))),true)))))) else (some (false,true)))=some (r1,r2):=H
    have A8:=zz31 A80
    clear A80
    by_cases c9:t377=true
    ·subst c9
     have H1:(if (l0.length:Int)=1 then ((impl_sum.f kj1 l0).bind fun t378=>(some (decide (t378 ≥ (wrap64 (2 * (wrap64 ((l0.length:Int) - 1))))),true))) else ((slices_Contains_int_int.f kj1 l0 0).bind fun t379=>(if t379=true then (some (false,true)) else ((impl_sum.f kj1 l0).bind fun t380=>(some (decide (t380 ≥ (wrap64 (2 * (wrap64 ((l0.length:Int) - 1))))),true))))))=some (r1,r2):=by rw [if_pos rfl] at H;exact H
     clear H
     have H:=H1
     clear H1
     by_cases c10:(l0.length:Int)=1
     ·rw [if_pos c10] at H
      have c10b0:((l0.length:Int) == 1)=true:=beq_iff_eq.mpr c10
      have c10b1:((l0.length:Int) != 1)=false:=bne_eq_false_iff_eq.mpr c10
      clear c10
      replace H:=zz30.mp H
      obtain ⟨t378,A110,H⟩:=H
      replace H:(some (decide (t378 ≥ (wrap64 (2 * (wrap64 ((l0.length:Int) - 1))))),true))=some (r1,r2):=H
      have A11:=zz31 A110
      clear A110
      simp only [Option.some.injEq,Prod.mk.injEq] at H
      obtain ⟨rfl,rfl⟩:=H
      go_wp2_with (first | ((with_reducible refine gate_callee (f:=75) rfl ?_);refine goesL_ (some 15) rfl rfl Try.func75 (by kernel_rfl) rfl #[.slice A0 l0.length c0] rfl (by (try simp only [zz26,zz27,zz28]);first | done | rfl | (simp only [zz24,zz25];rfl)) ?_;(with_reducible refine (impl_canBe.calls kj1 _ _ l0 true _ ?side1 ?side2 A8.out).mono ?_);(case side1=>repeat (first | exact (Kd.C_below HR0.out HB.out) | (with_reducible refine zz18 ?_ _) | (with_reducible refine zz19 ?_ _) | (with_reducible refine zz20 ?_)));(case side2=>exact HC0.out);rintro e w12 ⟨rfl,hb⟩;refine ⟨_,rfl,?_⟩;have n0_:=zz31 (zz4 (by repeat first | exact HB.out | apply zz2 | apply zz0 | apply zz1) hb);clear HB;have HB:=n0_;clear n0_;(try clear hb);(try clear hb2);(try clear hk);(try clear hi)) | (go_at_call 64;(with_reducible refine (impl_sum.calls kj1 _ _ l0 t378 _ ?side1 ?side2 A11.out).mono ?_);(case side1=>repeat (first | exact (Kd.C_below HR0.out HB.out) | (with_reducible refine zz18 ?_ _) | (with_reducible refine zz19 ?_ _) | (with_reducible refine zz20 ?_)));(case side2=>exact HC0.out);rintro e w' ⟨rfl,⟨nd,rfl⟩⟩))
      go_ret2
      exact ⟨by first | rfl | (simp [errW_none,errW_some] <;> rfl) | (simp [*,errW_none,errW_some] <;> rfl),by repeat first | exact HB.out | apply zz2 | apply zz0 | apply zz1⟩
     ·rw [if_neg c10] at H
      have c10b0:((l0.length:Int) == 1)=false:=beq_eq_false_iff_ne.mpr c10
      have c10b1:((l0.length:Int) != 1)=true:=bne_iff_ne.mpr c10
      replace H:=zz30.mp H
      obtain ⟨t379,A130,H⟩:=H
      replace H:(if t379=true then (some (false,true)) else ((impl_sum.f kj1 l0).bind fun t380=>(some (decide (t380 ≥ (wrap64 (2 * (wrap64 ((l0.length:Int) - 1))))),true))))=some (r1,r2):=H
      have A13:=zz31 A130
      clear A130
      by_cases c14:t379=true
      ·subst c14
       have H1:(some (false,true))=some (r1,r2):=by rw [if_pos rfl] at H;exact H
       clear H
       have H:=H1
       clear H1
       simp only [Option.some.injEq,Prod.mk.injEq] at H
       obtain ⟨rfl,rfl⟩:=H
       go_wp2_with (first | ((with_reducible refine gate_callee (f:=75) rfl ?_);refine goesL_ (some 15) rfl rfl Try.func75 (by kernel_rfl) rfl #[.slice A0 l0.length c0] rfl (by (try simp only [zz26,zz27,zz28]);first | done | rfl | (simp only [zz24,zz25];rfl)) ?_;(with_reducible refine (impl_canBe.calls kj1 _ _ l0 true _ ?side1 ?side2 A8.out).mono ?_);(case side1=>repeat (first | exact (Kd.C_below HR0.out HB.out) | (with_reducible refine zz18 ?_ _) | (with_reducible refine zz19 ?_ _) | (with_reducible refine zz20 ?_)));(case side2=>exact HC0.out);rintro e w15 ⟨rfl,hb⟩;refine ⟨_,rfl,?_⟩;have n0_:=zz31 (zz4 (by repeat first | exact HB.out | apply zz2 | apply zz0 | apply zz1) hb);clear HB;have HB:=n0_;clear n0_;(try clear hb);(try clear hb2);(try clear hk);(try clear hi)) | (go_at_call 63;(with_reducible refine (slices_Contains_int_int.calls kj1 _ _ l0 0 true _ ?side1 ?side2 A13.out).mono ?_);(case side1=>repeat (first | exact (Kd.C_below HR0.out HB.out) | (with_reducible refine zz18 ?_ _) | (with_reducible refine zz19 ?_ _) | (with_reducible refine zz20 ?_)));(case side2=>exact HC0.out);rintro e w' ⟨rfl,⟨nd,rfl⟩⟩))
       go_ret2
       exact ⟨by first | rfl | (simp [errW_none,errW_some] <;> rfl) | (simp [*,errW_none,errW_some] <;> rfl),by repeat first | exact HB.out | apply zz2 | apply zz0 | apply zz1⟩
      ·replace c14:=Bool.eq_false_iff.mpr c14
       subst c14
       have H1:((impl_sum.f kj1 l0).bind fun t380=>(some (decide (t380 ≥ (wrap64 (2 * (wrap64 ((l0.length:Int) - 1))))),true)))=some (r1,r2):=by rw [if_neg (show ¬ (false=true) by decide)] at H;exact H
       clear H
       have H:=H1
       clear H1
       replace H:=zz30.mp H
       obtain ⟨t380,A160,H⟩:=H
       replace H:(some (decide (t380 ≥ (wrap64 (2 * (wrap64 ((l0.length:Int) - 1))))),true))=some (r1,r2):=H
       have A16:=zz31 A160
       clear A160
       simp only [Option.some.injEq,Prod.mk.injEq] at H
       obtain ⟨rfl,rfl⟩:=H
       go_wp2_with (first | ((with_reducible refine gate_callee (f:=75) rfl ?_);refine goesL_ (some 15) rfl rfl Try.func75 (by kernel_rfl) rfl #[.slice A0 l0.length c0] rfl (by (try simp only [zz26,zz27,zz28]);first | done | rfl | (simp only [zz24,zz25];rfl)) ?_;(with_reducible refine (impl_canBe.calls kj1 _ _ l0 true _ ?side1 ?side2 A8.out).mono ?_);(case side1=>repeat (first | exact (Kd.C_below HR0.out HB.out) | (with_reducible refine zz18 ?_ _) | (with_reducible refine zz19 ?_ _) | (with_reducible refine zz20 ?_)));(case side2=>exact HC0.out);rintro e w17 ⟨rfl,hb⟩;refine ⟨_,rfl,?_⟩;have n0_:=zz31 (zz4 (by repeat first | exact HB.out | apply zz2 | apply zz0 | apply zz1) hb);clear HB;have HB:=n0_;clear n0_;(try clear hb);(try clear hb2);(try clear hk);(try clear hi)) | (go_at_call 63;(with_reducible refine (slices_Contains_int_int.calls kj1 _ _ l0 0 false _ ?side1 ?side2 A13.out).mono ?_);(case side1=>repeat (first | exact (Kd.C_below HR0.out HB.out) | (with_reducible refine zz18 ?_ _) | (with_reducible refine zz19 ?_ _) | (with_reducible refine zz20 ?_)));(case side2=>exact HC0.out);rintro e w' ⟨rfl,⟨nd,rfl⟩⟩) | (go_at_call 64;(with_reducible refine (impl_sum.calls kj1 _ _ l0 t380 _ ?side1 ?side2 A16.out).mono ?_);(case side1=>repeat (first | exact (Kd.C_below HR0.out (by repeat first | exact HB.out | apply zz2 | apply zz0 | apply zz1)) | (with_reducible refine zz18 ?_ _) | (with_reducible refine zz19 ?_ _) | (with_reducible refine zz20 ?_)));(case side2=>exact HC0.out);rintro e w' ⟨rfl,⟨nd,rfl⟩⟩))
       go_ret2
       exact ⟨by first | rfl | (simp [errW_none,errW_some] <;> rfl) | (simp [*,errW_none,errW_some] <;> rfl),by repeat first | exact HB.out | apply zz2 | apply zz0 | apply zz1⟩
    ·replace c9:=Bool.eq_false_iff.mpr c9
     subst c9
     have H1:(some (false,true))=some (r1,r2):=by rw [if_neg (show ¬ (false=true) by decide)] at H;exact H
     clear H
     have H:=H1
     clear H1
     simp only [Option.some.injEq,Prod.mk.injEq] at H
     obtain ⟨rfl,rfl⟩:=H
     go_wp2_with (first | ((with_reducible refine gate_callee (f:=75) rfl ?_);refine goesL_ (some 15) rfl rfl Try.func75 (by kernel_rfl) rfl #[.slice A0 l0.length c0] rfl (by (try simp only [zz26,zz27,zz28]);first | done | rfl | (simp only [zz24,zz25];rfl)) ?_;(with_reducible refine (impl_canBe.calls kj1 _ _ l0 false _ ?side1 ?side2 A8.out).mono ?_);(case side1=>repeat (first | exact (Kd.C_below HR0.out HB.out) | (with_reducible refine zz18 ?_ _) | (with_reducible refine zz19 ?_ _) | (with_reducible refine zz20 ?_)));(case side2=>exact HC0.out);rintro e w18 ⟨rfl,hb⟩;refine ⟨_,rfl,?_⟩;have n0_:=zz31 (zz4 (by repeat first | exact HB.out | apply zz2 | apply zz0 | apply zz1) hb);clear HB;have HB:=n0_;clear n0_;(try clear hb);(try clear hb2);(try clear hk);(try clear hi)))
     go_ret2
     exact ⟨by first | rfl | (simp [errW_none,errW_some] <;> rfl) | (simp [*,errW_none,errW_some] <;> rfl),by repeat first | exact HB.out | apply zz2 | apply zz0 | apply zz1⟩

/-! ### laws_FnExactHangTogether: function 11 -/
def laws_FnExactHangTogether.j0:Nat→List Int→List Int→Bool→Option (Bool)
 | 0,_,_,_=>none
 | k+1,x0,x5,x31=>if x31=true then (some false) else ((laws_toIntS.f k x0).bind fun t391=>((laws_eqIntS.f k x5 t391).bind fun t394=>(if t394=true then (some true) else (some false))))
def laws_FnExactHangTogether.f (k:Nat) (l0:List Int):Option (Bool):=if (l0.length:Int) > 1048576 then (some true) else ((laws_toIntS.f k l0).bind fun t381=>((spec_HangTogether.f k t381).bind fun bt384=>((laws_toIntS.f k l0).bind fun t386=>((impl_HangTogether.f k t386).bind fun bt389=>(if (bt389.1 != bt384.1)=true then (laws_FnExactHangTogether.j0 k l0 t386 true) else (laws_FnExactHangTogether.j0 k l0 t386 (bt389.2 != bt384.2)))))))
theorem laws_FnExactHangTogether.mono_l:∀ k,(∀ y0 y1 y2,LeO (laws_FnExactHangTogether.j0 k y0 y1 y2) (laws_FnExactHangTogether.j0 (k+1) y0 y1 y2))
 | 0=>fun _ _ _ r h=>by simp [laws_FnExactHangTogether.j0] at h
 | k+1=>by
  have ih0:=laws_FnExactHangTogether.mono_l k
  ·intro y0 y1 y2
   unfold laws_FnExactHangTogether.j0
   repeat' first
   | (with_reducible exact ih0 _ _ _)
   | (with_reducible exact impl_HangTogether.mono _ _)
   | (with_reducible exact laws_eqIntS.mono _ _ _)
   | (with_reducible exact laws_toIntS.mono _ _)
   | (with_reducible exact spec_HangTogether.mono _ _)
   | (with_reducible exact LeO.refl _)
   | (with_reducible exact LeO.none _)
   | (with_reducible refine LeO.ite ?_ ?_)
   | (with_reducible refine LeO.bind ?_ (fun _=>?_))
   | exact ih0 _ _ _
   | exact impl_HangTogether.mono _ _
   | exact laws_eqIntS.mono _ _ _
   | exact laws_toIntS.mono _ _
   | exact spec_HangTogether.mono _ _
   | exact LeO.none _
   | refine LeO.ite ?_ ?_
   | refine LeO.bind ?_ (fun _=>?_)
theorem laws_FnExactHangTogether.mono:∀ a0 k,LeO (laws_FnExactHangTogether.f k a0) (laws_FnExactHangTogether.f (k+1) a0):=by
 intro a0 k
 have ih0:=laws_FnExactHangTogether.mono_l k
 unfold laws_FnExactHangTogether.f
 repeat' first
   | (with_reducible exact ih0 _ _ _)
   | (with_reducible exact impl_HangTogether.mono _ _)
   | (with_reducible exact laws_eqIntS.mono _ _ _)
   | (with_reducible exact laws_toIntS.mono _ _)
   | (with_reducible exact spec_HangTogether.mono _ _)
   | (with_reducible exact LeO.refl _)
   | (with_reducible exact LeO.none _)
   | (with_reducible refine LeO.ite ?_ ?_)
   | (with_reducible refine LeO.bind ?_ (fun _=>?_))
   | exact ih0 _ _ _
   | exact impl_HangTogether.mono _ _
   | exact laws_eqIntS.mono _ _ _
   | exact laws_toIntS.mono _ _
   | exact spec_HangTogether.mono _ _
   | exact LeO.none _
   | refine LeO.ite ?_ ?_
   | refine LeO.bind ?_ (fun _=>?_)
set_option maxHeartbeats 8000000 in
set_option maxRecDepth 100000 in
theorem laws_FnExactHangTogether.calls (k:Nat) (A0:Option Addr) (c0:Nat) (l0:List Int) (r:Bool) (w:World) (hr0:Kd.C (Kd.int .i64) w A0 l0.length l0) (hc0:l0.length≤c0) (h:laws_FnExactHangTogether.f k l0=some r) :
  Calls Try.prog 11 #[.slice A0 l0.length c0] w fun e w'=>e=.returned (.bool r)∧Below w.heap.size w w':=by
 have HR0:=zz31 hr0
 have HC0:=zz31 hc0
 clear hr0 hc0
 have HB:=zz31 (Below.refl w.heap.size w)
 have H:(if (l0.length:Int) > 1048576 then (some true) else ((laws_toIntS.f k l0).bind fun t381=>((spec_HangTogether.f k t381).bind fun bt384=>((laws_toIntS.f k l0).bind fun t386=>((impl_HangTogether.f k t386).bind fun bt389=>(if (bt389.1 != bt384.1)=true then (laws_FnExactHangTogether.j0 k l0 t386 true) else (laws_FnExactHangTogether.j0 k l0 t386 (bt389.2 != bt384.2))))))))=some r:=h
 clear h
 by_cases c2:(l0.length:Int) > 1048576
 ·rw [if_pos c2] at H
  have c2b0:decide (1048576 < (l0.length:Int))=true:=decide_eq_true c2
  have c2b1:decide (1048576 < l0.length)=true:=decide_eq_true (by omega)
  clear c2
  obtain rfl:=Option.some.inj H
  go_enter Try.func11,Try.ntmps11
  go_wp2
  go_ret
  exact ⟨by first | rfl | (simp [errW_none,errW_some] <;> rfl) | (simp [*,errW_none,errW_some] <;> rfl),by repeat first | exact HB.out | apply zz2 | apply zz0 | apply zz1⟩
 ·rw [if_neg c2] at H
  have c2b0:decide (1048576 < (l0.length:Int))=false:=decide_eq_false c2
  have c2b1:decide (1048576 < l0.length)=false:=decide_eq_false (by omega)
  clear c2
  replace H:=zz30.mp H
  obtain ⟨t381,A30,H⟩:=H
  replace H:((spec_HangTogether.f k t381).bind fun bt384=>((laws_toIntS.f k l0).bind fun t386=>((impl_HangTogether.f k t386).bind fun bt389=>(if (bt389.1 != bt384.1)=true then (laws_FnExactHangTogether.j0 k l0 t386 true) else (laws_FnExactHangTogether.j0 k l0 t386 (bt389.2 != bt384.2))))))=some r:=H
  have A3:=zz31 A30
  clear A30
  replace H:=zz30.mp H
  obtain ⟨⟨t384,t385⟩,A40,H⟩:=H
  replace H:((laws_toIntS.f k l0).bind fun t386=>((impl_HangTogether.f k t386).bind fun bt389=>(if (bt389.1 != t384)=true then (laws_FnExactHangTogether.j0 k l0 t386 true) else (laws_FnExactHangTogether.j0 k l0 t386 (bt389.2 != t385)))))=some r:=H
  have A4:=zz31 A40
  clear A40
  replace H:=zz30.mp H
  obtain ⟨t386,A50,H⟩:=H
  replace H:((impl_HangTogether.f k t386).bind fun bt389=>(if (bt389.1 != t384)=true then (laws_FnExactHangTogether.j0 k l0 t386 true) else (laws_FnExactHangTogether.j0 k l0 t386 (bt389.2 != t385))))=some r:=H
  have A5:=zz31 A50
  clear A50
  replace H:=zz30.mp H
  obtain ⟨⟨t389,t390⟩,A60,H⟩:=H
  replace H:(if (t389 != t384)=true then (laws_FnExactHangTogether.j0 k l0 t386 true) else (laws_FnExactHangTogether.j0 k l0 t386 (t390 != t385)))=some r:=H
  have A6:=zz31 A60
  clear A60
  have HC7:=zz31 H
  clear H
  go_enter Try.func11,Try.ntmps11
  go_upto_region 6 with (first | ((with_reducible refine gate_callee (f:=15) rfl ?_);refine goesL_ (some 13) rfl rfl Try.func15 (by kernel_rfl) rfl #[.slice A0 l0.length c0] rfl (by (try simp only [zz26,zz27,zz28]);first | done | rfl | (simp only [zz24,zz25];rfl)) ?_;(with_reducible refine (laws_toIntS.calls k _ _ l0 t381 _ ?side1 ?side2 A3.out).mono ?_);(case side1=>repeat (first | exact HR0.out | (with_reducible refine zz18 ?_ _) | (with_reducible refine zz19 ?_ _) | (with_reducible refine zz20 ?_)));(case side2=>exact HC0.out);rintro e w8 ⟨v382,rfl,ho0,hb⟩;refine ⟨_,rfl,?_⟩;have n0_:=zz31 (Kd.R_lower ho0 (zz5 (by repeat first | exact HB.out | apply zz2 | apply zz0 | apply zz1)));have n1_:=zz31 (zz4 (by repeat first | exact HB.out | apply zz2 | apply zz0 | apply zz1) hb);clear HB;have HO383:=n0_;have HB:=n1_;clear n0_ n1_;(try clear hb);(try clear hb2);(try clear hk);(try clear hi);(try clear ho0);obtain ⟨Ao9,co9,eo9⟩:=Kd.R_slice HO383.out;subst eo9) | ((with_reducible refine gate_callee (f:=37) rfl ?_);refine goesL_ (some 14) rfl rfl Try.func37 (by kernel_rfl) rfl #[.slice Ao9 t381.length co9] rfl (by (try simp only [zz26,zz27,zz28]);first | done | rfl | (simp only [zz24,zz25];rfl)) ?_;(with_reducible refine (spec_HangTogether.calls k _ _ t381 t384 t385 _ ?side1 ?side2 A4.out).mono ?_);(case side1=>repeat (first | exact (Kd.R_reads' HO383.out).2.2 | (with_reducible refine zz18 ?_ _) | (with_reducible refine zz19 ?_ _) | (with_reducible refine zz20 ?_)));(case side2=>exact (Kd.R_reads' HO383.out).2.1);rintro e w10 ⟨rfl,hb⟩;refine ⟨_,rfl,?_⟩;have n0_:=zz31 (Kd.R_below (by (with_reducible repeat (first | apply zz12 | apply zz13 | apply zz14));exact HO383.out) hb);have n1_:=zz31 (zz4 (by repeat first | exact HB.out | apply zz2 | apply zz0 | apply zz1) hb);clear HO383;clear HB;have HO383:=n0_;have HB:=n1_;clear n0_ n1_;(try clear hb);(try clear hb2);(try clear hk);(try clear hi)) | ((with_reducible refine gate_callee (f:=15) rfl ?_);refine goesL_ (some 18) rfl rfl Try.func15 (by kernel_rfl) rfl #[.slice A0 l0.length c0] rfl (by (try simp only [zz26,zz27,zz28]);first | done | rfl | (simp only [zz24,zz25];rfl)) ?_;(with_reducible refine (laws_toIntS.calls k _ _ l0 t386 _ ?side1 ?side2 A5.out).mono ?_);(case side1=>repeat (first | exact (Kd.C_below HR0.out HB.out) | (with_reducible refine zz18 ?_ _) | (with_reducible refine zz19 ?_ _) | (with_reducible refine zz20 ?_)));(case side2=>exact HC0.out);rintro e w11 ⟨v387,rfl,ho0,hb⟩;refine ⟨_,rfl,?_⟩;have n0_:=zz31 (Kd.R_elder' (by (with_reducible repeat (first | apply zz12 | apply zz13 | apply zz14));exact HO383.out) (Kd.R_base ho0) hb);have n1_:=zz31 (Kd.R_lower (Kd.R_new' ho0 (Kd.R_lt (by (with_reducible repeat (first | apply zz12 | apply zz13 | apply zz14));exact HO383.out))) (zz5 (by repeat first | exact HB.out | apply zz2 | apply zz0 | apply zz1)));have n2_:=zz31 (zz4 (by repeat first | exact HB.out | apply zz2 | apply zz0 | apply zz1) hb);clear HO383;clear HB;have HO383:=n0_;have HO388:=n1_;have HB:=n2_;clear n0_ n1_ n2_;(try clear hb);(try clear hb2);(try clear hk);(try clear hi);(try clear ho0);obtain ⟨Ao12,co12,eo12⟩:=Kd.R_slice HO388.out;subst eo12) | ((with_reducible refine gate_callee (f:=38) rfl ?_);refine goesL_ (some 21) rfl rfl Try.func38 (by kernel_rfl) rfl #[.slice Ao12 t386.length co12] rfl (by (try simp only [zz26,zz27,zz28]);first | done | rfl | (simp only [zz24,zz25];rfl)) ?_;(with_reducible refine (impl_HangTogether.calls k _ _ t386 t389 t390 _ ?side1 ?side2 A6.out).mono ?_);(case side1=>repeat (first | exact (Kd.R_reads' HO388.out).2.2 | (with_reducible refine zz18 ?_ _) | (with_reducible refine zz19 ?_ _) | (with_reducible refine zz20 ?_)));(case side2=>exact (Kd.R_reads' HO388.out).2.1);rintro e w13 ⟨rfl,hb⟩;refine ⟨_,rfl,?_⟩;have n0_:=zz31 (Kd.R_below (by (with_reducible repeat (first | apply zz12 | apply zz13 | apply zz14));exact HO383.out) hb);have n1_:=zz31 (Kd.R_below (by (with_reducible repeat (first | apply zz12 | apply zz13 | apply zz14));exact HO388.out) hb);have n2_:=zz31 (zz4 (by repeat first | exact HB.out | apply zz2 | apply zz0 | apply zz1) hb);clear HO383;clear HO388;clear HB;have HO383:=n0_;have HO388:=n1_;have HB:=n2_;clear n0_ n1_ n2_;(try clear hb);(try clear hb2);(try clear hk);(try clear hi)))
  (try simp only [Act.put,zz21,zz22,zz23])
  go_cut [31] (fun v31 wc=>∃ (kq:Nat) (x31_6:Bool),v31=.bool x31_6∧Aside0 (laws_FnExactHangTogether.j0 kq l0 t386 x31_6=some r)∧Aside0 (kq≤k)∧Aside0 (Kd.R (Kd.int .i64) 3 wc w.heap.size (fun _=>True) (.slice Ao12 t386.length co12) t386)∧Aside0 (Below w.heap.size w wc))
  case first =>
   have H:=HC7.out
   clear HC7
   by_cases c14:(t389 != t384)=true
   ·rw [if_pos c14] at H
    have c14b0:(t389 != t384)=true:=c14
    (try (have c14b1:decide (t389=t384)=false:=by simpa using c14))
    (try (have c14b2:(t389 == t384)=false:=by simpa using c14))
    (try (have c14b3:¬ (t389=t384):=by simpa using c14))
    clear c14
    (first | rw [c14b0] | (simp only [i64_w,i32_w];rw [c14b0]) | skip)
    have H':=zz31 H
    clear H
    go_wp2
    go_meet
    case rel=>exact ⟨_,(true),(by first | rfl | (simp;done) | (simp [*];done)),H',⟨by first | omega | exact Nat.le_refl _⟩,⟨by (with_reducible repeat (first | apply zz12 | apply zz13 | apply zz14));exact Kd.R_mono HO388.out (fun _ hk=>trivial)⟩,⟨by repeat first | exact HB.out | apply zz2 | apply zz0 | apply zz1⟩⟩
   ·rw [if_neg c14] at H
    have c14b0:(t389 != t384)=false:=by simpa using c14
    (try (have c14b1:decide (t389=t384)=true:=by simpa using c14))
    (try (have c14b2:(t389 == t384)=true:=by simpa using c14))
    clear c14
    (first | rw [c14b0] | (simp only [i64_w,i32_w];rw [c14b0]) | skip)
    have H':=zz31 H
    clear H
    go_wp2
    go_meet
    case rel=>exact ⟨_,((t390 != t385)),(by first | rfl | (simp;done) | (simp [*];done)),H',⟨by first | omega | exact Nat.le_refl _⟩,⟨by (with_reducible repeat (first | apply zz12 | apply zz13 | apply zz14));exact Kd.R_mono HO388.out (fun _ hk=>trivial)⟩,⟨by repeat first | exact HB.out | apply zz2 | apply zz0 | apply zz1⟩⟩
  case rest =>
   clear HC7
   try clear c1
   try clear c2
   try clear c2b0
   try clear c2b1
   try clear p2
   try clear c3
   try clear c11
   try clear c14
   try clear c14b0
   try clear c14b1
   try clear c14b2
   obtain ⟨kq,x31_6,rfl,HA,HJ6,HO_5,HB⟩:=hcut
   cases kq with
   | zero=>exact absurd HA.out (by simp [laws_FnExactHangTogether.j0])
   | succ kj6 =>
    have H:=HA.out
    clear HA
    simp only [laws_FnExactHangTogether.j0] at H
    by_cases c15:x31_6=true
    ·subst c15
     have H1:(some false)=some r:=by rw [if_pos rfl] at H;exact H
     clear H
     have H:=H1
     clear H1
     obtain rfl:=Option.some.inj H
     go_wp2
     go_ret
     exact ⟨by first | rfl | (simp [errW_none,errW_some] <;> rfl) | (simp [*,errW_none,errW_some] <;> rfl),by repeat first | exact HB.out | apply zz2 | apply zz0 | apply zz1⟩
    ·replace c15:=Bool.eq_false_iff.mpr c15
     subst c15
     have H1:((laws_toIntS.f kj6 l0).bind fun t391=>((laws_eqIntS.f kj6 t386 t391).bind fun t394=>(if t394=true then (some true) else (some false))))=some r:=by rw [if_neg (show ¬ (false=true) by decide)] at H;exact H
     clear H
     have H:=H1
     clear H1
     replace H:=zz30.mp H
     obtain ⟨t391,A160,H⟩:=H
     replace H:((laws_eqIntS.f kj6 t386 t391).bind fun t394=>(if t394=true then (some true) else (some false)))=some r:=H
     have A16:=zz31 A160
     clear A160
     replace H:=zz30.mp H
     obtain ⟨t394,A170,H⟩:=H
     replace H:(if t394=true then (some true) else (some false))=some r:=H
     have A17:=zz31 A170
     clear A170
     by_cases c18:t394=true
     ·subst c18
      have H1:(some true)=some r:=by rw [if_pos rfl] at H;exact H
      clear H
      have H:=H1
      clear H1
      obtain rfl:=Option.some.inj H
      go_wp2_with (first | ((with_reducible refine gate_callee (f:=15) rfl ?_);refine goesL_ (some 34) rfl rfl Try.func15 (by kernel_rfl) rfl #[.slice A0 l0.length c0] rfl (by (try simp only [zz26,zz27,zz28]);first | done | rfl | (simp only [zz24,zz25];rfl)) ?_;(with_reducible refine (laws_toIntS.calls kj6 _ _ l0 t391 _ ?side1 ?side2 A16.out).mono ?_);(case side1=>repeat (first | exact (Kd.C_below HR0.out HB.out) | (with_reducible refine zz18 ?_ _) | (with_reducible refine zz19 ?_ _) | (with_reducible refine zz20 ?_)));(case side2=>exact HC0.out);rintro e w19 ⟨v392,rfl,ho0,hb⟩;refine ⟨_,rfl,?_⟩;have n0_:=zz31 (Kd.R_elder' (by (with_reducible repeat (first | apply zz12 | apply zz13 | apply zz14));exact HO_5.out) (Kd.R_base ho0) hb);have n1_:=zz31 (Kd.R_lower (Kd.R_new' ho0 (Kd.R_lt (by (with_reducible repeat (first | apply zz12 | apply zz13 | apply zz14));exact HO_5.out))) (zz5 (by repeat first | exact HB.out | apply zz2 | apply zz0 | apply zz1)));have n2_:=zz31 (zz4 (by repeat first | exact HB.out | apply zz2 | apply zz0 | apply zz1) hb);clear HO_5;clear HB;have HO_5:=n0_;have HO393:=n1_;have HB:=n2_;clear n0_ n1_ n2_;(try clear hb);(try clear hb2);(try clear hk);(try clear hi);(try clear ho0);obtain ⟨Ao20,co20,eo20⟩:=Kd.R_slice HO393.out;subst eo20) | ((with_reducible refine gate_callee (f:=17) rfl ?_);refine goesL_ (some 35) rfl rfl Try.func17 (by kernel_rfl) rfl #[.slice Ao12 t386.length co12,.slice Ao20 t391.length co20] rfl (by (try simp only [zz26,zz27,zz28]);first | done | rfl | (simp only [zz24,zz25];rfl)) ?_;(with_reducible refine (laws_eqIntS.calls kj6 _ _ t386 _ _ t391 true _ ?side1 ?side2 ?side3 ?side4 A17.out).mono ?_);(case side1=>repeat (first | exact (Kd.R_reads' HO_5.out).2.2 | (with_reducible refine zz18 ?_ _) | (with_reducible refine zz19 ?_ _) | (with_reducible refine zz20 ?_)));(case side2=>exact (Kd.R_reads' HO_5.out).2.1);(case side3=>repeat (first | exact (Kd.R_reads' HO393.out).2.2 | (with_reducible refine zz18 ?_ _) | (with_reducible refine zz19 ?_ _) | (with_reducible refine zz20 ?_)));(case side4=>exact (Kd.R_reads' HO393.out).2.1);rintro e w' ⟨rfl,⟨nd,rfl⟩⟩;refine ⟨_,rfl,?_⟩))
      go_ret
      exact ⟨by first | rfl | (simp [errW_none,errW_some] <;> rfl) | (simp [*,errW_none,errW_some] <;> rfl),by repeat first | exact HB.out | apply zz2 | apply zz0 | apply zz1⟩
     ·replace c18:=Bool.eq_false_iff.mpr c18
      subst c18
      have H1:(some false)=some r:=by rw [if_neg (show ¬ (false=true) by decide)] at H;exact H
      clear H
      have H:=H1
      clear H1
      obtain rfl:=Option.some.inj H
      go_wp2_with (first | ((with_reducible refine gate_callee (f:=15) rfl ?_);refine goesL_ (some 34) rfl rfl Try.func15 (by kernel_rfl) rfl #[.slice A0 l0.length c0] rfl (by (try simp only [zz26,zz27,zz28]);first | done | rfl | (simp only [zz24,zz25];rfl)) ?_;(with_reducible refine (laws_toIntS.calls kj6 _ _ l0 t391 _ ?side1 ?side2 A16.out).mono ?_);(case side1=>repeat (first | exact (Kd.C_below HR0.out HB.out) | (with_reducible refine zz18 ?_ _) | (with_reducible refine zz19 ?_ _) | (with_reducible refine zz20 ?_)));(case side2=>exact HC0.out);rintro e w21 ⟨v392,rfl,ho0,hb⟩;refine ⟨_,rfl,?_⟩;have n0_:=zz31 (Kd.R_elder' (by (with_reducible repeat (first | apply zz12 | apply zz13 | apply zz14));exact HO_5.out) (Kd.R_base ho0) hb);have n1_:=zz31 (Kd.R_lower (Kd.R_new' ho0 (Kd.R_lt (by (with_reducible repeat (first | apply zz12 | apply zz13 | apply zz14));exact HO_5.out))) (zz5 (by repeat first | exact HB.out | apply zz2 | apply zz0 | apply zz1)));have n2_:=zz31 (zz4 (by repeat first | exact HB.out | apply zz2 | apply zz0 | apply zz1) hb);clear HO_5;clear HB;have HO_5:=n0_;have HO393:=n1_;have HB:=n2_;clear n0_ n1_ n2_;(try clear hb);(try clear hb2);(try clear hk);(try clear hi);(try clear ho0);obtain ⟨Ao22,co22,eo22⟩:=Kd.R_slice HO393.out;subst eo22) | ((with_reducible refine gate_callee (f:=17) rfl ?_);refine goesL_ (some 35) rfl rfl Try.func17 (by kernel_rfl) rfl #[.slice Ao12 t386.length co12,.slice Ao22 t391.length co22] rfl (by (try simp only [zz26,zz27,zz28]);first | done | rfl | (simp only [zz24,zz25];rfl)) ?_;(with_reducible refine (laws_eqIntS.calls kj6 _ _ t386 _ _ t391 false _ ?side1 ?side2 ?side3 ?side4 A17.out).mono ?_);(case side1=>repeat (first | exact (Kd.R_reads' HO_5.out).2.2 | (with_reducible refine zz18 ?_ _) | (with_reducible refine zz19 ?_ _) | (with_reducible refine zz20 ?_)));(case side2=>exact (Kd.R_reads' HO_5.out).2.1);(case side3=>repeat (first | exact (Kd.R_reads' HO393.out).2.2 | (with_reducible refine zz18 ?_ _) | (with_reducible refine zz19 ?_ _) | (with_reducible refine zz20 ?_)));(case side4=>exact (Kd.R_reads' HO393.out).2.1);rintro e w' ⟨rfl,⟨nd,rfl⟩⟩;refine ⟨_,rfl,?_⟩))
      go_ret
      exact ⟨by first | rfl | (simp [errW_none,errW_some] <;> rfl) | (simp [*,errW_none,errW_some] <;> rfl),by repeat first | exact HB.out | apply zz2 | apply zz0 | apply zz1⟩

/-- THE ONE PURE STATEMENT of laws_FnExactHangTogether: yours. -/
def laws_FnExactHangTogether.Pure:Prop:=∀ (l0:List Int),l0.length≤maxLen→l0.length * 8≤140737488351232→(∀ x ∈ l0,(Lit.int .i64 x).wf=true)→∃ k,laws_FnExactHangTogether.f k l0=some true
theorem laws_FnExactHangTogether.walk (P:laws_FnExactHangTogether.Pure) (a0:Option Addr) (len0 cap0:Nat) (z0:List Int) (w:World) (w0:(a0=none∧len0=0∧cap0=0∧z0=[]) ∨ ∃ x,a0=some x∧len0≤cap0∧cap0≤maxLen∧z0.length=cap0∧(∀ i,i < z0.length→w.cell? (x.add i)=some (.int .i64 (z0.getD i 0)))∧∀ n ∈ z0,(Lit.int .i64 n).wf=true) (y0:len0 * 8≤140737488351232) :
  Calls Try.prog 11 #[.slice a0 len0 cap0] w fun e w'=>e=.returned (.bool true)∧Below w.heap.size w w':=by
 obtain ⟨l0,rfl,hr0,hm0,hw0,hc0⟩:=ReadsInt.ofRowC w0
 obtain ⟨k,h⟩:=P l0 hm0 y0 hw0
 refine (laws_FnExactHangTogether.calls k _ _ l0 true w (Kd.C_of_reads (d:=(0:Int)) (h1:=fun _=>rfl) hr0) hc0 h).mono ?_
 rintro e w' ⟨rfl,hd⟩
 exact ⟨rfl,hd⟩

end Go.Proofs.Ytjipjcdeoajnjaa.P
