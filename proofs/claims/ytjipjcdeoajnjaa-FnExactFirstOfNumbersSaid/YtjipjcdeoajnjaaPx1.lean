-- PRINTED by print.py (a twelfth state) out of the translation. Not trusted: Lean checks it.
import Derived.Test.YtjipjcdeoajnjaaPx0
namespace Go.Proofs.Ytjipjcdeoajnjaa.P
open Go.RowKit Go.Proofs.YtjipjcdeoajnjaaW.PrintWords Go.Proofs.YtjipjcdeoajnjaaW.PrintLast Go.Proofs.YtjipjcdeoajnjaaW.PrintMore
open Bool renaming true → T, false → F
attribute [local go_sem] max2_int min2_int max_two min_two max_three min_three max_four min_four   -- for this text's walks alone
set_option linter.unusedVariables false
set_option linter.unusedSimpArgs false

/-! ### spec_l1In: function 76 -/
def spec_l1In.f (a0:Int) (a1:Int) (a2:Int):Option (Bool):=if a0 ≥ a1 then (some (decide (a0≤a2))) else (some false)
set_option maxHeartbeats 8000000 in
set_option maxRecDepth 100000 in
theorem spec_l1In.calls (a0:Int) (a1:Int) (a2:Int) (r:Bool) (w:World) (h:spec_l1In.f a0 a1 a2=some r) :
  Calls Try.prog 76 #[.int .i64 a0,.int .i64 a1,.int .i64 a2] w fun e w'=>e=.returned (.bool r)∧Drawn0 w w':=by
 have H:(if a0 ≥ a1 then (some (decide (a0≤a2))) else (some false))=some r:=h
 clear h
 by_cases c4:a0 ≥ a1
 ·rw [if_pos c4] at H
  have c4b0:decide (a1≤a0)=true:=decide_eq_true c4
  clear c4
  obtain rfl:=Option.some.inj H
  go_enter Try.func76,Try.ntmps76
  go_wp2
  go_ret
  exact ⟨by first | rfl | (simp;done) | (simp [*];done),by repeat (first | exact Drawn0.refl _ | apply Drawn0.step)⟩
 ·rw [if_neg c4] at H
  have c4b0:decide (a1≤a0)=false:=decide_eq_false c4
  clear c4
  obtain rfl:=Option.some.inj H
  go_enter Try.func76,Try.ntmps76
  go_wp2
  go_ret
  exact ⟨by first | rfl | (simp;done) | (simp [*];done),by repeat (first | exact Drawn0.refl _ | apply Drawn0.step)⟩

/-! ### spec_l1All: function 90 -/
def spec_l1All.l0:Nat→Int→Int→List Int→Int→Int→Option (Bool)
 | 0,_,_,_,_,_=>none
 | k+1,x1,x2,x9,x10,x11=>if x11 < x10 then (if 0≤x11 then (if x11 < (x9.length:Int) then ((spec_l1In.f (rd x9 x11) x1 x2).bind fun t102=>(if t102=true then (spec_l1All.l0 k x1 x2 x9 x10 (wrap64 (x11+1))) else (some false))) else (none)) else (none)) else (some true)
def spec_l1All.f (k:Nat) (l0:List Int) (a1:Int) (a2:Int):Option (Bool):=spec_l1All.l0 k a1 a2 l0 (l0.length:Int) 0
theorem spec_l1All.mono_l:∀ k,(∀ y0 y1 y2 y3 y4,LeO (spec_l1All.l0 k y0 y1 y2 y3 y4) (spec_l1All.l0 (k+1) y0 y1 y2 y3 y4))
 | 0=>fun _ _ _ _ _ r h=>by simp [spec_l1All.l0] at h
 | k+1=>by
  have ih0:=spec_l1All.mono_l k
  ·intro y0 y1 y2 y3 y4
   unfold spec_l1All.l0
   repeat' first
   | (with_reducible exact ih0 _ _ _ _ _)
   | (with_reducible exact LeO.refl _)
   | (with_reducible exact LeO.none _)
   | (with_reducible refine LeO.ite ?_ ?_)
   | (with_reducible refine LeO.bind ?_ (fun _=>?_))
   | exact ih0 _ _ _ _ _
   | exact LeO.none _
   | refine LeO.ite ?_ ?_
   | refine LeO.bind ?_ (fun _=>?_)
theorem spec_l1All.mono:∀ a0 a1 a2 k,LeO (spec_l1All.f k a0 a1 a2) (spec_l1All.f (k+1) a0 a1 a2):=by
 intro a0 a1 a2 k
 have ih0:=spec_l1All.mono_l k
 unfold spec_l1All.f
 repeat' first
   | (with_reducible exact ih0 _ _ _ _ _)
   | (with_reducible exact LeO.refl _)
   | (with_reducible exact LeO.none _)
   | (with_reducible refine LeO.ite ?_ ?_)
   | (with_reducible refine LeO.bind ?_ (fun _=>?_))
   | exact ih0 _ _ _ _ _
   | exact LeO.none _
   | refine LeO.ite ?_ ?_
   | refine LeO.bind ?_ (fun _=>?_)
set_option maxHeartbeats 8000000 in
set_option maxRecDepth 100000 in
theorem spec_l1All.calls (k:Nat) (A0:Option Addr) (c0:Nat) (l0:List Int) (a1:Int) (a2:Int) (r:Bool) (w:World) (hr0:Kd.C (Kd.int .i64) w A0 l0.length l0) (hc0:l0.length≤c0) (h:spec_l1All.f k l0 a1 a2=some r) :
  Calls Try.prog 90 #[.slice A0 l0.length c0,.int .i64 a1,.int .i64 a2] w fun e w'=>e=.returned (.bool r)∧Drawn0 w w':=by
 have HR0:=zz31 hr0
 have HC0:=zz31 hc0
 clear hr0 hc0
 have H:(spec_l1All.l0 k a1 a2 l0 (l0.length:Int) 0)=some r:=h
 clear h
 have H':=zz31 H
 clear H
 go_enter Try.func90,Try.ntmps90
 go_wp2
 go_loopg [11] k (fun kq v11 w'=>∃ (x11_1:Int),v11=.int .i64 x11_1∧Aside0 (spec_l1All.l0 kq a1 a2 l0 (l0.length:Int) x11_1=some r)∧Aside0 (kq≤k)∧Drawn0 w w')
 case atStart=>exact ⟨(0),(by first | rfl | (simp;done) | (simp [*];done)),H',⟨Nat.le_refl _⟩,by repeat (first | exact Drawn0.refl _ | apply Drawn0.step)⟩
 case round =>
  clear H'
  try clear p2
  obtain ⟨x11_1,rfl,HA,HK1,⟨m1,rfl⟩⟩:=hrel
  cases gk with
  | zero=>exact absurd HA.out (by simp [spec_l1All.l0])
  | succ k1 =>
   have H:=HA.out
   clear HA
   simp only [spec_l1All.l0] at H
   by_cases c4:x11_1 < (l0.length:Int)
   ·rw [if_pos c4] at H
    have c4b0:decide (x11_1 < (l0.length:Int))=true:=decide_eq_true c4
    clear c4
    by_cases c5:0≤x11_1
    ·rw [if_pos c5] at H
     have c5b0:decide (0≤x11_1)=true:=decide_eq_true c5
     clear c5
     by_cases c6:x11_1 < (l0.length:Int)
     ·rw [if_pos c6] at H
      have c6b0:decide (x11_1 < (l0.length:Int))=true:=decide_eq_true c6
      clear c6
      replace H:=zz30.mp H
      obtain ⟨t102,A70,H⟩:=H
      replace H:(if t102=true then (spec_l1All.l0 k1 a1 a2 l0 (l0.length:Int) (wrap64 (x11_1+1))) else (some false))=some r:=H
      have A7:=zz31 A70
      clear A70
      by_cases c8:t102=true
      ·subst c8
       have H1:(spec_l1All.l0 k1 a1 a2 l0 (l0.length:Int) (wrap64 (x11_1+1)))=some r:=by rw [if_pos rfl] at H;exact H
       clear H
       have H:=H1
       clear H1
       have H':=zz31 H
       clear H
       have p101:0≤(x11_1:Int):=zz29 (by first | (with_reducible assumption) | assumption)
       have q101:x11_1 < (l0.length:Int):=zz29 (by first | (with_reducible assumption) | assumption)
       obtain ⟨ad101,e101,hx101_0⟩:=Kd.at_int HR0.out x11_1 p101 q101
       cases e101
       replace p101:=eq_true p101
       replace q101:=eq_true q101
       go_wp2_with (first | ((with_reducible refine gate_callee (f:=76) rfl ?_);refine goesL_ (some 18) rfl rfl Try.func76 (by kernel_rfl) rfl #[.int .i64 (rd l0 x11_1),.int .i64 a1,.int .i64 a2] rfl (by (try simp only [zz26,zz27,zz28]);first | done | rfl | (simp only [zz24,zz25];rfl)) ?_;(with_reducible refine (spec_l1In.calls (rd l0 x11_1) a1 a2 true _ A7.out).mono ?_);rintro e w' ⟨rfl,⟨nd,rfl⟩⟩;refine ⟨_,rfl,?_⟩))
       go_roundg k1
       case measure=>have:=HK1.out;omega
       case rel=>exact ⟨(wrap64 (x11_1+1)),(by first | rfl | (simp;done) | (simp [*];done)),H',⟨by have:=HK1.out;omega⟩,by repeat (first | exact Drawn0.refl _ | apply Drawn0.step)⟩
      ·replace c8:=Bool.eq_false_iff.mpr c8
       subst c8
       have H1:(some false)=some r:=by rw [if_neg (show ¬ (false=true) by decide)] at H;exact H
       clear H
       have H:=H1
       clear H1
       obtain rfl:=Option.some.inj H
       have p101:0≤(x11_1:Int):=zz29 (by first | (with_reducible assumption) | assumption)
       have q101:x11_1 < (l0.length:Int):=zz29 (by first | (with_reducible assumption) | assumption)
       obtain ⟨ad101,e101,hx101_0⟩:=Kd.at_int HR0.out x11_1 p101 q101
       cases e101
       replace p101:=eq_true p101
       replace q101:=eq_true q101
       go_wp2_with (first | ((with_reducible refine gate_callee (f:=76) rfl ?_);refine goesL_ (some 18) rfl rfl Try.func76 (by kernel_rfl) rfl #[.int .i64 (rd l0 x11_1),.int .i64 a1,.int .i64 a2] rfl (by (try simp only [zz26,zz27,zz28]);first | done | rfl | (simp only [zz24,zz25];rfl)) ?_;(with_reducible refine (spec_l1In.calls (rd l0 x11_1) a1 a2 false _ A7.out).mono ?_);rintro e w' ⟨rfl,⟨nd,rfl⟩⟩;refine ⟨_,rfl,?_⟩))
       go_ret
       exact ⟨by first | rfl | (simp;done) | (simp [*];done),by repeat (first | exact Drawn0.refl _ | apply Drawn0.step)⟩
     ·rw [if_neg c6] at H
      exact absurd H (by simp)
    ·rw [if_neg c5] at H
     exact absurd H (by simp)
   ·rw [if_neg c4] at H
    have c4b0:decide (x11_1 < (l0.length:Int))=false:=decide_eq_false c4
    clear c4
    obtain rfl:=Option.some.inj H
    go_wp2
    go_ret
    exact ⟨by first | rfl | (simp;done) | (simp [*];done),by repeat (first | exact Drawn0.refl _ | apply Drawn0.step)⟩

/-! ### spec_deGood: function 56 -/
def spec_deGood.f (k:Nat) (l0:List Int):Option (Bool):=if (l0.length:Int)≤12 then ((spec_l1All.f k l0 0 (wrap64 ((l0.length:Int) - 1))).bind fun t103=>(some t103)) else (some false)
theorem spec_deGood.mono:∀ a0 k,LeO (spec_deGood.f k a0) (spec_deGood.f (k+1) a0):=by
 intro a0 k
 unfold spec_deGood.f
 repeat' first
   | (with_reducible exact spec_l1All.mono _ _ _ _)
   | (with_reducible exact LeO.refl _)
   | (with_reducible exact LeO.none _)
   | (with_reducible refine LeO.ite ?_ ?_)
   | (with_reducible refine LeO.bind ?_ (fun _=>?_))
   | exact spec_l1All.mono _ _ _ _
   | exact LeO.none _
   | refine LeO.ite ?_ ?_
   | refine LeO.bind ?_ (fun _=>?_)
set_option maxHeartbeats 8000000 in
set_option maxRecDepth 100000 in
theorem spec_deGood.calls (k:Nat) (A0:Option Addr) (c0:Nat) (l0:List Int) (r:Bool) (w:World) (hr0:Kd.C (Kd.int .i64) w A0 l0.length l0) (hc0:l0.length≤c0) (h:spec_deGood.f k l0=some r) :
  Calls Try.prog 56 #[.slice A0 l0.length c0] w fun e w'=>e=.returned (.bool r)∧Drawn0 w w':=by
 have HR0:=zz31 hr0
 have HC0:=zz31 hc0
 clear hr0 hc0
 have H:(if (l0.length:Int)≤12 then ((spec_l1All.f k l0 0 (wrap64 ((l0.length:Int) - 1))).bind fun t103=>(some t103)) else (some false))=some r:=h
 clear h
 by_cases c2:(l0.length:Int)≤12
 ·rw [if_pos c2] at H
  have c2b0:decide ((l0.length:Int)≤12)=true:=decide_eq_true c2
  have c2b1:decide (l0.length≤12)=true:=decide_eq_true (by omega)
  clear c2
  replace H:=zz30.mp H
  obtain ⟨t103,A30,H⟩:=H
  replace H:(some t103)=some r:=H
  have A3:=zz31 A30
  clear A30
  obtain rfl:=Option.some.inj H
  go_enter Try.func56,Try.ntmps56
  go_wp2_with (first | (go_at_call 90;(with_reducible refine (spec_l1All.calls k _ _ l0 0 (wrap64 ((l0.length:Int) - 1)) t103 _ ?side1 ?side2 A3.out).mono ?_);(case side1=>repeat (first | exact HR0.out | (with_reducible refine zz18 ?_ _) | (with_reducible refine zz19 ?_ _) | (with_reducible refine zz20 ?_)));(case side2=>exact HC0.out);rintro e w' ⟨rfl,⟨nd,rfl⟩⟩))
  go_ret
  exact ⟨by first | rfl | (simp;done) | (simp [*];done),by repeat (first | exact Drawn0.refl _ | apply Drawn0.step)⟩
 ·rw [if_neg c2] at H
  have c2b0:decide ((l0.length:Int)≤12)=false:=decide_eq_false c2
  have c2b1:decide (l0.length≤12)=false:=decide_eq_false (by omega)
  clear c2
  obtain rfl:=Option.some.inj H
  go_enter Try.func56,Try.ntmps56
  go_wp2
  go_ret
  exact ⟨by first | rfl | (simp;done) | (simp [*];done),by repeat (first | exact Drawn0.refl _ | apply Drawn0.step)⟩

/-! ### spec_l1Own: function 59 -/
def spec_l1Own.f (l0:List Int):Option (List Int):=(some (([]:List Int):List Int)).bind fun y105=>(if y105.length+l0.length < 17592186044416 then (some (y105 ++ l0)) else (none))
set_option maxHeartbeats 8000000 in
set_option maxRecDepth 100000 in
theorem spec_l1Own.calls (A0:Option Addr) (c0:Nat) (l0:List Int) (r:List Int) (w:World) (hr0:Kd.C (Kd.int .i64) w A0 l0.length l0) (hc0:l0.length≤c0) (h:spec_l1Own.f l0=some r) :
  Calls Try.prog 59 #[.slice A0 l0.length c0] w fun e w'=>∃ v0_:Value,e=.returned (v0_)∧Kd.R (Kd.int .i64) 3 w' w.heap.size (fun _=>True) v0_ r∧Below w.heap.size w w':=by
 have HR0:=zz31 hr0
 have HC0:=zz31 hc0
 clear hr0 hc0
 have HB:=zz31 (Below.refl w.heap.size w)
 have H:((some (([]:List Int):List Int)).bind fun y105=>(if y105.length+l0.length < 17592186044416 then (some (y105 ++ l0)) else (none)))=some r:=h
 clear h
 obtain ⟨y105,hy105⟩:∃ y_:List Int,y_=(([]:List Int)):=⟨_,rfl⟩
 replace H:(if y105.length+l0.length < 17592186044416 then (some (y105 ++ l0)) else (none))=some r:=by first | (rw [hy105];with_reducible exact H) | (have H2_:=(Option.bind_some _ _).symm.trans H;rw [hy105];with_reducible exact H2_) | (have H2_:=(Option.bind_some _ _).symm.trans H;with_reducible exact H2_) | with_reducible exact H | (rw [hy105];exact H) | exact H
 have Ny105:=zz31 hy105
 clear hy105
 by_cases c2:y105.length+l0.length < 17592186044416
 ·rw [if_pos c2] at H
  have LMc2:=zz31 c2
  clear c2
  obtain ⟨y108,hy108⟩:∃ y_:List Int,y_=(y105 ++ l0):=⟨_,rfl⟩
  replace H:(some y108)=some r:=by first | (rw [hy108];with_reducible exact H) | (have H2_:=(Option.bind_some _ _).symm.trans H;rw [hy108];with_reducible exact H2_) | (have H2_:=(Option.bind_some _ _).symm.trans H;with_reducible exact H2_) | with_reducible exact H | (rw [hy108];exact H) | exact H
  have Ny108:=zz31 hy108
  clear hy108
  obtain rfl:=Option.some.inj H
  go_enter Try.func59,Try.ntmps59
  go_wp2_with (first | ((with_reducible refine gate_dst (N:=3) rfl ?_);refine Kd.R_lit (Kd.int .i64) _ 3 ?hg (N:=3) ?hd (xs:=([]:List Int)) (inner:=[]) (ok:=fun _=>True) (okp:=fun _=>True) ?hr ?hp (fun _ hk=>hk) trivial (Below.refl _ _) (Nat.le_refl _) (by simp) ?_;(case hd=>rfl);(case hg=>rfl);(case hr=>first | (go_simp;done) | (go_simp;rfl));(case hp=>exact (Reps.none _ _));intro v106 w3 ho4 hb hg_ hnew_;clear hg_ hnew_;(first | rw [← Ny105.out] at ho4 | (simp only [Int.reduceToNat] at ho4;rw [← Ny105.out] at ho4));have n0_:=zz31 (Kd.R_lower ho4 (zz5 (by repeat first | exact HB.out | apply zz2 | apply zz0 | apply zz1)));have n1_:=zz31 (zz4 (by repeat first | exact HB.out | apply zz2 | apply zz0 | apply zz1) hb);clear HB;have HO107:=n0_;have HB:=n1_;clear n0_ n1_;clear hb ho4) | ((with_reducible refine gate_builtin (b:=.append) (xs:=#[.tmp 3,.tmp 4]) rfl ?_);at_builtin;refine Kd.R_append_rows (Kd.int .i64) (w0:=w) w.heap.size rfl (.tmp 3) (.tmp 4) 22 3 (.int .i64 0) 8 rfl Try.underlying22 info3 rfl (by decide) (by omega) v106 y105 l0 _ _ _ (fun _=>True) (fun _=>False) rfl rfl ?aO ?aR (fun _ _ h=>h) (fun _ h=>h.elim) ?aF ?aB ?aS ?aL ?_;(case aR=>repeat (first | exact (Kd.C_below HR0.out HB.out) | (with_reducible refine zz18 ?_ _) | (with_reducible refine zz19 ?_ _) | (with_reducible refine zz20 ?_)));(case aB=>exact (by repeat first | exact HB.out | apply zz2 | apply zz0 | apply zz1));(case aF=>exact (fun _ _=>trivial));(case aO=>exact (by (with_reducible repeat (first | apply zz12 | apply zz13 | apply zz14));exact HO107.out));(case aS=>exact (zz5 (by repeat first | exact HB.out | apply zz2 | apply zz0 | apply zz1)));(case aL=>have:=LMc2.out;omega);intro v109 w5 ho hb hg hat;rw [← Ny108.out] at ho;have n0_:=zz31 (hb);have n1_:=zz31 (ho);clear HB;clear HO107;have HB:=n0_;have HO110:=n1_;clear n0_ n1_;clear ho hb hg hat))
  go_ret
  exact ⟨_,by first | rfl | (simp [errW_none,errW_some] <;> rfl) | (simp [*,errW_none,errW_some] <;> rfl),by (with_reducible repeat (first | apply zz12 | apply zz13 | apply zz14));exact HO110.out,by repeat first | exact HB.out | apply zz2 | apply zz0 | apply zz1⟩
 ·rw [if_neg c2] at H
  exact absurd H (by simp)

/-! ### laws_toIntS: function 15 -/
def laws_toIntS.l0:Nat→List Int→List Int→Int→Option (List Int)
 | 0,_,_,_=>none
 | k+1,x0,x3,x4=>if x4 < (x0.length:Int) then (if 0≤x4 then (if x4 < (x3.length:Int) then (laws_toIntS.l0 k x0 (x3.set (x4:Int).toNat (rd x0 x4)) (wrap64 (x4+1))) else (none)) else (none)) else (some x3)
def laws_toIntS.f (k:Nat) (l0:List Int):Option (List Int):=if 0≤(l0.length:Int) then (if ((l0.length:Int):Int).toNat≤35184372088832 then (laws_toIntS.l0 k l0 (List.replicate ((l0.length:Int):Int).toNat 0) 0) else (none)) else (none)
theorem laws_toIntS.mono_l:∀ k,(∀ y0 y1 y2,LeO (laws_toIntS.l0 k y0 y1 y2) (laws_toIntS.l0 (k+1) y0 y1 y2))
 | 0=>fun _ _ _ r h=>by simp [laws_toIntS.l0] at h
 | k+1=>by
  have ih0:=laws_toIntS.mono_l k
  ·intro y0 y1 y2
   unfold laws_toIntS.l0
   repeat' first
   | (with_reducible exact ih0 _ _ _)
   | (with_reducible exact LeO.refl _)
   | (with_reducible exact LeO.none _)
   | (with_reducible refine LeO.ite ?_ ?_)
   | (with_reducible refine LeO.bind ?_ (fun _=>?_))
   | exact ih0 _ _ _
   | exact LeO.none _
   | refine LeO.ite ?_ ?_
   | refine LeO.bind ?_ (fun _=>?_)
theorem laws_toIntS.mono:∀ a0 k,LeO (laws_toIntS.f k a0) (laws_toIntS.f (k+1) a0):=by
 intro a0 k
 have ih0:=laws_toIntS.mono_l k
 unfold laws_toIntS.f
 repeat' first
   | (with_reducible exact ih0 _ _ _)
   | (with_reducible exact LeO.refl _)
   | (with_reducible exact LeO.none _)
   | (with_reducible refine LeO.ite ?_ ?_)
   | (with_reducible refine LeO.bind ?_ (fun _=>?_))
   | exact ih0 _ _ _
   | exact LeO.none _
   | refine LeO.ite ?_ ?_
   | refine LeO.bind ?_ (fun _=>?_)
set_option maxHeartbeats 8000000 in
set_option maxRecDepth 100000 in
theorem laws_toIntS.calls (k:Nat) (A0:Option Addr) (c0:Nat) (l0:List Int) (r:List Int) (w:World) (hr0:Kd.C (Kd.int .i64) w A0 l0.length l0) (hc0:l0.length≤c0) (h:laws_toIntS.f k l0=some r) :
  Calls Try.prog 15 #[.slice A0 l0.length c0] w fun e w'=>∃ v0_:Value,e=.returned (v0_)∧Kd.R (Kd.int .i64) 3 w' w.heap.size (fun _=>True) v0_ r∧Below w.heap.size w w':=by
 have HR0:=zz31 hr0
 have HC0:=zz31 hc0
 clear hr0 hc0
 have HB:=zz31 (Below.refl w.heap.size w)
 have H:(if 0≤(l0.length:Int) then (if ((l0.length:Int):Int).toNat≤35184372088832 then (laws_toIntS.l0 k l0 (List.replicate ((l0.length:Int):Int).toNat 0) 0) else (none)) else (none))=some r:=h
 clear h
 by_cases c2:0≤(l0.length:Int)
 ·rw [if_pos c2] at H
  have c2b0:=eq_true c2
  have c2b1:decide (0≤(l0.length:Int))=true:=decide_eq_true c2
  clear c2
  by_cases c3:((l0.length:Int):Int).toNat≤35184372088832
  ·rw [if_pos c3] at H
   have c3b0:=eq_true c3
   have c3b1:decide (((l0.length:Int):Int).toNat≤35184372088832)=true:=decide_eq_true c3
   clear c3
   obtain ⟨y116,hy116⟩:∃ y_:List Int,y_=(List.replicate ((l0.length:Int):Int).toNat 0):=⟨_,rfl⟩
   replace H:(laws_toIntS.l0 k l0 y116 0)=some r:=by first | (rw [hy116];with_reducible exact H) | (have H2_:=(Option.bind_some _ _).symm.trans H;rw [hy116];with_reducible exact H2_) | (have H2_:=(Option.bind_some _ _).symm.trans H;with_reducible exact H2_) | with_reducible exact H | (rw [hy116];exact H) | exact H
   have Ny116:=zz31 hy116
   clear hy116
   have H':=zz31 H
   clear H
   go_enter Try.func15,Try.ntmps15
   go_wp2_with (first | ((with_reducible refine gate_dst (N:=7) rfl ?_);refine Kd.R_make (Kd.int .i64) _ 3 rfl (N:=7) rfl 22 _ _ rfl (l0.length:Int) rfl rfl Try.underlying22 (.int .i64 0) 8 info3 rfl (by decide) (by omega) 0 (ok:=fun _=>True) (okp:=fun _=>True) rfl (fun _ hk=>hk) trivial (zz29 (by first | (with_reducible assumption) | assumption)) (Nat.le_trans (Nat.mul_le_mul_right _ (zz29 (by first | (with_reducible assumption) | assumption):(l0.length:Int).toNat≤35184372088832)) (by omega)) (Below.refl _ _) (Nat.le_refl _) ?_;intro v117 w4 ho5 hb hg_ hnew_;clear hg_ hnew_;(first | rw [← Ny116.out] at ho5 | (simp only [Int.reduceToNat] at ho5;rw [← Ny116.out] at ho5));have n0_:=zz31 (Kd.R_lower ho5 (zz5 (by repeat first | exact HB.out | apply zz2 | apply zz0 | apply zz1)));have n1_:=zz31 (zz4 (by repeat first | exact HB.out | apply zz2 | apply zz0 | apply zz1) hb);clear HB;have HO118:=n0_;have HB:=n1_;clear n0_ n1_;clear hb ho5))
   go_loopg [4] k (fun kq v4 w'=>∃ (x3_1:List Int) (x4_1:Int),v4=.int .i64 x4_1∧Aside0 (laws_toIntS.l0 kq l0 x3_1 x4_1=some r)∧Aside0 (kq≤k)∧Aside0 (Kd.R (Kd.int .i64) 3 w' w.heap.size (fun _=>True) v117 x3_1)∧Aside0 (Below w.heap.size w w'))
   case atStart=>exact ⟨(y116),(0),(by first | rfl | (simp;done) | (simp [*];done)),H',⟨Nat.le_refl _⟩,⟨by (with_reducible repeat (first | apply zz12 | apply zz13 | apply zz14));exact HO118.out⟩,⟨by repeat first | exact HB.out | apply zz2 | apply zz0 | apply zz1⟩⟩
   case round =>
    clear H'
    try clear c1
    try clear c2
    try clear c2b0
    try clear c2b1
    try clear p2
    try clear c3
    try clear c3b0
    try clear c3b1
    obtain ⟨x3_1,x4_1,rfl,HA,HK1,HO_3,HB⟩:=hrel
    cases gk with
    | zero=>exact absurd HA.out (by simp [laws_toIntS.l0])
    | succ k1 =>
     have H:=HA.out
     clear HA
     simp only [laws_toIntS.l0] at H
     by_cases c6:x4_1 < (l0.length:Int)
     ·rw [if_pos c6] at H
      have c6b0:decide (x4_1 < (l0.length:Int))=true:=decide_eq_true c6
      clear c6
      by_cases c7:0≤x4_1
      ·rw [if_pos c7] at H
       have c7b0:decide (0≤x4_1)=true:=decide_eq_true c7
       clear c7
       by_cases c8:x4_1 < (x3_1.length:Int)
       ·rw [if_pos c8] at H
        have c8b0:decide (x4_1 < (x3_1.length:Int))=true:=decide_eq_true c8
        clear c8
        obtain ⟨y120,hy120⟩:∃ y_:List Int,y_=(x3_1.set (x4_1:Int).toNat (rd l0 x4_1)):=⟨_,rfl⟩
        replace H:(laws_toIntS.l0 k1 l0 y120 (wrap64 (x4_1+1)))=some r:=by first | (rw [hy120];with_reducible exact H) | (have H2_:=(Option.bind_some _ _).symm.trans H;rw [hy120];with_reducible exact H2_) | (have H2_:=(Option.bind_some _ _).symm.trans H;with_reducible exact H2_) | with_reducible exact H | (rw [hy120];exact H) | exact H
        have Ny120:=zz31 hy120
        clear hy120
        have H':=zz31 H
        clear H
        have p119:0≤(x4_1:Int):=zz29 (by first | (with_reducible assumption) | assumption)
        have q119:x4_1 < (l0.length:Int):=zz29 (by first | (with_reducible assumption) | assumption)
        obtain ⟨ad119,e119,hx119_0⟩:=Kd.at_int HR0.out x4_1 p119 q119
        cases e119
        try replace hx119_0:=(HB.out.cell (World.block_lt_of_cell? w _ hx119_0)).trans hx119_0
        replace p119:=eq_true p119
        replace q119:=eq_true q119
        have p9:0≤(x4_1:Int):=zz29 (by first | (with_reducible assumption) | assumption)
        have q9:(x4_1:Int) < ((x3_1.length:Int):Int):=zz29 (by first | (with_reducible assumption) | assumption)
        obtain ⟨go9,co9,eo9,gb9,gl9,cl9,HG9⟩:=Kd.R_form HO_3.out (by omega)
        (first | cases eo9 | (injection eo9 with ea_ en_ ec_;(first | subst ea_ | (injection ea_ with ea_;subst ea_));subst ec_;clear en_))
        have GB9:=zz31 gb9
        have GG9:=zz31 HG9
        clear gb9 gl9 HG9
        obtain ⟨hx9_0,hf9_0⟩:=Kd.R_celln 0 HO_3.out (x4_1:Int) p9 q9
        replace p9:=eq_true p9
        replace q9:=eq_true q9
        have HP10:=Kd.R_putg HO_3.out (x4_1:Int) (rd l0 x4_1)
        go_wp2_with (first | ((with_reducible refine gate_store (t:=3) (p:=20) rfl ?_);refine store_event (t:=3) (p:=20) (v:=?vo_w11) (w1:=(wr.setCell ⟨go9,(x4_1:Int).toNat,none⟩ (.int .i64 (rd l0 x4_1)))) ?hg ?ho ?hn ?hr ?_;(case ho=>rfl);(case hg=>rfl);(case hn=>rfl);(case hr=>first | (go_simp;done) | (go_simp;rfl));intro w11 hw;have hg:wr.grownBy w11 (some go9):=(by rw [hw];exact HP10.2);have hp_:Kd.R (Kd.int .i64) 3 w11 w.heap.size (fun _=>True) (.slice (some ⟨go9,0,none⟩) x3_1.length co9) y120:=(by rw [hw,Ny120.out];exact HP10.1);clear HP10;have n0_:=zz31 (hp_);have n1_:=zz31 ((by rw [hw];exact zz3 (HB.out) GB9.out:Below w.heap.size w w11));clear HO_3;clear HB;have HO_3:=n0_;have HB:=n1_;clear n0_ n1_;clear hg hw hp_))
        go_roundg k1
        case measure=>have:=HK1.out;omega
        case rel=>exact ⟨(y120),(wrap64 (x4_1+1)),(by first | rfl | (simp;done) | (simp [*];done)),H',⟨by have:=HK1.out;omega⟩,⟨by (with_reducible repeat (first | apply zz12 | apply zz13 | apply zz14));exact HO_3.out⟩,⟨by repeat first | exact HB.out | apply zz2 | apply zz0 | apply zz1⟩⟩
       ·rw [if_neg c8] at H
        exact absurd H (by simp)
      ·rw [if_neg c7] at H
       exact absurd H (by simp)
     ·rw [if_neg c6] at H
      have c6b0:decide (x4_1 < (l0.length:Int))=false:=decide_eq_false c6
      clear c6
      obtain rfl:=Option.some.inj H
      go_wp2
      go_ret
      exact ⟨_,by first | rfl | (simp [errW_none,errW_some] <;> rfl) | (simp [*,errW_none,errW_some] <;> rfl),by (with_reducible repeat (first | apply zz12 | apply zz13 | apply zz14));exact HO_3.out,by repeat first | exact HB.out | apply zz2 | apply zz0 | apply zz1⟩
  ·rw [if_neg c3] at H
   exact absurd H (by simp)
 ·rw [if_neg c2] at H
  exact absurd H (by simp)

/-! ### impl_within: function 78 -/
def impl_within.f (a0:Int) (a1:Int) (a2:Int):Option (Bool):=if a1≤a0 then (some (decide (a0≤a2))) else (some false)
set_option maxHeartbeats 8000000 in
set_option maxRecDepth 100000 in
theorem impl_within.calls (a0:Int) (a1:Int) (a2:Int) (r:Bool) (w:World) (h:impl_within.f a0 a1 a2=some r) :
  Calls Try.prog 78 #[.int .i64 a0,.int .i64 a1,.int .i64 a2] w fun e w'=>e=.returned (.bool r)∧Drawn0 w w':=by
 have H:(if a1≤a0 then (some (decide (a0≤a2))) else (some false))=some r:=h
 clear h
 by_cases c4:a1≤a0
 ·rw [if_pos c4] at H
  have c4b0:decide (a1≤a0)=true:=decide_eq_true c4
  clear c4
  obtain rfl:=Option.some.inj H
  go_enter Try.func78,Try.ntmps78
  go_wp2
  go_ret
  exact ⟨by first | rfl | (simp;done) | (simp [*];done),by repeat (first | exact Drawn0.refl _ | apply Drawn0.step)⟩
 ·rw [if_neg c4] at H
  have c4b0:decide (a1≤a0)=false:=decide_eq_false c4
  clear c4
  obtain rfl:=Option.some.inj H
  go_enter Try.func78,Try.ntmps78
  go_wp2
  go_ret
  exact ⟨by first | rfl | (simp;done) | (simp [*];done),by repeat (first | exact Drawn0.refl _ | apply Drawn0.step)⟩

/-! ### impl_areCrowd: function 91 -/
def impl_areCrowd.f (a0:Int):Option (Bool):=(impl_within.f a0 0 12).bind fun t121=>(some t121)
set_option maxHeartbeats 8000000 in
set_option maxRecDepth 100000 in
theorem impl_areCrowd.calls (a0:Int) (r:Bool) (w:World) (h:impl_areCrowd.f a0=some r) :
  Calls Try.prog 91 #[.int .i64 a0] w fun e w'=>e=.returned (.bool r)∧Drawn0 w w':=by
 have H:((impl_within.f a0 0 12).bind fun t121=>(some t121))=some r:=h
 clear h
 replace H:=zz30.mp H
 obtain ⟨t121,A20,H⟩:=H
 replace H:(some t121)=some r:=H
 have A2:=zz31 A20
 clear A20
 obtain rfl:=Option.some.inj H
 go_enter Try.func91,Try.ntmps91
 go_wp2_with (first | ((with_reducible refine gate_callee (f:=78) rfl ?_);refine goesL_ (some 4) rfl rfl Try.func78 (by kernel_rfl) rfl #[.int .i64 a0,.int .i64 0,.int .i64 12] rfl (by (try simp only [zz26,zz27,zz28]);first | done | rfl | (simp only [zz24,zz25];rfl)) ?_;(with_reducible refine (impl_within.calls a0 0 12 t121 _ A2.out).mono ?_);rintro e w' ⟨rfl,⟨nd,rfl⟩⟩;refine ⟨_,rfl,?_⟩))
 go_ret
 exact ⟨by first | rfl | (simp;done) | (simp [*];done),by repeat (first | exact Drawn0.refl _ | apply Drawn0.step)⟩

-- NOT PRINTED: function 67 (slices_IndexFunc_int_int)

-- NOT PRINTED: function 98 (slices_ContainsFunc_int_int)

-- NOT PRINTED: function 99 (impl_areWithin_1)

/-! ### impl_areWithin: function 92 (a contract of our own) -/
/-- A function value g (bound to lb) answers p at every whole number, in every later world; it may draw; it makes nothing. -/
def PredI (g:Nat) (lb:Array Value) (p:Int→Bool) (w:World):Prop :=
 ∀ (W:World) (x:Int),Below w.heap.size w W→Calls Try.prog g (#[.int .i64 x] ++ lb) W fun e w'=>e=.returned (.bool (p x))∧∃ q,w'=W.drewN q
/-- slices.IndexFunc at whole numbers, whatever the predicate: the place of the first element at which it holds, or -1. -/
def idxP (p:Int→Bool):List Int→Int
 | []=>-1
 | x :: xs=>if p x then 0 else if idxP p xs < 0 then -1 else idxP p xs+1
theorem idxP_hit (p:Int→Bool):∀ (xs:List Int) (k:Nat),k < xs.length→(∀ j,j < k→p (xs.getD j 0)=false)→p (xs.getD k 0)=true→idxP p xs=k
 | [],k,h,_,_=>by simp at h
 | x :: xs,0,_,_,hp=>by simp at hp;simp [idxP,hp]
 | x :: xs,k+1,h,hn,hp=>by
  have h0:=hn 0 (by omega)
  have ih:=idxP_hit p xs k (by simpa using h) (fun j hj=>by have:=hn (j+1) (by omega);simpa using this) (by simpa using hp)
  simp at h0
  simp [idxP,h0,ih];omega
theorem idxP_miss (p:Int→Bool):∀ (xs:List Int),(∀ j,j < xs.length→p (xs.getD j 0)=false)→idxP p xs=-1
 | [],_=>rfl
 | x :: xs,hn=>by
  have h0:=hn 0 (by simp)
  have ih:=idxP_miss p xs (fun j hj=>by have:=hn (j+1) (by simpa using hj);simpa using this)
  simp at h0
  simp [idxP,h0,ih]
theorem idxP_nonneg (p:Int→Bool) (xs:List Int):decide (0≤idxP p xs)=xs.any p:=by
 induction xs with
 | nil=>rfl
 | cons x xs ih =>
  simp only [idxP,List.any_cons,← ih]
  by_cases h:p x=true
  ·simp [h]
  ·by_cases h2:idxP p xs < 0
   ·have:¬ 0≤idxP p xs:=by omega
    simp [h,h2,this]
   ·have h3:0≤idxP p xs:=by omega
    have h4:0≤idxP p xs+1:=by omega
    simp [h,h2,h3,h4]
set_option maxHeartbeats 2000000 in
theorem idxInt_with (p:Int→Bool) (g:Nat) (lb:Array Value) (eg:∀ args w,(callFunc g args).run Try.prog w=.ok (.enter g args) w) (A0:Option Addr) (c0:Nat) (l0:List Int) (w:World)
  (hp:PredI g lb p w) (hr0:Kd.C (Kd.int .i64) w A0 l0.length l0) :
  Calls Try.prog 67 #[.slice A0 l0.length c0,.func (.func g) #[] lb] w fun e w'=>e=.returned (.int .i64 (idxP p l0))∧∃ q,w'=w.drewN q:=by
 have hpAt:∀ (x:Int) (q:Nat),Calls Try.prog g (#[.int .i64 x] ++ lb) (w.drewN q) fun e w'=>e=.returned (.bool (p x))∧∃ q',w'=(w.drewN q).drewN q':=fun x q=>hp _ x (zz0 (Below.refl _ w) q)
 have HR0:=zz31 hr0
 have hbig:l0.length≤9223372036854775807:=hr0.2.1
 clear hp hr0
 go_enter Try.func67,Try.ntmps67
 go_wp2
 go_loopg [5,8] l0.length (fun gg _ s8 wr=>∃ kk q:Nat,kk≤l0.length∧l0.length - kk≤gg∧s8=.int .i64 kk∧wr=w.drewN q∧Aside0 (∀ j,j < kk→p (l0.getD j 0)=false))
 case atStart=>exact ⟨0,0,Nat.zero_le _,by omega,rfl,rfl,⟨fun j hj=>absurd hj (Nat.not_lt_zero _)⟩⟩
 case round =>
  obtain ⟨kk,q,hkk,hg,rfl,rfl,A⟩:=hrel
  by_cases hlt:kk < l0.length
  ·have hltz:(kk:Int) < (l0.length:Int):=by omega
   obtain ⟨ad,e0,hcell⟩:=Kd.at_int HR0.out (kk:Int) (by omega) (by omega)
   cases e0
   have hcell':w.cell? (ad.add kk)=some (.int .i64 (rd l0 kk)):=hcell
   clear hcell
   obtain ⟨y,hy⟩:∃ y,y=rd l0 kk:=⟨_,rfl⟩
   rw [← hy] at hcell'
   have B:Aside0 (l0.getD kk 0=y):=⟨hy.symm⟩
   clear hy
   have hcall:=hpAt y
   cases hq:p y with
   | true =>
    rw [hq] at hcall
    go_wp2_with (go_at_fn g;refine (hcall _).mono ?_;rintro e w' ⟨rfl,q',rfl⟩)
    go_ret
    refine ⟨?_,_,rfl⟩
    rw [idxP_hit p l0 kk hlt A.out (by rw [B.out];exact hq)]
    rfl
   | false =>
    rw [hq] at hcall
    go_wp2_with (go_at_fn g;refine (hcall _).mono ?_;rintro e w' ⟨rfl,q',rfl⟩)
    go_roundg (l0.length - (kk+1))
    case measure=>omega
    case rel =>
     refine ⟨kk+1,_,by omega,by omega,by go_num,rfl,⟨fun j hj=>?_⟩⟩
     by_cases e:j=kk
     ·subst e
      rw [B.out];exact hq
     ·exact A.out j (by omega)
  ·have hltz:¬ (kk:Int) < (l0.length:Int):=by omega
   have hkl:kk=l0.length:=by omega
   have A2:Aside0 (idxP p l0=-1):=⟨idxP_miss p l0 (by rw [← hkl];exact A.out)⟩
   clear hkl
   go_wp2
   go_ret
   refine ⟨?_,q,rfl⟩
   rw [A2.out]
   rfl
set_option maxHeartbeats 1000000 in
theorem hasInt_with (p:Int→Bool) (g:Nat) (lb:Array Value) (eg:∀ args w,(callFunc g args).run Try.prog w=.ok (.enter g args) w) (A0:Option Addr) (c0:Nat) (l0:List Int) (w:World)
  (hp:PredI g lb p w) (hr0:Kd.C (Kd.int .i64) w A0 l0.length l0) :
  Calls Try.prog 98 #[.slice A0 l0.length c0,.func (.func g) #[] lb] w fun e w'=>e=.returned (.bool (l0.any p))∧∃ q,w'=w.drewN q:=by
 rw [← idxP_nonneg]
 go_enter Try.func98,Try.ntmps98
 go_wp2_with (go_at_call 67;refine (idxInt_with p g lb eg A0 c0 l0 _ hp hr0).mono ?_;rintro e w' ⟨rfl,q,rfl⟩)
 go_ret
 exact ⟨rfl,q,rfl⟩
theorem impl_areWithin.pred (lo hi:Int) (B1 B2:Nat) (w:World) (h1:B1 < w.heap.size) (h2:B2 < w.heap.size) (c1:w.cell? ⟨B1,0,none⟩=some (.int .i64 lo)) (c2:w.cell? ⟨B2,0,none⟩=some (.int .i64 hi)) :
  PredI 99 #[.pointer (some ⟨B1,0,none⟩),.pointer (some ⟨B2,0,none⟩)] (fun x=>!(decide (lo≤x) && decide (x≤hi))) w:=fun W x hb=>by
 have hc1:W.cell? ⟨B1,0,none⟩=some (.int .i64 lo):=(hb.cell (p:=⟨B1,0,none⟩) h1).trans c1
 have hc2:W.cell? ⟨B2,0,none⟩=some (.int .i64 hi):=(hb.cell (p:=⟨B2,0,none⟩) h2).trans c2
 clear c1 c2 h1 h2 hb
 show Calls Try.prog 99 #[.int .i64 x,.pointer (some ⟨B1,0,none⟩),.pointer (some ⟨B2,0,none⟩)] W _
 go_enter Try.func99,Try.ntmps99
 go_wp2
 all_goals (go_ret;exact ⟨by simp_all,0,rfl⟩)
def impl_areWithin.f (l0:List Int) (a1:Int) (a2:Int):Option (Bool):=some (l0.all fun n=>decide (a1≤n) && decide (n≤a2))
set_option maxHeartbeats 1000000 in
theorem impl_areWithin.calls (A0:Option Addr) (c0:Nat) (l0:List Int) (a1:Int) (a2:Int) (r:Bool) (w:World) (hr0:Kd.C (Kd.int .i64) w A0 l0.length l0) (hc0:l0.length≤c0) (h:impl_areWithin.f l0 a1 a2=some r) :
  Calls Try.prog 92 #[.slice A0 l0.length c0,.int .i64 a1,.int .i64 a2] w fun e w'=>e=.returned (.bool r)∧Below w.heap.size w w':=by
 have eg:∀ args w,(callFunc 99 args).run Try.prog w=.ok (.enter 99 args) w:=enters_of Try.func99 (by kernel_rfl) rfl
 have hcon:=hasInt_with (fun x=>!(decide (a1≤x) && decide (x≤a2))) 99 #[.pointer (some ⟨w.heap.size,0,none⟩),.pointer (some ⟨w.heap.size+1,0,none⟩)] eg A0 c0 l0 ((w.alloc (.cells #[.int .i64 a1] 3)).alloc (.cells #[.int .i64 a2] 3))
  (impl_areWithin.pred a1 a2 w.heap.size (w.heap.size+1) _ (by simp;omega) (by simp) (by simp) (by simp)) (zz18 (zz18 hr0 _) _)
 have hr:(!l0.any fun x=>!(decide (a1≤x) && decide (x≤a2)))=r:=by
  have h':=Option.some.inj h
  rw [← h',List.not_any_eq_all_not]
  simp
 clear h hr0
 generalize (l0.any fun x=>!(decide (a1≤x) && decide (x≤a2)))=b at hcon hr
 subst hr
 go_enter Try.func92,Try.ntmps92
 go_wp2_with (go_at_call 98;refine hcon.mono ?_;rintro e w' ⟨rfl,q,rfl⟩)
 go_ret
 exact ⟨rfl,zz0 (((Below.refl _ w).alloc (Nat.le_refl _) _).alloc (by simp) _) q⟩

/-! ### impl_IsNumbers: function 62 -/
def impl_IsNumbers.f (l0:List Int):Option (Bool):=(impl_areCrowd.f (l0.length:Int)).bind fun t122=>(if t122=true then ((impl_areWithin.f l0 0 (wrap64 ((l0.length:Int) - 1))).bind fun t123=>(some t123)) else (some false))
set_option maxHeartbeats 8000000 in
set_option maxRecDepth 100000 in
theorem impl_IsNumbers.calls (A0:Option Addr) (c0:Nat) (l0:List Int) (r:Bool) (w:World) (hr0:Kd.C (Kd.int .i64) w A0 l0.length l0) (hc0:l0.length≤c0) (h:impl_IsNumbers.f l0=some r) :
  Calls Try.prog 62 #[.slice A0 l0.length c0] w fun e w'=>e=.returned (.bool r)∧Below w.heap.size w w':=by
 have HR0:=zz31 hr0
 have HC0:=zz31 hc0
 clear hr0 hc0
 have HB:=zz31 (Below.refl w.heap.size w)
 have H:((impl_areCrowd.f (l0.length:Int)).bind fun t122=>(if t122=true then ((impl_areWithin.f l0 0 (wrap64 ((l0.length:Int) - 1))).bind fun t123=>(some t123)) else (some false)))=some r:=h
 clear h
 replace H:=zz30.mp H
 obtain ⟨t122,A20,H⟩:=H
 replace H:(if t122=true then ((impl_areWithin.f l0 0 (wrap64 ((l0.length:Int) - 1))).bind fun t123=>(some t123)) else (some false))=some r:=H
 have A2:=zz31 A20
 clear A20
 by_cases c3:t122=true
 ·subst c3
  have H1:((impl_areWithin.f l0 0 (wrap64 ((l0.length:Int) - 1))).bind fun t123=>(some t123))=some r:=by rw [if_pos rfl] at H;exact H
  clear H
  have H:=H1
  clear H1
  replace H:=zz30.mp H
  obtain ⟨t123,A40,H⟩:=H
  replace H:(some t123)=some r:=H
  have A4:=zz31 A40
  clear A40
  obtain rfl:=Option.some.inj H
  go_enter Try.func62,Try.ntmps62
  go_wp2_with (first | ((with_reducible refine gate_callee (f:=91) rfl ?_);refine goesL_ (some 5) rfl rfl Try.func91 (by kernel_rfl) rfl #[.int .i64 (l0.length:Int)] rfl (by (try simp only [zz26,zz27,zz28]);first | done | rfl | (simp only [zz24,zz25];rfl)) ?_;(with_reducible refine (impl_areCrowd.calls (l0.length:Int) true _ A2.out).mono ?_);rintro e w' ⟨rfl,⟨nd,rfl⟩⟩;refine ⟨_,rfl,?_⟩) | (go_at_call 92;(with_reducible refine (impl_areWithin.calls _ _ l0 0 (wrap64 ((l0.length:Int) - 1)) t123 _ ?side1 ?side2 A4.out).mono ?_);(case side1=>repeat (first | exact HR0.out | (with_reducible refine zz18 ?_ _) | (with_reducible refine zz19 ?_ _) | (with_reducible refine zz20 ?_)));(case side2=>exact HC0.out);rintro e w5 ⟨rfl,hb⟩;have n0_:=zz31 (zz4 (by repeat first | exact HB.out | apply zz2 | apply zz0 | apply zz1) hb);clear HB;have HB:=n0_;clear n0_;(try clear hb);(try clear hb2);(try clear hk);(try clear hi)))
  go_ret
  exact ⟨by first | rfl | (simp [errW_none,errW_some] <;> rfl) | (simp [*,errW_none,errW_some] <;> rfl),by repeat first | exact HB.out | apply zz2 | apply zz0 | apply zz1⟩
 ·replace c3:=Bool.eq_false_iff.mpr c3
  subst c3
  have H1:(some false)=some r:=by rw [if_neg (show ¬ (false=true) by decide)] at H;exact H
  clear H
  have H:=H1
  clear H1
  obtain rfl:=Option.some.inj H
  go_enter Try.func62,Try.ntmps62
  go_wp2_with (first | ((with_reducible refine gate_callee (f:=91) rfl ?_);refine goesL_ (some 5) rfl rfl Try.func91 (by kernel_rfl) rfl #[.int .i64 (l0.length:Int)] rfl (by (try simp only [zz26,zz27,zz28]);first | done | rfl | (simp only [zz24,zz25];rfl)) ?_;(with_reducible refine (impl_areCrowd.calls (l0.length:Int) false _ A2.out).mono ?_);rintro e w' ⟨rfl,⟨nd,rfl⟩⟩;refine ⟨_,rfl,?_⟩))
  go_ret
  exact ⟨by first | rfl | (simp [errW_none,errW_some] <;> rfl) | (simp [*,errW_none,errW_some] <;> rfl),by repeat first | exact HB.out | apply zz2 | apply zz0 | apply zz1⟩

/-! ### slices_Clone_int_int: function 65 (a contract of our own) -/
def slices_Clone_int_int.f (l0:List Int):Option (List Int):=if l0.length≤1000000000 then some l0 else none
set_option maxHeartbeats 1000000 in
set_option maxRecDepth 100000 in
theorem slices_Clone_int_int.calls (A0:Option Addr) (c0:Nat) (l0:List Int) (r:List Int) (w:World) (hr0:Kd.C (Kd.int .i64) w A0 l0.length l0) (hc0:l0.length≤c0) (h:slices_Clone_int_int.f l0=some r) :
  Calls Try.prog 65 #[.slice A0 l0.length c0] w fun e w'=>∃ v0_:Value,e=.returned (v0_)∧Kd.R (Kd.int .i64) 3 w' w.heap.size (fun _=>True) v0_ r∧Below w.heap.size w w':=by
 unfold slices_Clone_int_int.f at h
 by_cases hb:l0.length≤1000000000
 case neg=>rw [if_neg hb] at h;exact absurd h (by simp)
 rw [if_pos hb] at h
 obtain rfl:=Option.some.inj h
 clear h
 have HR:=zz31 hr0
 have HBIG:=zz31 hb
 clear hb hc0
 cases A0 with
 | none =>
  have h0:l0=[]:=by
   rcases Nat.eq_zero_or_pos l0.length with hz | hz
   ·exact List.eq_nil_of_length_eq_zero hz
   ·obtain ⟨ad,e,_⟩:=hr0.2.2 hz
    cases e
  subst h0
  clear hr0
  have heq:∀ W:World,(binOp .eql 22 (.slice none 0 c0) (.slice none 0 0)).run Try.prog W=.ok (.bool true) W:=fun W=>Lib.run_eql_slice_nil_nil W 0 c0 Try.underlying22
  go_enter Try.func65,Try.ntmps65
  go_wp2
  go_ret
  exact ⟨_,rfl,Kd.R_nil _ _ _ _ _,Below.refl _ _⟩
 | some ad =>
  clear hr0
  have heq:∀ W:World,(binOp .eql 22 (.slice (some ad) l0.length c0) (.slice none 0 0)).run Try.prog W=.ok (.bool false) W:=fun W=>Lib.run_eql_slice_some_nil W ad l0.length c0 Try.underlying22
  go_enter Try.func65,Try.ntmps65
  go_wp2_with (first | ((with_reducible refine gate_dst (N:=5) rfl ?_);refine Kd.R_lit (Kd.int .i64) (w0:=w) w.heap.size 3 ?hg (N:=5) ?hd (xs:=([]:List Int)) (inner:=[]) (ok:=fun _=>True) (okp:=fun _=>True) ?hr ?hp (fun _ hk=>hk) trivial (Below.refl _ _) (Nat.le_refl _) (by simp) ?_;(case hd=>rfl);(case hg=>rfl);(case hr=>first | (go_simp;done) | (go_simp;rfl));(case hp=>exact (Reps.none _ _));intro v3 w3 ho hb hg_ hnew_;clear hg_ hnew_;have HO:=zz31 ho;have HB:=zz31 hb;clear ho hb) | ((with_reducible refine gate_dst (N:=7) rfl ?_);refine Kd.R_append_rows (Kd.int .i64) (w0:=w) w.heap.size rfl (.tmp 5) (.tmp 6) 22 3 (.int .i64 0) 8 rfl Try.underlying22 info3 rfl (by decide) (by omega) v3 [] l0 _ _ _ (fun _=>True) (fun _=>False) rfl rfl HO.out (Kd.C_below HR.out HB.out) ?aR (fun _ h=>h.elim) (fun _ _=>trivial) HB.out HB.out.size ?aL ?_;(case aR=>exact (fun _ _ h=>h));(case aL=>(have:=HBIG.out;simp;omega));intro v4 w4 ho4 hb4 hg4 hn4;clear hg4 hn4;have HO4:=zz31 ho4;have HB4:=zz31 hb4;clear ho4 hb4))
  go_ret
  exact ⟨_,rfl,by simpa using HO4.out,HB4.out⟩

/-! ### impl_table_put: function 69 -/
def impl_table_put.f (l0:List Int) (a1:Int) (a2:Int):Option (List Int):=if 0≤a1 then (if a1 < (l0.length:Int) then (if 0≤a2 then ((some (l0.set (a1:Int).toNat (Go.bits .or .u16 (rd l0 a1) (shl .u16 1 a2)):List Int)).bind fun y126=>(if a2 < (l0.length:Int) then (some (y126.set (a2:Int).toNat (Go.bits .or .u16 (rd y126 a2) (shl .u16 1 a1)))) else (none))) else (none)) else (none)) else (none)
def impl_table_put.T0:Bool × List (List Nat × List Nat):=(true,[([],[]),([],[]),([0,1],[0,1]),([2],[2]),([],[]),([4],[4]),([3,5],[3,5]),([0,1,0,1,2,3,4,5,6],[0,1]),([7,6,0,1,2,3,4,5,6],[6,7])])
def impl_table_put.B0:List Nat:=[0,0,3,7,0,16,63,127,255]
theorem impl_table_put.tab0:rtab .any (opsOf Try.f69 0)=impl_table_put.T0:=by kernel_rfl
theorem impl_table_put.bits0:waitsOk impl_table_put.T0.2 impl_table_put.B0=true:=by kernel_rfl
def impl_table_put.T1:Bool × List (List Nat × List Nat):=(true,[([],[]),([],[]),([0,1],[0,1]),([2],[2]),([],[]),([4],[4]),([3,5],[3,5]),([0,1,0,1,2,3,4,5,6],[0,1]),([7,6,0,1,2,3,4,5,6],[6,7])])
def impl_table_put.B1:List Nat:=[0,0,3,7,0,16,63,127,255]
theorem impl_table_put.tab1:rtab .any (opsOf Try.f69 1)=impl_table_put.T1:=by kernel_rfl
theorem impl_table_put.bits1:waitsOk impl_table_put.T1.2 impl_table_put.B1=true:=by kernel_rfl
set_option maxHeartbeats 8000000 in
set_option maxRecDepth 100000 in
theorem impl_table_put.calls (P0_:Nat→Prop) (u9000_:Value) (l0:List Int) (a1:Int) (a2:Int) (r:List Int) (w0 w:World) (hB:Below w0.heap.size w0 w) (ho0:Kd.R (Kd.int .u16) 77 w w0.heap.size P0_ u9000_ l0) (h:impl_table_put.f l0 a1 a2=some r) :
  Calls Try.prog 69 #[u9000_,.int .i64 a1,.int .i64 a2] w fun e w'=>e=.returned (.tuple #[])∧Kd.R (Kd.int .u16) 77 w' w0.heap.size (fun k_=>(P0_ k_ ∨ w.heap.size≤k_)) u9000_ r∧Below w0.heap.size w0 w'∧Kept w w' (fun k_=>P0_ k_):=by
 have HO0:=zz31 (show Kd.R (Kd.int .u16) 77 w w0.heap.size (fun k_=>(P0_ k_ ∨ w.heap.size≤k_)) u9000_ l0 from Kd.R_mono ho0 (fun k_ hk=>(.inl hk)))
 have HK:=zz31 (Kept.refl w (fun k_=>P0_ k_))
 have HW0:=zz31 hB.size
 have HB:=zz31 hB
 clear hB
 have H:(if 0≤a1 then (if a1 < (l0.length:Int) then (if 0≤a2 then ((some (l0.set (a1:Int).toNat (Go.bits .or .u16 (rd l0 a1) (shl .u16 1 a2)):List Int)).bind fun y126=>(if a2 < (l0.length:Int) then (some (y126.set (a2:Int).toNat (Go.bits .or .u16 (rd y126 a2) (shl .u16 1 a1)))) else (none))) else (none)) else (none)) else (none))=some r:=h
 clear h
 by_cases c4:0≤a1
 ·rw [if_pos c4] at H
  have c4b0:decide (0≤a1)=true:=decide_eq_true c4
  clear c4
  by_cases c5:a1 < (l0.length:Int)
  ·rw [if_pos c5] at H
   have c5b0:decide (a1 < (l0.length:Int))=true:=decide_eq_true c5
   clear c5
   by_cases c6:0≤a2
   ·rw [if_pos c6] at H
    have c6b0:=eq_true c6
    have c6b1:decide (0≤a2)=true:=decide_eq_true c6
    clear c6
    obtain ⟨ji7,hji7⟩:∃ j_:Int,(shl .u16 1 a2)=j_:=⟨_,rfl⟩
    replace H:((some (l0.set (a1:Int).toNat (Go.bits .or .u16 (rd l0 a1) (ji7)):List Int)).bind fun y126=>(if a2 < (l0.length:Int) then (some (y126.set (a2:Int).toNat (Go.bits .or .u16 (rd y126 a2) (shl .u16 1 a1)))) else (none)))=some r:=by first | (rw [hji7] at H;exact H) | (simp only [hji7] at H ⊢;exact H)
    have hji7_:(IntKind.u16.wrap (1 * 2 ^ min a2.toNat 16))=ji7:=hji7
    have hji7z:a2≤16→(IntKind.u16.wrap (1 * 2 ^ a2.toNat))=ji7:=shl_small hji7
    have hji7u:(IntKind.u16.wrap (2 ^ min a2.toNat 16))=ji7:=by have h_:=hji7_;rw [Int.one_mul] at h_;exact h_
    have hji7v:a2≤16→(IntKind.u16.wrap (2 ^ a2.toNat))=ji7:=fun hle_=>by have h_:=hji7z hle_;rw [Int.one_mul] at h_;exact h_
    obtain ⟨y126,hy126⟩:∃ y_:List Int,y_=(l0.set (a1:Int).toNat (Go.bits .or .u16 (rd l0 a1) (ji7))):=⟨_,rfl⟩
    replace H:(if a2 < (l0.length:Int) then (some (y126.set (a2:Int).toNat (Go.bits .or .u16 (rd y126 a2) (shl .u16 1 a1)))) else (none))=some r:=by first | (rw [hy126];with_reducible exact H) | (have H2_:=(Option.bind_some _ _).symm.trans H;rw [hy126];with_reducible exact H2_) | (have H2_:=(Option.bind_some _ _).symm.trans H;with_reducible exact H2_) | with_reducible exact H | (rw [hy126];exact H) | exact H
    have Ny126:=zz31 hy126
    clear hy126
    by_cases c9:a2 < (l0.length:Int)
    ·rw [if_pos c9] at H
     have c9b0:decide (a2 < (l0.length:Int))=true:=decide_eq_true c9
     clear c9
     have c10b0:=eq_true (zz29 (by first | (with_reducible assumption) | assumption):0≤a1)
     obtain ⟨ji11,hji11⟩:∃ j_:Int,(shl .u16 1 a1)=j_:=⟨_,rfl⟩
     replace H:(some (y126.set (a2:Int).toNat (Go.bits .or .u16 (rd y126 a2) (ji11))))=some r:=by first | (rw [hji11] at H;exact H) | (simp only [hji11] at H ⊢;exact H)
     have hji11_:(IntKind.u16.wrap (1 * 2 ^ min a1.toNat 16))=ji11:=hji11
     have hji11z:a1≤16→(IntKind.u16.wrap (1 * 2 ^ a1.toNat))=ji11:=shl_small hji11
     have hji11u:(IntKind.u16.wrap (2 ^ min a1.toNat 16))=ji11:=by have h_:=hji11_;rw [Int.one_mul] at h_;exact h_
     have hji11v:a1≤16→(IntKind.u16.wrap (2 ^ a1.toNat))=ji11:=fun hle_=>by have h_:=hji11z hle_;rw [Int.one_mul] at h_;exact h_
     obtain ⟨y128,hy128⟩:∃ y_:List Int,y_=(y126.set (a2:Int).toNat (Go.bits .or .u16 (rd y126 a2) (ji11))):=⟨_,rfl⟩
     replace H:(some y128)=some r:=by first | (rw [hy128];with_reducible exact H) | (have H2_:=(Option.bind_some _ _).symm.trans H;rw [hy128];with_reducible exact H2_) | (have H2_:=(Option.bind_some _ _).symm.trans H;with_reducible exact H2_) | with_reducible exact H | (rw [hy128];exact H) | exact H
     have Ny128:=zz31 hy128
     clear hy128
     obtain rfl:=Option.some.inj H
     go_enter Try.func69,Try.ntmps69
     try go_wp2
     have n0_:=zz31 (zz14 HO0.out)
     have n1_:=zz31 (Kept.drew HK.out)
     have n2_:=zz31 (zz1 HB.out)
     clear HO0
     clear HK
     clear HB
     have HO0:=n0_
     have HK:=n1_
     have HB:=n2_
     clear n0_ n1_ n2_
     obtain ⟨Ao14,co14,eo14⟩:=Kd.R_slice HO0.out
     (first | subst eo14 | (injection eo14 with f1_ f2_ f3_;have f4_:=f1_.symm;have f5_:=f3_.symm;clear f1_ f2_ f3_;subst f4_;subst f5_))
     have p125:0≤(a1:Int):=zz29 (by first | (with_reducible assumption) | assumption)
     have q125:a1 < (l0.length:Int):=zz29 (by first | (with_reducible assumption) | assumption)
     obtain ⟨ad125,e125,hx125_0⟩:=Kd.at_int (Kd.R_reads' HO0.out).2.2 a1 p125 q125
     cases e125
     replace p125:=eq_true p125
     replace q125:=eq_true q125
     have p8:0≤(a1:Int):=zz29 (by first | (with_reducible assumption) | assumption)
     have q8:(a1:Int) < ((l0.length:Int):Int):=zz29 (by first | (with_reducible assumption) | assumption)
     obtain ⟨go8,co8,eo8,gb8,gl8,cl8,HG8⟩:=Kd.R_form HO0.out (by omega)
     (first | cases eo8 | (injection eo8 with ea_ en_ ec_;(first | subst ea_ | (injection ea_ with ea_;subst ea_));subst ec_;clear en_))
     have GB8:=zz31 gb8
     have GG8:=zz31 HG8
     clear gb8 gl8 HG8
     have HMgo8:=zz31 (show (P0_ go8 ∨ w.heap.size≤go8) from (HO0.out.1 _ rfl))
     (first | simp only [add_plain] at hx125_0 | skip)
     obtain ⟨hx8_0,hf8_0⟩:=Kd.R_celln 0 HO0.out (a1:Int) p8 q8
     replace p8:=eq_true p8
     replace q8:=eq_true q8
     have HP15:=Kd.R_putn HO0.out (a1:Int) (Go.bits .or .u16 (rd l0 a1) (ji7))
     rw [← Ny126.out] at HP15
     have HQ15:=zz31 HP15
     clear HP15
     refine start_ (n:=9) (S:=fun w'=>w'.cell? ⟨go8,(a1).toNat,none⟩=some (.int .u16 (rd l0 a1))) (ds:=[8]) #[F,F,F,F,F,F,F,F,F] (by kernel_rfl) rfl rfl (hx125_0) (fun hHeld=>?_);refine with_tabW impl_table_put.tab0 impl_table_put.bits0 (fun HT_ HW_=>?_)
     generalize w.drew=w13 at HO0 HK HB GG8 HQ15 hf8_0 hx125_0 hx8_0 hHeld ⊢
     refine pure_ (i:=0) (N:=some 6) (v:=?_) (a':=?_) #[T,F,F,F,F,F,F,F,F] rfl rfl (any_of HT_.out (by kernel_rfl)) (fun _ _ _ h=>h) (Or.inl ⟨by rfl,?_⟩) ?_ ?_
     rotate_left
     ·intro w'
      go_simp
      with_reducible rfl
     rotate_left
     ·simp only [Act.put,zz21,zz22,zz23,i64_w,i32_w]
      rfl
     refine pure_ (i:=1) (N:=some 7) (v:=?_) (a':=?_) #[T,T,F,F,F,F,F,F,F] rfl rfl (any_of HT_.out (by kernel_rfl)) (fun _ _ _ h=>h) (Or.inl ⟨by rfl,?_⟩) ?_ ?_
     rotate_left
     ·intro w'
      go_simp
      with_reducible rfl
     rotate_left
     ·simp only [Act.put,zz21,zz22,zz23,i64_w,i32_w]
      rfl
     refine pure_ (i:=2) (N:=some 8) (v:=?_) (a':=?_) #[T,T,T,F,F,F,F,F,F] rfl rfl (any_of HT_.out (by kernel_rfl)) (fun _ _ _ h=>h) (Or.inl ⟨by rfl,?_⟩) ?_ ?_
     rotate_left
     ·intro w'
      go_simp
      with_reducible rfl
     rotate_left
     ·simp only [Act.put,zz21,zz22,zz23,i64_w,i32_w]
      rfl
     refine pure_ (i:=4) (N:=some 10) (v:=?_) (a':=?_) #[T,T,T,F,T,F,F,F,F] rfl rfl (any_of HT_.out (by kernel_rfl)) (fun _ _ _ h=>h) (Or.inl ⟨by rfl,?_⟩) ?_ ?_
     rotate_left
     ·intro w'
      go_simp
      with_reducible rfl
     rotate_left
     ·simp only [Act.put,zz21,zz22,zz23,i64_w,i32_w]
      rfl
     refine pure_ (i:=5) (N:=some 11) (v:=?_) (a':=?_) #[T,T,T,F,T,T,F,F,F] rfl rfl (any_of HT_.out (by kernel_rfl)) (fun _ _ _ h=>h) (Or.inl ⟨by rfl,?_⟩) ?_ ?_
     rotate_left
     ·intro w'
      go_simp
      with_reducible rfl
     rotate_left
     ·simp only [Act.put,zz21,zz22,zz23,i64_w,i32_w]
      rfl
     refine take_ (i:=3) (N:=some 9) (v:=?_) (a':=?_) #[T,T,T,T,T,T,F,F,F] rfl rfl (take_ofW HT_.out HW_.out (by kernel_rfl)) (fun _ _ _ h=>h) (Or.inl ⟨by rfl,?_⟩) hHeld ?_ ?_
     rotate_left
     ·intro w' s0
      go_simp
      with_reducible rfl
     rotate_left
     ·simp only [Act.put,zz21,zz22,zz23,i64_w,i32_w]
      rfl
     refine pure_ (i:=6) (N:=some 12) (v:=?_) (a':=?_) #[T,T,T,T,T,T,T,F,F] rfl rfl (any_of HT_.out (by kernel_rfl)) (fun _ _ _ h=>h) (Or.inl ⟨by rfl,?_⟩) ?_ ?_
     rotate_left
     ·intro w'
      go_simp
      with_reducible rfl
     rotate_left
     ·simp only [Act.put,zz21,zz22,zz23,i64_w,i32_w]
      rfl
     refine pure_ (i:=7) (N:=some 13) (v:=?_) (a':=?_) #[T,T,T,T,T,T,T,T,F] rfl rfl (any_of HT_.out (by kernel_rfl)) (fun _ _ _ h=>h) (Or.inl ⟨by rfl,?_⟩) ?_ ?_
     rotate_left
     ·intro w'
      go_simp
      with_reducible rfl
     rotate_left
     ·simp only [Act.put,zz21,zz22,zz23,i64_w,i32_w]
      rfl
     refine last_ (i:=8) (N:=none) #[T,T,T,T,T,T,T,T,T] rfl rfl (one_of HT_.out (by kernel_rfl)) (by decide) (fun K hK=>?_)
     refine skip_ (w1:=?_) (by rfl) rfl ?_ ?_
     rotate_left
     ·go_simp
      rfl
     refine hK.out _ _ ?_
     clear hK K
     refine done_ (done_of HT_.out (by kernel_rfl)) ?_
     try go_wp2
     have n0_:Aside0 (Kd.R (Kd.int .u16) 77 (w13.setCell ⟨go8,(a1:Int).toNat,none⟩ (.int .u16 (Go.bits .or .u16 (rd l0 a1) (ji7)))) w0.heap.size (fun k_=>(P0_ k_ ∨ w.heap.size≤k_)) (.slice (some ⟨go8,0,none⟩) l0.length co14) y126):=⟨by (with_reducible repeat (first | apply zz12 | apply zz13 | apply zz14));exact HQ15.out⟩
     have n1_:Aside0 (Kept w (w13.setCell ⟨go8,(a1:Int).toNat,none⟩ (.int .u16 (Go.bits .or .u16 (rd l0 a1) (ji7)))) (fun k_=>P0_ k_)):=⟨by repeat (first | (with_reducible first | exact HK.out | apply Kept.alloc | apply Kept.drewN | apply Kept.drew | refine Kept.setCell ?_ HMgo8.out _) | exact HK.out)⟩
     have n2_:Aside0 (Below w0.heap.size w0 (w13.setCell ⟨go8,(a1:Int).toNat,none⟩ (.int .u16 (Go.bits .or .u16 (rd l0 a1) (ji7))))):=⟨by repeat first | exact HB.out | apply zz2 | apply zz0 | apply zz1 | refine zz3 ?_ GB8.out⟩
     (try clear HO0)
     (try clear HK)
     (try clear HB)
     generalize (w13.setCell ⟨go8,(a1:Int).toNat,none⟩ (.int .u16 (Go.bits .or .u16 (rd l0 a1) (ji7))))=w16 at n0_ n1_ n2_ ⊢
     have HO0:=n0_
     have HK:=n1_
     have HB:=n2_
     clear n0_ n1_ n2_
     have n0_:=zz31 (zz14 HO0.out)
     have n1_:=zz31 (Kept.drew HK.out)
     have n2_:=zz31 (zz1 HB.out)
     clear HO0
     clear HK
     clear HB
     have HO0:=n0_
     have HK:=n1_
     have HB:=n2_
     clear n0_ n1_ n2_
     have p127:0≤(a2:Int):=zz29 (by first | (with_reducible assumption) | assumption)
     have q127:a2 < (y126.length:Int):=(by have h_:(a2:Int) < ((l0.length:Int):Int):=zz29 (by first | (with_reducible assumption) | assumption);first | (have e_:=(Kd.R_reads' HO0.out).1;omega) | simpa only [Ny126.out,List.length_set] using h_)
     have ql127:((a2:Int) < ((l0.length:Int):Int))=True:=eq_true (zz29 (by first | (with_reducible assumption) | assumption))
     obtain ⟨ad127,e127,hx127_0⟩:=Kd.at_int (Kd.R_reads' HO0.out).2.2 a2 p127 q127
     obtain rfl:(⟨go8,0,none⟩:Addr)=ad127:=(by injection e127)
     (first | simp only [add_plain] at hx127_0 | simp only [add_at] at hx127_0 | simp only [Addr.add,Nat.zero_add] at hx127_0 | skip)
     replace p127:=eq_true p127
     replace q127:=eq_true q127
     have p12:0≤(a2:Int):=zz29 (by first | (with_reducible assumption) | assumption)
     have q12:(a2:Int) < ((l0.length:Int):Int):=zz29 (by first | (with_reducible assumption) | assumption)
     obtain ⟨hx12_0,hf12_0⟩:=Kd.R_celln 0 HO0.out (a2:Int) p12 q12
     replace p12:=eq_true p12
     replace q12:=eq_true q12
     have HP18:=Kd.R_putn HO0.out (a2:Int) (Go.bits .or .u16 (rd y126 a2) (ji11))
     rw [← Ny128.out] at HP18
     have HQ18:=zz31 HP18
     clear HP18
     refine start_ (n:=9) (S:=fun w'=>w'.cell? ⟨go8,(a2).toNat,none⟩=some (.int .u16 (rd y126 a2))) (ds:=[8]) #[F,F,F,F,F,F,F,F,F] (by kernel_rfl) rfl rfl (hx127_0) (fun hHeld=>?_);refine with_tabW impl_table_put.tab1 impl_table_put.bits1 (fun HT_ HW_=>?_)
     generalize w16.drew=w17 at HO0 HK HB HQ15 HQ18 hf12_0 hx127_0 hx12_0 hHeld ⊢
     refine pure_ (i:=0) (N:=some 14) (v:=?_) (a':=?_) #[T,F,F,F,F,F,F,F,F] rfl rfl (any_of HT_.out (by kernel_rfl)) (fun _ _ _ h=>h) (Or.inl ⟨by rfl,?_⟩) ?_ ?_
     rotate_left
     ·intro w'
      go_simp
      with_reducible rfl
     rotate_left
     ·simp only [Act.put,zz21,zz22,zz23,i64_w,i32_w]
      rfl
     refine pure_ (i:=1) (N:=some 15) (v:=?_) (a':=?_) #[T,T,F,F,F,F,F,F,F] rfl rfl (any_of HT_.out (by kernel_rfl)) (fun _ _ _ h=>h) (Or.inl ⟨by rfl,?_⟩) ?_ ?_
     rotate_left
     ·intro w'
      go_simp
      with_reducible rfl
     rotate_left
     ·simp only [Act.put,zz21,zz22,zz23,i64_w,i32_w]
      rfl
     refine pure_ (i:=2) (N:=some 16) (v:=?_) (a':=?_) #[T,T,T,F,F,F,F,F,F] rfl rfl (any_of HT_.out (by kernel_rfl)) (fun _ _ _ h=>h) (Or.inl ⟨by rfl,?_⟩) ?_ ?_
     rotate_left
     ·intro w'
      go_simp
      with_reducible rfl
     rotate_left
     ·simp only [Act.put,zz21,zz22,zz23,i64_w,i32_w]
      rfl
     refine pure_ (i:=4) (N:=some 18) (v:=?_) (a':=?_) #[T,T,T,F,T,F,F,F,F] rfl rfl (any_of HT_.out (by kernel_rfl)) (fun _ _ _ h=>h) (Or.inl ⟨by rfl,?_⟩) ?_ ?_
     rotate_left
     ·intro w'
      go_simp
      with_reducible rfl
     rotate_left
     ·simp only [Act.put,zz21,zz22,zz23,i64_w,i32_w]
      rfl
     refine pure_ (i:=5) (N:=some 19) (v:=?_) (a':=?_) #[T,T,T,F,T,T,F,F,F] rfl rfl (any_of HT_.out (by kernel_rfl)) (fun _ _ _ h=>h) (Or.inl ⟨by rfl,?_⟩) ?_ ?_
     rotate_left
     ·intro w'
      go_simp
      with_reducible rfl
     rotate_left
     ·simp only [Act.put,zz21,zz22,zz23,i64_w,i32_w]
      rfl
     refine take_ (i:=3) (N:=some 17) (v:=?_) (a':=?_) #[T,T,T,T,T,T,F,F,F] rfl rfl (take_ofW HT_.out HW_.out (by kernel_rfl)) (fun _ _ _ h=>h) (Or.inl ⟨by rfl,?_⟩) hHeld ?_ ?_
     rotate_left
     ·intro w' s0
      go_simp
      with_reducible rfl
     rotate_left
     ·simp only [Act.put,zz21,zz22,zz23,i64_w,i32_w]
      rfl
     refine pure_ (i:=6) (N:=some 20) (v:=?_) (a':=?_) #[T,T,T,T,T,T,T,F,F] rfl rfl (any_of HT_.out (by kernel_rfl)) (fun _ _ _ h=>h) (Or.inl ⟨by rfl,?_⟩) ?_ ?_
     rotate_left
     ·intro w'
      go_simp
      with_reducible rfl
     rotate_left
     ·simp only [Act.put,zz21,zz22,zz23,i64_w,i32_w]
      rfl
     refine pure_ (i:=7) (N:=some 21) (v:=?_) (a':=?_) #[T,T,T,T,T,T,T,T,F] rfl rfl (any_of HT_.out (by kernel_rfl)) (fun _ _ _ h=>h) (Or.inl ⟨by rfl,?_⟩) ?_ ?_
     rotate_left
     ·intro w'
      go_simp
      with_reducible rfl
     rotate_left
     ·simp only [Act.put,zz21,zz22,zz23,i64_w,i32_w]
      rfl
     refine last_ (i:=8) (N:=none) #[T,T,T,T,T,T,T,T,T] rfl rfl (one_of HT_.out (by kernel_rfl)) (by decide) (fun K hK=>?_)
     refine skip_ (w1:=?_) (by rfl) rfl ?_ ?_
     rotate_left
     ·go_simp
      rfl
     refine hK.out _ _ ?_
     clear hK K
     refine done_ (done_of HT_.out (by kernel_rfl)) ?_
     try go_wp2
     first | go_end0 | ((try simp only [Exit.inBlock,Exit.then]);refine bodyPost_ret (results_none rfl _ _ _) rfl ?_)
     exact ⟨by first | rfl | (simp [errW_none,errW_some] <;> rfl) | (simp only [← hji7,← hji11];first | rfl | (simp [errW_none,errW_some] <;> rfl)) | (simp [*,errW_none,errW_some] <;> rfl),by (with_reducible repeat (first | apply zz12 | apply zz13 | apply zz14));exact HQ18.out,by repeat first | exact HB.out | apply zz2 | apply zz0 | apply zz1 | refine zz3 ?_ GB8.out,by repeat (first | (with_reducible first | exact HK.out | apply Kept.alloc | apply Kept.drewN | apply Kept.drew | refine Kept.setCell ?_ HMgo8.out _) | exact HK.out)⟩
    ·rw [if_neg c9] at H
     exact absurd H (by simp)
   ·rw [if_neg c6] at H
    exact absurd H (by simp)
  ·rw [if_neg c5] at H
   exact absurd H (by simp)
 ·rw [if_neg c4] at H
  exact absurd H (by simp)

/-! ### laws_eqIntS: function 17 -/
def laws_eqIntS.l0:Nat→List Int→List Int→Int→Option (Bool)
 | 0,_,_,_=>none
 | k+1,x0,x1,x5=>if x5 < (x0.length:Int) then (if 0≤x5 then (if x5 < (x1.length:Int) then (if (rd x0 x5)=(rd x1 x5) then (laws_eqIntS.l0 k x0 x1 (wrap64 (x5+1))) else (some false)) else (none)) else (none)) else (some true)
def laws_eqIntS.f (k:Nat) (l0:List Int) (l1:List Int):Option (Bool):=if (l0.length:Int)=(l1.length:Int) then (laws_eqIntS.l0 k l0 l1 0) else (some false)
theorem laws_eqIntS.mono_l:∀ k,(∀ y0 y1 y2,LeO (laws_eqIntS.l0 k y0 y1 y2) (laws_eqIntS.l0 (k+1) y0 y1 y2))
 | 0=>fun _ _ _ r h=>by simp [laws_eqIntS.l0] at h
 | k+1=>by
  have ih0:=laws_eqIntS.mono_l k
  ·intro y0 y1 y2
   unfold laws_eqIntS.l0
   repeat' first
   | (with_reducible exact ih0 _ _ _)
   | (with_reducible exact LeO.refl _)
   | (with_reducible exact LeO.none _)
   | (with_reducible refine LeO.ite ?_ ?_)
   | (with_reducible refine LeO.bind ?_ (fun _=>?_))
   | exact ih0 _ _ _
   | exact LeO.none _
   | refine LeO.ite ?_ ?_
   | refine LeO.bind ?_ (fun _=>?_)
theorem laws_eqIntS.mono:∀ a0 a1 k,LeO (laws_eqIntS.f k a0 a1) (laws_eqIntS.f (k+1) a0 a1):=by
 intro a0 a1 k
 have ih0:=laws_eqIntS.mono_l k
 unfold laws_eqIntS.f
 repeat' first
   | (with_reducible exact ih0 _ _ _)
   | (with_reducible exact LeO.refl _)
   | (with_reducible exact LeO.none _)
   | (with_reducible refine LeO.ite ?_ ?_)
   | (with_reducible refine LeO.bind ?_ (fun _=>?_))
   | exact ih0 _ _ _
   | exact LeO.none _
   | refine LeO.ite ?_ ?_
   | refine LeO.bind ?_ (fun _=>?_)
set_option maxHeartbeats 8000000 in
set_option maxRecDepth 100000 in
theorem laws_eqIntS.calls (k:Nat) (A0:Option Addr) (c0:Nat) (l0:List Int) (A1:Option Addr) (c1:Nat) (l1:List Int) (r:Bool) (w:World) (hr0:Kd.C (Kd.int .i64) w A0 l0.length l0) (hc0:l0.length≤c0) (hr1:Kd.C (Kd.int .i64) w A1 l1.length l1) (hc1:l1.length≤c1) (h:laws_eqIntS.f k l0 l1=some r) :
  Calls Try.prog 17 #[.slice A0 l0.length c0,.slice A1 l1.length c1] w fun e w'=>e=.returned (.bool r)∧Drawn0 w w':=by
 have HR0:=zz31 hr0
 have HC0:=zz31 hc0
 clear hr0 hc0
 have HR1:=zz31 hr1
 have HC1:=zz31 hc1
 clear hr1 hc1
 have H:(if (l0.length:Int)=(l1.length:Int) then (laws_eqIntS.l0 k l0 l1 0) else (some false))=some r:=h
 clear h
 by_cases c3:(l0.length:Int)=(l1.length:Int)
 ·rw [if_pos c3] at H
  have c3b0:((l0.length:Int) == (l1.length:Int))=true:=beq_iff_eq.mpr c3
  have c3b1:((l0.length:Int) != (l1.length:Int))=false:=bne_eq_false_iff_eq.mpr c3
  have c3b2:(l0.length == l1.length)=true:=by first | simpa using c3 | (simp at c3 ⊢;omega)
  clear c3
  have H':=zz31 H
  clear H
  go_enter Try.func17,Try.ntmps17
  go_wp2
  repeat (go_quiet (fail);try go_wp2)
  go_loopg [5] k (fun kq v5 w'=>∃ (x5_1:Int),v5=.int .i64 x5_1∧Aside0 (laws_eqIntS.l0 kq l0 l1 x5_1=some r)∧Aside0 (kq≤k)∧Drawn0 w w')
  case atStart=>exact ⟨(0),(by first | rfl | (simp;done) | (simp [*];done)),H',⟨Nat.le_refl _⟩,by repeat (first | exact Drawn0.refl _ | apply Drawn0.step)⟩
  case round =>
   clear H'
   try clear c1
   try clear p2
   try clear c3
   try clear c3b0
   try clear c3b1
   try clear c3b2
   obtain ⟨x5_1,rfl,HA,HK1,⟨m1,rfl⟩⟩:=hrel
   cases gk with
   | zero=>exact absurd HA.out (by simp [laws_eqIntS.l0])
   | succ k1 =>
    have H:=HA.out
    clear HA
    simp only [laws_eqIntS.l0] at H
    by_cases c4:x5_1 < (l0.length:Int)
    ·rw [if_pos c4] at H
     have c4b0:decide (x5_1 < (l0.length:Int))=true:=decide_eq_true c4
     clear c4
     by_cases c5:0≤x5_1
     ·rw [if_pos c5] at H
      have c5b0:decide (0≤x5_1)=true:=decide_eq_true c5
      clear c5
      by_cases c6:x5_1 < (l1.length:Int)
      ·rw [if_pos c6] at H
       have c6b0:decide (x5_1 < (l1.length:Int))=true:=decide_eq_true c6
       clear c6
       by_cases c7:(rd l0 x5_1)=(rd l1 x5_1)
       ·rw [if_pos c7] at H
        have c7b0:((rd l0 x5_1) == (rd l1 x5_1))=true:=beq_iff_eq.mpr c7
        have c7b1:((rd l0 x5_1) != (rd l1 x5_1))=false:=bne_eq_false_iff_eq.mpr c7
        clear c7
        have H':=zz31 H
        clear H
        have p131:0≤(x5_1:Int):=zz29 (by first | (with_reducible assumption) | assumption)
        have q131:x5_1 < (l0.length:Int):=zz29 (by first | (with_reducible assumption) | assumption)
        obtain ⟨ad131,e131,hx131_0⟩:=Kd.at_int HR0.out x5_1 p131 q131
        cases e131
        replace p131:=eq_true p131
        replace q131:=eq_true q131
        have p132:0≤(x5_1:Int):=zz29 (by first | (with_reducible assumption) | assumption)
        have q132:x5_1 < (l1.length:Int):=zz29 (by first | (with_reducible assumption) | assumption)
        obtain ⟨ad132,e132,hx132_0⟩:=Kd.at_int HR1.out x5_1 p132 q132
        cases e132
        replace p132:=eq_true p132
        replace q132:=eq_true q132
        go_wp2
        repeat (go_quiet (fail);try go_wp2)
        go_roundg k1
        case measure=>have:=HK1.out;omega
        case rel=>exact ⟨(wrap64 (x5_1+1)),(by first | rfl | (simp;done) | (simp [*];done)),H',⟨by have:=HK1.out;omega⟩,by repeat (first | exact Drawn0.refl _ | apply Drawn0.step)⟩
       ·rw [if_neg c7] at H
        have c7b0:((rd l0 x5_1) == (rd l1 x5_1))=false:=beq_eq_false_iff_ne.mpr c7
        have c7b1:((rd l0 x5_1) != (rd l1 x5_1))=true:=bne_iff_ne.mpr c7
        obtain rfl:=Option.some.inj H
        have p131:0≤(x5_1:Int):=zz29 (by first | (with_reducible assumption) | assumption)
        have q131:x5_1 < (l0.length:Int):=zz29 (by first | (with_reducible assumption) | assumption)
        obtain ⟨ad131,e131,hx131_0⟩:=Kd.at_int HR0.out x5_1 p131 q131
        cases e131
        replace p131:=eq_true p131
        replace q131:=eq_true q131
        have p132:0≤(x5_1:Int):=zz29 (by first | (with_reducible assumption) | assumption)
        have q132:x5_1 < (l1.length:Int):=zz29 (by first | (with_reducible assumption) | assumption)
        obtain ⟨ad132,e132,hx132_0⟩:=Kd.at_int HR1.out x5_1 p132 q132
        cases e132
        replace p132:=eq_true p132
        replace q132:=eq_true q132
        go_wp2
        repeat (go_quiet (fail);try go_wp2)
        go_ret
        exact ⟨by first | rfl | (simp;done) | (simp [*];done),by repeat (first | exact Drawn0.refl _ | apply Drawn0.step)⟩
      ·rw [if_neg c6] at H
       exact absurd H (by simp)
     ·rw [if_neg c5] at H
      exact absurd H (by simp)
    ·rw [if_neg c4] at H
     have c4b0:decide (x5_1 < (l0.length:Int))=false:=decide_eq_false c4
     clear c4
     obtain rfl:=Option.some.inj H
     go_wp2
     repeat (go_quiet (fail);try go_wp2)
     go_ret
     exact ⟨by first | rfl | (simp;done) | (simp [*];done),by repeat (first | exact Drawn0.refl _ | apply Drawn0.step)⟩
 ·rw [if_neg c3] at H
  have c3b0:((l0.length:Int) == (l1.length:Int))=false:=beq_eq_false_iff_ne.mpr c3
  have c3b1:((l0.length:Int) != (l1.length:Int))=true:=bne_iff_ne.mpr c3
  have c3b2:(l0.length == l1.length)=false:=by first | simpa using c3 | (simp at c3 ⊢;omega)
  obtain rfl:=Option.some.inj H
  go_enter Try.func17,Try.ntmps17
  go_wp2
  repeat (go_quiet (fail);try go_wp2)
  go_ret
  exact ⟨by first | rfl | (simp;done) | (simp [*];done),by repeat (first | exact Drawn0.refl _ | apply Drawn0.step)⟩

end Go.Proofs.Ytjipjcdeoajnjaa.P
