-- PRINTED by print.py (a twelfth state) out of the translation. Not trusted: Lean checks it.
import Derived.Test.YtifkaefccghgdaaDoorPx0
import Derived.Test.YtifkaefccghgdaaDoorPx1
import Derived.Test.YtifkaefccghgdaaDoorPx5
import Derived.Test.YtifkaefccghgdaaDoorPx10
namespace Go.Proofs.YtifkaefccghgdaaDoor.P
open Go.RowKit Go.Proofs.YtifkaefccghgdaaDoorW.PrintWords Go.Proofs.YtifkaefccghgdaaDoorW.PrintLast Go.Proofs.YtifkaefccghgdaaDoorW.PrintMore
attribute [local go_sem] max2_int min2_int max_two min_two max_three min_three max_four min_four   -- for this text's walks alone
set_option linter.unusedVariables false
set_option linter.unusedSimpArgs false

/-! ### spec_l1All: function 75 -/
def spec_l1All.l0:Nat→Int→Int→List Int→Int→Int→Option (Bool)
 | 0,_,_,_,_,_=>none
 | k+1,x1,x2,x9,x10,x11=>if x11 < x10 then (if 0≤x11 then (if x11 < (x9.length:Int) then ((spec_l1In.f (rd x9 x11) x1 x2).bind fun t505=>(if t505=true then (spec_l1All.l0 k x1 x2 x9 x10 (wrap64 (x11+1))) else (some false))) else (none)) else (none)) else (some true)
def spec_l1All.f (k:Nat) (l0:List Int) (a1:Int) (a2:Int):Option (Bool):=spec_l1All.l0 k a1 a2 l0 (l0.length:Int) 0
theorem spec_l1All.mono_l:∀ k,(∀ y0 y1 y2 y3 y4,LeO (spec_l1All.l0 k y0 y1 y2 y3 y4) (spec_l1All.l0 (k+1) y0 y1 y2 y3 y4))
 | 0=>fun _ _ _ _ _ r h=>by simp [spec_l1All.l0] at h
 | k+1=>by
  have ih0:=spec_l1All.mono_l k
  ·intro y0 y1 y2 y3 y4
   unfold spec_l1All.l0
   repeat' first
   | (with_reducible exact ih0 _ _ _ _ _)
   | (with_reducible exact LeO.refl _)
   | (with_reducible exact LeO.none _)
   | (with_reducible refine LeO.ite ?_ ?_)
   | (with_reducible refine LeO.bind ?_ (fun _=>?_))
   | exact ih0 _ _ _ _ _
   | exact LeO.none _
   | refine LeO.ite ?_ ?_
   | refine LeO.bind ?_ (fun _=>?_)
theorem spec_l1All.mono:∀ a0 a1 a2 k,LeO (spec_l1All.f k a0 a1 a2) (spec_l1All.f (k+1) a0 a1 a2):=by
 intro a0 a1 a2 k
 have ih0:=spec_l1All.mono_l k
 unfold spec_l1All.f
 repeat' first
   | (with_reducible exact ih0 _ _ _ _ _)
   | (with_reducible exact LeO.refl _)
   | (with_reducible exact LeO.none _)
   | (with_reducible refine LeO.ite ?_ ?_)
   | (with_reducible refine LeO.bind ?_ (fun _=>?_))
   | exact ih0 _ _ _ _ _
   | exact LeO.none _
   | refine LeO.ite ?_ ?_
   | refine LeO.bind ?_ (fun _=>?_)
set_option maxHeartbeats 8000000 in
set_option maxRecDepth 100000 in
theorem spec_l1All.calls (k:Nat) (A0:Option Addr) (c0:Nat) (l0:List Int) (a1:Int) (a2:Int) (r:Bool) (w:World) (hr0:Kd.C (Kd.int .i64) w A0 l0.length l0) (hc0:l0.length≤c0) (h:spec_l1All.f k l0 a1 a2=some r) :
  Calls Tryd.prog 75 #[.slice A0 l0.length c0,.int .i64 a1,.int .i64 a2] w fun e w'=>e=.returned (.bool r)∧Drawn0 w w':=by
 have HR0:=zz31 hr0
 have HC0:=zz31 hc0
 clear hr0 hc0
 have H:(spec_l1All.l0 k a1 a2 l0 (l0.length:Int) 0)=some r:=h
 clear h
 have H':=zz31 H
 clear H
 go_enter Tryd.func75,Tryd.ntmps75
 go_wp2
 go_loopg [11] k (fun kq v11 w'=>∃ (x11_1:Int),v11=.int .i64 x11_1∧Aside0 (spec_l1All.l0 kq a1 a2 l0 (l0.length:Int) x11_1=some r)∧Aside0 (kq≤k)∧Drawn0 w w')
 case atStart=>exact ⟨(0),(by first | rfl | (simp;done) | (simp [*];done)),H',⟨Nat.le_refl _⟩,by repeat (first | exact Drawn0.refl _ | apply Drawn0.step)⟩
 case round =>
  clear H'
  try clear p2
  obtain ⟨x11_1,rfl,HA,HK1,⟨m1,rfl⟩⟩:=hrel
  cases gk with
  | zero=>exact absurd HA.out (by simp [spec_l1All.l0])
  | succ k1 =>
   have H:=HA.out
   clear HA
   simp only [spec_l1All.l0] at H
   by_cases c4:x11_1 < (l0.length:Int)
   ·rw [if_pos c4] at H
    have c4b0:decide (x11_1 < (l0.length:Int))=true:=decide_eq_true c4
    clear c4
    by_cases c5:0≤x11_1
    ·rw [if_pos c5] at H
     have c5b0:decide (0≤x11_1)=true:=decide_eq_true c5
     clear c5
     by_cases c6:x11_1 < (l0.length:Int)
     ·rw [if_pos c6] at H
      have c6b0:decide (x11_1 < (l0.length:Int))=true:=decide_eq_true c6
      clear c6
      replace H:=zz30.mp H
      obtain ⟨t505,A70,H⟩:=H
      replace H:(if t505=true then (spec_l1All.l0 k1 a1 a2 l0 (l0.length:Int) (wrap64 (x11_1+1))) else (some false))=some r:=H
      have A7:=zz31 A70
      clear A70
      by_cases c8:t505=true
      ·subst c8
       have H1:(spec_l1All.l0 k1 a1 a2 l0 (l0.length:Int) (wrap64 (x11_1+1)))=some r:=by rw [if_pos rfl] at H;exact H
       clear H
       have H:=H1
       clear H1
       have H':=zz31 H
       clear H
       have p504:0≤(x11_1:Int):=zz29 (by first | (with_reducible assumption) | assumption)
       have q504:x11_1 < (l0.length:Int):=zz29 (by first | (with_reducible assumption) | assumption)
       obtain ⟨ad504,e504,hx504_0⟩:=Kd.at_int HR0.out x11_1 p504 q504
       cases e504
       replace p504:=eq_true p504
       replace q504:=eq_true q504
       go_wp2_with (first | ((with_reducible refine gate_callee (f:=60) rfl ?_);refine goesL_ (some 18) rfl rfl Tryd.func60 (by kernel_rfl) rfl #[.int .i64 (rd l0 x11_1),.int .i64 a1,.int .i64 a2] rfl (by (try simp only [zz26,zz27,zz28]);first | done | rfl | (simp only [zz24,zz25];rfl)) ?_;(with_reducible refine (spec_l1In.calls (rd l0 x11_1) a1 a2 true _ A7.out).mono ?_);rintro e w' ⟨rfl,⟨nd,rfl⟩⟩;refine ⟨_,rfl,?_⟩))
       go_roundg k1
       case measure=>have:=HK1.out;omega
       case rel=>exact ⟨(wrap64 (x11_1+1)),(by first | rfl | (simp;done) | (simp [*];done)),H',⟨by have:=HK1.out;omega⟩,by repeat (first | exact Drawn0.refl _ | apply Drawn0.step)⟩
      ·replace c8:=Bool.eq_false_iff.mpr c8
       subst c8
       have H1:(some false)=some r:=by rw [if_neg (show ¬ (false=true) by decide)] at H;exact H
       clear H
       have H:=H1
       clear H1
       obtain rfl:=Option.some.inj H
       have p504:0≤(x11_1:Int):=zz29 (by first | (with_reducible assumption) | assumption)
       have q504:x11_1 < (l0.length:Int):=zz29 (by first | (with_reducible assumption) | assumption)
       obtain ⟨ad504,e504,hx504_0⟩:=Kd.at_int HR0.out x11_1 p504 q504
       cases e504
       replace p504:=eq_true p504
       replace q504:=eq_true q504
       go_wp2_with (first | ((with_reducible refine gate_callee (f:=60) rfl ?_);refine goesL_ (some 18) rfl rfl Tryd.func60 (by kernel_rfl) rfl #[.int .i64 (rd l0 x11_1),.int .i64 a1,.int .i64 a2] rfl (by (try simp only [zz26,zz27,zz28]);first | done | rfl | (simp only [zz24,zz25];rfl)) ?_;(with_reducible refine (spec_l1In.calls (rd l0 x11_1) a1 a2 false _ A7.out).mono ?_);rintro e w' ⟨rfl,⟨nd,rfl⟩⟩;refine ⟨_,rfl,?_⟩))
       go_ret
       exact ⟨by first | rfl | (simp;done) | (simp [*];done),by repeat (first | exact Drawn0.refl _ | apply Drawn0.step)⟩
     ·rw [if_neg c6] at H
      exact absurd H (by simp)
    ·rw [if_neg c5] at H
     exact absurd H (by simp)
   ·rw [if_neg c4] at H
    have c4b0:decide (x11_1 < (l0.length:Int))=false:=decide_eq_false c4
    clear c4
    obtain rfl:=Option.some.inj H
    go_wp2
    go_ret
    exact ⟨by first | rfl | (simp;done) | (simp [*];done),by repeat (first | exact Drawn0.refl _ | apply Drawn0.step)⟩

/-! ### spec_grOrder: function 54 -/
mutual
def spec_grOrder.j0:Nat→List Int→Bool→Option (Bool)
 | 0,_,_=>none
 | k+1,x1,x17=>if x17=true then (some false) else (spec_grOrder.l0 k x1 x1 (x1.length:Int) 0)
def spec_grOrder.l0:Nat→List Int→List Int→Int→Int→Option (Bool)
 | 0,_,_,_,_=>none
 | k+1,x1,x18,x19,x20=>if x20 < x19 then (if 0≤x20 then (if x20 < (x18.length:Int) then (if x20≤(x1.length:Int) then ((spec_l1Has.f k (x1.take (x20:Int).toNat) (rd x18 x20)).bind fun t509=>(if t509=true then (some false) else (spec_grOrder.l0 k x1 x18 x19 (wrap64 (x20+1))))) else (none)) else (none)) else (none)) else (some true)
end
def spec_grOrder.f (k:Nat) (a0:Int) (l1:List Int):Option (Bool):=if (l1.length:Int)=a0 then ((spec_l1All.f k l1 0 (wrap64 (a0 - 1))).bind fun t506=>(spec_grOrder.j0 k l1 (!t506))) else (spec_grOrder.j0 k l1 true)
theorem spec_grOrder.mono_l:∀ k,(∀ y0 y1,LeO (spec_grOrder.j0 k y0 y1) (spec_grOrder.j0 (k+1) y0 y1))∧(∀ y0 y1 y2 y3,LeO (spec_grOrder.l0 k y0 y1 y2 y3) (spec_grOrder.l0 (k+1) y0 y1 y2 y3))
 | 0=>⟨fun _ _ r h=>by simp [spec_grOrder.j0] at h,fun _ _ _ _ r h=>by simp [spec_grOrder.l0] at h⟩
 | k+1=>by
  obtain ⟨ih0,ih1⟩:=spec_grOrder.mono_l k
  refine ⟨?_,?_⟩
  ·intro y0 y1
   unfold spec_grOrder.j0
   repeat' first
   | (with_reducible exact ih0 _ _)
   | (with_reducible exact ih1 _ _ _ _)
   | (with_reducible exact spec_l1All.mono _ _ _ _)
   | (with_reducible exact spec_l1Has.mono _ _ _)
   | (with_reducible exact LeO.refl _)
   | (with_reducible exact LeO.none _)
   | (with_reducible refine LeO.ite ?_ ?_)
   | (with_reducible refine LeO.bind ?_ (fun _=>?_))
   | exact ih0 _ _
   | exact ih1 _ _ _ _
   | exact spec_l1All.mono _ _ _ _
   | exact spec_l1Has.mono _ _ _
   | exact LeO.none _
   | refine LeO.ite ?_ ?_
   | refine LeO.bind ?_ (fun _=>?_)
  ·intro y0 y1 y2 y3
   unfold spec_grOrder.l0
   repeat' first
   | (with_reducible exact ih0 _ _)
   | (with_reducible exact ih1 _ _ _ _)
   | (with_reducible exact spec_l1All.mono _ _ _ _)
   | (with_reducible exact spec_l1Has.mono _ _ _)
   | (with_reducible exact LeO.refl _)
   | (with_reducible exact LeO.none _)
   | (with_reducible refine LeO.ite ?_ ?_)
   | (with_reducible refine LeO.bind ?_ (fun _=>?_))
   | exact ih0 _ _
   | exact ih1 _ _ _ _
   | exact spec_l1All.mono _ _ _ _
   | exact spec_l1Has.mono _ _ _
   | exact LeO.none _
   | refine LeO.ite ?_ ?_
   | refine LeO.bind ?_ (fun _=>?_)
theorem spec_grOrder.mono:∀ a0 a1 k,LeO (spec_grOrder.f k a0 a1) (spec_grOrder.f (k+1) a0 a1):=by
 intro a0 a1 k
 obtain ⟨ih0,ih1⟩:=spec_grOrder.mono_l k
 unfold spec_grOrder.f
 repeat' first
   | (with_reducible exact ih0 _ _)
   | (with_reducible exact ih1 _ _ _ _)
   | (with_reducible exact spec_l1All.mono _ _ _ _)
   | (with_reducible exact spec_l1Has.mono _ _ _)
   | (with_reducible exact LeO.refl _)
   | (with_reducible exact LeO.none _)
   | (with_reducible refine LeO.ite ?_ ?_)
   | (with_reducible refine LeO.bind ?_ (fun _=>?_))
   | exact ih0 _ _
   | exact ih1 _ _ _ _
   | exact spec_l1All.mono _ _ _ _
   | exact spec_l1Has.mono _ _ _
   | exact LeO.none _
   | refine LeO.ite ?_ ?_
   | refine LeO.bind ?_ (fun _=>?_)
set_option maxHeartbeats 8000000 in
set_option maxRecDepth 100000 in
theorem spec_grOrder.calls (k:Nat) (a0:Int) (A1:Option Addr) (c1:Nat) (l1:List Int) (r:Bool) (w:World) (hr1:Kd.C (Kd.int .i64) w A1 l1.length l1) (hc1:l1.length≤c1) (h:spec_grOrder.f k a0 l1=some r) :
  Calls Tryd.prog 54 #[.int .i64 a0,.slice A1 l1.length c1] w fun e w'=>e=.returned (.bool r)∧Drawn0 w w':=by
 have HR1:=zz31 hr1
 have HC1:=zz31 hc1
 clear hr1 hc1
 have H:(if (l1.length:Int)=a0 then ((spec_l1All.f k l1 0 (wrap64 (a0 - 1))).bind fun t506=>(spec_grOrder.j0 k l1 (!t506))) else (spec_grOrder.j0 k l1 true))=some r:=h
 clear h
 have HC3:=zz31 H
 clear H
 go_enter Tryd.func54,Tryd.ntmps54
 go_upto_region 1 with (fail)
 go_cut [17] (fun v17 wc=>∃ (kq:Nat) (x17_2:Bool),v17=.bool x17_2∧Aside0 (spec_grOrder.j0 kq l1 x17_2=some r)∧Aside0 (kq≤k)∧Drawn0 w wc)
 case first =>
  have H:=HC3.out
  clear HC3
  by_cases c4:(l1.length:Int)=a0
  ·rw [if_pos c4] at H
   have c4b0:((l1.length:Int) == a0)=true:=beq_iff_eq.mpr c4
   have c4b1:((l1.length:Int) != a0)=false:=bne_eq_false_iff_eq.mpr c4
   clear c4
   (first | rw [c4b0] | (simp only [i64_w,i32_w];rw [c4b0]) | skip)
   replace H:=zz30.mp H
   obtain ⟨t506,A50,H⟩:=H
   replace H:(spec_grOrder.j0 k l1 (!t506))=some r:=H
   have A5:=zz31 A50
   clear A50
   have H':=zz31 H
   clear H
   go_wp2_with (first | (go_at_call 75;(with_reducible refine (spec_l1All.calls k _ _ l1 0 (wrap64 (a0 - 1)) t506 _ ?side1 ?side2 A5.out).mono ?_);(case side1=>repeat (first | exact HR1.out | (with_reducible refine zz18 ?_ _) | (with_reducible refine zz19 ?_ _) | (with_reducible refine zz20 ?_)));(case side2=>exact HC1.out);rintro e w' ⟨rfl,⟨nd,rfl⟩⟩))
   go_meet
   case rel=>exact ⟨_,(!t506),(by first | rfl | (simp;done) | (simp [*];done)),H',⟨by first | omega | exact Nat.le_refl _⟩,by repeat (first | exact Drawn0.refl _ | apply Drawn0.step)⟩
  ·rw [if_neg c4] at H
   have c4b0:((l1.length:Int) == a0)=false:=beq_eq_false_iff_ne.mpr c4
   have c4b1:((l1.length:Int) != a0)=true:=bne_iff_ne.mpr c4
   (first | rw [c4b0] | (simp only [i64_w,i32_w];rw [c4b0]) | skip)
   have H':=zz31 H
   clear H
   go_wp2
   go_meet
   case rel=>exact ⟨_,(true),(by first | rfl | (simp;done) | (simp [*];done)),H',⟨by first | omega | exact Nat.le_refl _⟩,by repeat (first | exact Drawn0.refl _ | apply Drawn0.step)⟩
 case rest =>
  clear HC3
  try clear c1
  try clear p2
  try clear c4
  try clear c4b0
  try clear c4b1
  try clear c5
  obtain ⟨kq,x17_2,rfl,HA,HJ2,⟨mc2,rfl⟩⟩:=hcut
  cases kq with
  | zero=>exact absurd HA.out (by simp [spec_grOrder.j0])
  | succ kj2 =>
   have H:=HA.out
   clear HA
   simp only [spec_grOrder.j0] at H
   by_cases c6:x17_2=true
   ·subst c6
    have H1:(some false)=some r:=by rw [if_pos rfl] at H;exact H
    clear H
    have H:=H1
    clear H1
    obtain rfl:=Option.some.inj H
    go_wp2
    go_ret
    exact ⟨by first | rfl | (simp;done) | (simp [*];done),by repeat (first | exact Drawn0.refl _ | apply Drawn0.step)⟩
   ·replace c6:=Bool.eq_false_iff.mpr c6
    subst c6
    have H1:(spec_grOrder.l0 kj2 l1 l1 (l1.length:Int) 0)=some r:=by rw [if_neg (show ¬ (false=true) by decide)] at H;exact H
    clear H
    have H:=H1
    clear H1
    have H':=zz31 H
    clear H
    go_wp2
    go_loopg [20] kj2 (fun kq v20 w'=>∃ (x20_2:Int),v20=.int .i64 x20_2∧Aside0 (spec_grOrder.l0 kq l1 l1 (l1.length:Int) x20_2=some r)∧Aside0 (kq≤kj2)∧Drawn0 w w')
    case atStart=>exact ⟨(0),(by first | rfl | (simp;done) | (simp [*];done)),H',⟨Nat.le_refl _⟩,by repeat (first | exact Drawn0.refl _ | apply Drawn0.step)⟩
    case round =>
     clear H'
     try clear c1
     try clear c2
     try clear p2
     try clear c4
     try clear c4b0
     try clear c4b1
     try clear c5
     try clear c6
     try clear p6
     try clear p2
     obtain ⟨x20_2,rfl,HA,HK2,⟨m2,rfl⟩⟩:=hrel
     cases gk with
     | zero=>exact absurd HA.out (by simp [spec_grOrder.l0])
     | succ k2 =>
      have H:=HA.out
      clear HA
      simp only [spec_grOrder.l0] at H
      by_cases c7:x20_2 < (l1.length:Int)
      ·rw [if_pos c7] at H
       have c7b0:decide (x20_2 < (l1.length:Int))=true:=decide_eq_true c7
       clear c7
       by_cases c8:0≤x20_2
       ·rw [if_pos c8] at H
        have c8b0:decide (0≤x20_2)=true:=decide_eq_true c8
        clear c8
        by_cases c9:x20_2 < (l1.length:Int)
        ·rw [if_pos c9] at H
         have c9b0:decide (x20_2 < (l1.length:Int))=true:=decide_eq_true c9
         clear c9
         have c10b0:=eq_true (zz29 (by first | (with_reducible assumption) | assumption):0≤x20_2)
         by_cases c11:x20_2≤(l1.length:Int)
         ·rw [if_pos c11] at H
          have c11b0:=eq_true c11
          have c11b1:decide (x20_2≤(l1.length:Int))=true:=decide_eq_true c11
          clear c11
          replace H:=zz30.mp H
          obtain ⟨t509,A120,H⟩:=H
          replace H:(if t509=true then (some false) else (spec_grOrder.l0 k2 l1 l1 (l1.length:Int) (wrap64 (x20_2+1))))=some r:=H
          have A12:=zz31 A120
          clear A120
          by_cases c13:t509=true
          ·subst c13
           have H1:(some false)=some r:=by rw [if_pos rfl] at H;exact H
           clear H
           have H:=H1
           clear H1
           obtain rfl:=Option.some.inj H
           have p507:0≤(x20_2:Int):=zz29 (by first | (with_reducible assumption) | assumption)
           have q507:x20_2 < (l1.length:Int):=zz29 (by first | (with_reducible assumption) | assumption)
           obtain ⟨ad507,e507,hx507_0⟩:=Kd.at_int HR1.out x20_2 p507 q507
           cases e507
           replace p507:=eq_true p507
           replace q507:=eq_true q507
           obtain ⟨i014,hi014,_,hsz14,_⟩:=info_parts info3
           obtain ⟨hcut14,hA14,hC14⟩:=print_take_of (P:=Tryd.prog) (Value.int .i64) 0 34 3 .i64 Tryd.underlying34 hi014 hsz14 (some ad507) c1 l1 x20_2 (zz29 (by first | (with_reducible assumption) | assumption)) (zz29 (by first | (with_reducible assumption) | assumption)) HC1.out
           have HL14:=zz31 (show ((l1.take (x20_2:Int).toNat).length:Int)=max x20_2 0 from by (have e1:x20_2≤(l1.length:Int):=zz29 (by first | (with_reducible assumption) | assumption));rw [zz25];omega)
           have HR508:=zz31 (Kd.C_of_reads (h1:=fun _=>rfl) (hA14 _ (Kd.reads_of_C HR1.out)))
           have HC508:=zz31 hC14
           clear hA14 hC14 hi014 hsz14
           go_wp2_with (first | ((with_reducible refine gate_callee (f:=44) rfl ?_);refine goesL_ (some 29) rfl rfl Tryd.func44 (by kernel_rfl) rfl #[.slice (some ad507) (l1.take (x20_2:Int).toNat).length c1,.int .i64 (rd l1 x20_2)] rfl (by (try simp only [zz26,zz27,zz28]);first | done | (rw [show (l1.take (x20_2:Int).toNat).length=x20_2.toNat from (by rw [zz25];have h_:(x20_2:Int)≤(l1.length:Int):=zz29 (by first | (with_reducible assumption) | assumption);omega)] <;> rfl) | rfl | (simp only [zz24,zz25];rfl)) ?_;(with_reducible refine (spec_l1Has.calls k2 _ _ (l1.take (x20_2:Int).toNat) (rd l1 x20_2) true _ ?side1 ?side2 A12.out).mono ?_);(case side1=>repeat (first | exact HR508.out | (with_reducible refine zz18 ?_ _) | (with_reducible refine zz19 ?_ _) | (with_reducible refine zz20 ?_)));(case side2=>exact HC508.out);rintro e w' ⟨rfl,⟨nd,rfl⟩⟩;refine ⟨_,rfl,?_⟩))
           go_ret
           exact ⟨by first | rfl | (simp;done) | (simp [*];done),by repeat (first | exact Drawn0.refl _ | apply Drawn0.step)⟩
          ·replace c13:=Bool.eq_false_iff.mpr c13
           subst c13
           have H1:(spec_grOrder.l0 k2 l1 l1 (l1.length:Int) (wrap64 (x20_2+1)))=some r:=by rw [if_neg (show ¬ (false=true) by decide)] at H;exact H
           clear H
           have H:=H1
           clear H1
           have H':=zz31 H
           clear H
           have p507:0≤(x20_2:Int):=zz29 (by first | (with_reducible assumption) | assumption)
           have q507:x20_2 < (l1.length:Int):=zz29 (by first | (with_reducible assumption) | assumption)
           obtain ⟨ad507,e507,hx507_0⟩:=Kd.at_int HR1.out x20_2 p507 q507
           cases e507
           replace p507:=eq_true p507
           replace q507:=eq_true q507
           obtain ⟨i015,hi015,_,hsz15,_⟩:=info_parts info3
           obtain ⟨hcut15,hA15,hC15⟩:=print_take_of (P:=Tryd.prog) (Value.int .i64) 0 34 3 .i64 Tryd.underlying34 hi015 hsz15 (some ad507) c1 l1 x20_2 (zz29 (by first | (with_reducible assumption) | assumption)) (zz29 (by first | (with_reducible assumption) | assumption)) HC1.out
           have HL15:=zz31 (show ((l1.take (x20_2:Int).toNat).length:Int)=max x20_2 0 from by (have e1:x20_2≤(l1.length:Int):=zz29 (by first | (with_reducible assumption) | assumption));rw [zz25];omega)
           have HR508:=zz31 (Kd.C_of_reads (h1:=fun _=>rfl) (hA15 _ (Kd.reads_of_C HR1.out)))
           have HC508:=zz31 hC15
           clear hA15 hC15 hi015 hsz15
           go_wp2_with (first | ((with_reducible refine gate_callee (f:=44) rfl ?_);refine goesL_ (some 29) rfl rfl Tryd.func44 (by kernel_rfl) rfl #[.slice (some ad507) (l1.take (x20_2:Int).toNat).length c1,.int .i64 (rd l1 x20_2)] rfl (by (try simp only [zz26,zz27,zz28]);first | done | (rw [show (l1.take (x20_2:Int).toNat).length=x20_2.toNat from (by rw [zz25];have h_:(x20_2:Int)≤(l1.length:Int):=zz29 (by first | (with_reducible assumption) | assumption);omega)] <;> rfl) | rfl | (simp only [zz24,zz25];rfl)) ?_;(with_reducible refine (spec_l1Has.calls k2 _ _ (l1.take (x20_2:Int).toNat) (rd l1 x20_2) false _ ?side1 ?side2 A12.out).mono ?_);(case side1=>repeat (first | exact HR508.out | (with_reducible refine zz18 ?_ _) | (with_reducible refine zz19 ?_ _) | (with_reducible refine zz20 ?_)));(case side2=>exact HC508.out);rintro e w' ⟨rfl,⟨nd,rfl⟩⟩;refine ⟨_,rfl,?_⟩))
           go_roundg k2
           case measure=>have:=HJ2.out;have:=HK2.out;omega
           case rel=>exact ⟨(wrap64 (x20_2+1)),(by first | rfl | (simp;done) | (simp [*];done)),H',⟨by have:=HJ2.out;have:=HK2.out;omega⟩,by repeat (first | exact Drawn0.refl _ | apply Drawn0.step)⟩
         ·rw [if_neg c11] at H
          exact absurd H (by simp)
        ·rw [if_neg c9] at H
         exact absurd H (by simp)
       ·rw [if_neg c8] at H
        exact absurd H (by simp)
      ·rw [if_neg c7] at H
       have c7b0:decide (x20_2 < (l1.length:Int))=false:=decide_eq_false c7
       clear c7
       obtain rfl:=Option.some.inj H
       go_wp2
       go_ret
       exact ⟨by first | rfl | (simp;done) | (simp [*];done),by repeat (first | exact Drawn0.refl _ | apply Drawn0.step)⟩

/-! ### spec_GreedyColouring: function 26 -/
mutual
def spec_GreedyColouring.j0:Nat→List Int→Bool→Int→List (S74)→Option (List Int × Bool)
 | 0,_,_,_,_=>none
 | k+1,x1,x24,x511000,x511001=>if x24=true then (some (([]:List Int),false)) else ((spec_paTable.f k x511000 x511001).bind fun t513=>(if 0≤x511000 then (if (x511000:Int).toNat≤35184372088832 then ((some (List.replicate (x511000:Int).toNat 0:List Int)).bind fun y516=>(spec_GreedyColouring.l0 k x1 t513 y516 (y516.length:Int) 0)) else (none)) else (none)))
def spec_GreedyColouring.l0:Nat→List Int→List (List Bool)→List Int→Int→Int→Option (List Int × Bool)
 | 0,_,_,_,_,_=>none
 | k+1,x1,x6,x7,x31,x32=>if x32 < x31 then (if 0≤x32 then (if x32 < (x7.length:Int) then (spec_GreedyColouring.l0 k x1 x6 (x7.set (x32:Int).toNat (-1)) x31 (wrap64 (x32+1))) else (none)) else (none)) else (spec_GreedyColouring.l1 k x6 x7 x1 (x1.length:Int) 0)
def spec_GreedyColouring.l1:Nat→List (List Bool)→List Int→List Int→Int→Int→Option (List Int × Bool)
 | 0,_,_,_,_,_=>none
 | k+1,x6,x7,x39,x40,x41=>if x41 < x40 then (if 0≤x41 then (if x41 < (x39.length:Int) then (spec_GreedyColouring.l2 k x6 x7 (rd x39 x41) 0 x39 x40 x41) else (none)) else (none)) else (some (x7,true))
def spec_GreedyColouring.l2:Nat→List (List Bool)→List Int→Int→Int→List Int→Int→Int→Option (List Int × Bool)
 | 0,_,_,_,_,_,_,_=>none
 | k+1,x6,x7,x10,x11,x39,x40,x41=>if 0≤x10 then (if x10 < (x6.length:Int) then (spec_GreedyColouring.l3 k x6 x7 x10 x11 true x39 x40 x41 (rd_L4 x6 x10) ((rd_L4 x6 x10).length:Int) 0) else (none)) else (none)
def spec_GreedyColouring.l3:Nat→List (List Bool)→List Int→Int→Int→Bool→List Int→Int→Int→List Bool→Int→Int→Option (List Int × Bool)
 | 0,_,_,_,_,_,_,_,_,_,_,_=>none
 | k+1,x6,x7,x10,x11,x12,x39,x40,x41,x48,x49,x50=>if x50 < x49 then (if 0≤x50 then (if x50 < (x48.length:Int) then (if x12=true then (if rdOf false x48 x50=true then (if x50 < (x7.length:Int) then (spec_GreedyColouring.l3 k x6 x7 x10 x11 ((rd x7 x50) != x11) x39 x40 x41 x48 x49 (wrap64 (x50+1))) else (none)) else (spec_GreedyColouring.l3 k x6 x7 x10 x11 true x39 x40 x41 x48 x49 (wrap64 (x50+1)))) else (spec_GreedyColouring.l3 k x6 x7 x10 x11 false x39 x40 x41 x48 x49 (wrap64 (x50+1)))) else (none)) else (none)) else (if x12=true then (if 0≤x10 then (if x10 < (x7.length:Int) then (spec_GreedyColouring.l1 k x6 (x7.set (x10:Int).toNat x11) x39 x40 (wrap64 (x41+1))) else (none)) else (none)) else (spec_GreedyColouring.l2 k x6 x7 x10 (wrap64 (x11+1)) x39 x40 x41))
end
def spec_GreedyColouring.f (k:Nat) (a0_0:Int) (l0_1:List (S74)) (l1:List Int):Option (List Int × Bool):=(spec_paGood.f k a0_0 l0_1).bind fun t511=>(if t511=true then ((spec_grOrder.f k a0_0 l1).bind fun t512=>(spec_GreedyColouring.j0 k l1 (!t512) a0_0 l0_1)) else (spec_GreedyColouring.j0 k l1 true a0_0 l0_1))
theorem spec_GreedyColouring.mono_l:∀ k,(∀ y0 y1 y2 y3,LeO (spec_GreedyColouring.j0 k y0 y1 y2 y3) (spec_GreedyColouring.j0 (k+1) y0 y1 y2 y3))∧(∀ y0 y1 y2 y3 y4,LeO (spec_GreedyColouring.l0 k y0 y1 y2 y3 y4) (spec_GreedyColouring.l0 (k+1) y0 y1 y2 y3 y4))∧(∀ y0 y1 y2 y3 y4,LeO (spec_GreedyColouring.l1 k y0 y1 y2 y3 y4) (spec_GreedyColouring.l1 (k+1) y0 y1 y2 y3 y4))∧(∀ y0 y1 y2 y3 y4 y5 y6,LeO (spec_GreedyColouring.l2 k y0 y1 y2 y3 y4 y5 y6) (spec_GreedyColouring.l2 (k+1) y0 y1 y2 y3 y4 y5 y6))∧(∀ y0 y1 y2 y3 y4 y5 y6 y7 y8 y9 y10,LeO (spec_GreedyColouring.l3 k y0 y1 y2 y3 y4 y5 y6 y7 y8 y9 y10) (spec_GreedyColouring.l3 (k+1) y0 y1 y2 y3 y4 y5 y6 y7 y8 y9 y10))
 | 0=>⟨fun _ _ _ _ r h=>by simp [spec_GreedyColouring.j0] at h,fun _ _ _ _ _ r h=>by simp [spec_GreedyColouring.l0] at h,fun _ _ _ _ _ r h=>by simp [spec_GreedyColouring.l1] at h,fun _ _ _ _ _ _ _ r h=>by simp [spec_GreedyColouring.l2] at h,fun _ _ _ _ _ _ _ _ _ _ _ r h=>by simp [spec_GreedyColouring.l3] at h⟩
 | k+1=>by
  obtain ⟨ih0,ih1,ih2,ih3,ih4⟩:=spec_GreedyColouring.mono_l k
  refine ⟨?_,?_,?_,?_,?_⟩
  ·intro y0 y1 y2 y3
   unfold spec_GreedyColouring.j0
   repeat' first
   | (with_reducible exact ih0 _ _ _ _)
   | (with_reducible exact ih1 _ _ _ _ _)
   | (with_reducible exact ih2 _ _ _ _ _)
   | (with_reducible exact ih3 _ _ _ _ _ _ _)
   | (with_reducible exact ih4 _ _ _ _ _ _ _ _ _ _ _)
   | (with_reducible exact spec_grOrder.mono _ _ _)
   | (with_reducible exact spec_paGood.mono _ _ _)
   | (with_reducible exact spec_paTable.mono _ _ _)
   | (with_reducible exact LeO.refl _)
   | (with_reducible exact LeO.none _)
   | (with_reducible refine LeO.ite ?_ ?_)
   | (with_reducible refine LeO.bind ?_ (fun _=>?_))
   | exact ih0 _ _ _ _
   | exact ih1 _ _ _ _ _
   | exact ih2 _ _ _ _ _
   | exact ih3 _ _ _ _ _ _ _
   | exact ih4 _ _ _ _ _ _ _ _ _ _ _
   | exact spec_grOrder.mono _ _ _
   | exact spec_paGood.mono _ _ _
   | exact spec_paTable.mono _ _ _
   | exact LeO.none _
   | refine LeO.ite ?_ ?_
   | refine LeO.bind ?_ (fun _=>?_)
  ·intro y0 y1 y2 y3 y4
   unfold spec_GreedyColouring.l0
   repeat' first
   | (with_reducible exact ih0 _ _ _ _)
   | (with_reducible exact ih1 _ _ _ _ _)
   | (with_reducible exact ih2 _ _ _ _ _)
   | (with_reducible exact ih3 _ _ _ _ _ _ _)
   | (with_reducible exact ih4 _ _ _ _ _ _ _ _ _ _ _)
   | (with_reducible exact spec_grOrder.mono _ _ _)
   | (with_reducible exact spec_paGood.mono _ _ _)
   | (with_reducible exact spec_paTable.mono _ _ _)
   | (with_reducible exact LeO.refl _)
   | (with_reducible exact LeO.none _)
   | (with_reducible refine LeO.ite ?_ ?_)
   | (with_reducible refine LeO.bind ?_ (fun _=>?_))
   | exact ih0 _ _ _ _
   | exact ih1 _ _ _ _ _
   | exact ih2 _ _ _ _ _
   | exact ih3 _ _ _ _ _ _ _
   | exact ih4 _ _ _ _ _ _ _ _ _ _ _
   | exact spec_grOrder.mono _ _ _
   | exact spec_paGood.mono _ _ _
   | exact spec_paTable.mono _ _ _
   | exact LeO.none _
   | refine LeO.ite ?_ ?_
   | refine LeO.bind ?_ (fun _=>?_)
  ·intro y0 y1 y2 y3 y4
   unfold spec_GreedyColouring.l1
   repeat' first
   | (with_reducible exact ih0 _ _ _ _)
   | (with_reducible exact ih1 _ _ _ _ _)
   | (with_reducible exact ih2 _ _ _ _ _)
   | (with_reducible exact ih3 _ _ _ _ _ _ _)
   | (with_reducible exact ih4 _ _ _ _ _ _ _ _ _ _ _)
   | (with_reducible exact spec_grOrder.mono _ _ _)
   | (with_reducible exact spec_paGood.mono _ _ _)
   | (with_reducible exact spec_paTable.mono _ _ _)
   | (with_reducible exact LeO.refl _)
   | (with_reducible exact LeO.none _)
   | (with_reducible refine LeO.ite ?_ ?_)
   | (with_reducible refine LeO.bind ?_ (fun _=>?_))
   | exact ih0 _ _ _ _
   | exact ih1 _ _ _ _ _
   | exact ih2 _ _ _ _ _
   | exact ih3 _ _ _ _ _ _ _
   | exact ih4 _ _ _ _ _ _ _ _ _ _ _
   | exact spec_grOrder.mono _ _ _
   | exact spec_paGood.mono _ _ _
   | exact spec_paTable.mono _ _ _
   | exact LeO.none _
   | refine LeO.ite ?_ ?_
   | refine LeO.bind ?_ (fun _=>?_)
  ·intro y0 y1 y2 y3 y4 y5 y6
   unfold spec_GreedyColouring.l2
   repeat' first
   | (with_reducible exact ih0 _ _ _ _)
   | (with_reducible exact ih1 _ _ _ _ _)
   | (with_reducible exact ih2 _ _ _ _ _)
   | (with_reducible exact ih3 _ _ _ _ _ _ _)
   | (with_reducible exact ih4 _ _ _ _ _ _ _ _ _ _ _)
   | (with_reducible exact spec_grOrder.mono _ _ _)
   | (with_reducible exact spec_paGood.mono _ _ _)
   | (with_reducible exact spec_paTable.mono _ _ _)
   | (with_reducible exact LeO.refl _)
   | (with_reducible exact LeO.none _)
   | (with_reducible refine LeO.ite ?_ ?_)
   | (with_reducible refine LeO.bind ?_ (fun _=>?_))
   | exact ih0 _ _ _ _
   | exact ih1 _ _ _ _ _
   | exact ih2 _ _ _ _ _
   | exact ih3 _ _ _ _ _ _ _
   | exact ih4 _ _ _ _ _ _ _ _ _ _ _
   | exact spec_grOrder.mono _ _ _
   | exact spec_paGood.mono _ _ _
   | exact spec_paTable.mono _ _ _
   | exact LeO.none _
   | refine LeO.ite ?_ ?_
   | refine LeO.bind ?_ (fun _=>?_)
  ·intro y0 y1 y2 y3 y4 y5 y6 y7 y8 y9 y10
   unfold spec_GreedyColouring.l3
   repeat' first
   | (with_reducible exact ih0 _ _ _ _)
   | (with_reducible exact ih1 _ _ _ _ _)
   | (with_reducible exact ih2 _ _ _ _ _)
   | (with_reducible exact ih3 _ _ _ _ _ _ _)
   | (with_reducible exact ih4 _ _ _ _ _ _ _ _ _ _ _)
   | (with_reducible exact spec_grOrder.mono _ _ _)
   | (with_reducible exact spec_paGood.mono _ _ _)
   | (with_reducible exact spec_paTable.mono _ _ _)
   | (with_reducible exact LeO.refl _)
   | (with_reducible exact LeO.none _)
   | (with_reducible refine LeO.ite ?_ ?_)
   | (with_reducible refine LeO.bind ?_ (fun _=>?_))
   | exact ih0 _ _ _ _
   | exact ih1 _ _ _ _ _
   | exact ih2 _ _ _ _ _
   | exact ih3 _ _ _ _ _ _ _
   | exact ih4 _ _ _ _ _ _ _ _ _ _ _
   | exact spec_grOrder.mono _ _ _
   | exact spec_paGood.mono _ _ _
   | exact spec_paTable.mono _ _ _
   | exact LeO.none _
   | refine LeO.ite ?_ ?_
   | refine LeO.bind ?_ (fun _=>?_)
theorem spec_GreedyColouring.mono:∀ a0 a1 a2 k,LeO (spec_GreedyColouring.f k a0 a1 a2) (spec_GreedyColouring.f (k+1) a0 a1 a2):=by
 intro a0 a1 a2 k
 obtain ⟨ih0,ih1,ih2,ih3,ih4⟩:=spec_GreedyColouring.mono_l k
 unfold spec_GreedyColouring.f
 repeat' first
   | (with_reducible exact ih0 _ _ _ _)
   | (with_reducible exact ih1 _ _ _ _ _)
   | (with_reducible exact ih2 _ _ _ _ _)
   | (with_reducible exact ih3 _ _ _ _ _ _ _)
   | (with_reducible exact ih4 _ _ _ _ _ _ _ _ _ _ _)
   | (with_reducible exact spec_grOrder.mono _ _ _)
   | (with_reducible exact spec_paGood.mono _ _ _)
   | (with_reducible exact spec_paTable.mono _ _ _)
   | (with_reducible exact LeO.refl _)
   | (with_reducible exact LeO.none _)
   | (with_reducible refine LeO.ite ?_ ?_)
   | (with_reducible refine LeO.bind ?_ (fun _=>?_))
   | exact ih0 _ _ _ _
   | exact ih1 _ _ _ _ _
   | exact ih2 _ _ _ _ _
   | exact ih3 _ _ _ _ _ _ _
   | exact ih4 _ _ _ _ _ _ _ _ _ _ _
   | exact spec_grOrder.mono _ _ _
   | exact spec_paGood.mono _ _ _
   | exact spec_paTable.mono _ _ _
   | exact LeO.none _
   | refine LeO.ite ?_ ?_
   | refine LeO.bind ?_ (fun _=>?_)
set_option maxHeartbeats 8000000 in
set_option maxRecDepth 100000 in
theorem spec_GreedyColouring.calls (k:Nat) (a0_0:Int) (A0_1:Option Addr) (c0_1:Nat) (l0_1:List (S74)) (A1:Option Addr) (c1:Nat) (l1:List Int) (r1:List Int) (r2:Bool) (w:World) (hr0_1:Kd.C k74 w A0_1 l0_1.length l0_1) (hc0_1:l0_1.length≤c0_1) (hr1:Kd.C (Kd.int .i64) w A1 l1.length l1) (hc1:l1.length≤c1) (h:spec_GreedyColouring.f k a0_0 l0_1 l1=some (r1,r2)) :
  Calls Tryd.prog 26 #[.agg #[.int .i64 a0_0,.slice A0_1 l0_1.length c0_1],.slice A1 l1.length c1] w fun e w'=>∃ v0_:Value,e=.returned (.tuple #[v0_,.bool r2])∧Kd.R (Kd.int .i64) 3 w' w.heap.size (fun _=>True) v0_ r1∧Below w.heap.size w w':=by
 have hu30:=Tryd.underlying30
 have HR0_1:=zz31 hr0_1
 have HC0_1:=zz31 hc0_1
 clear hr0_1 hc0_1
 have HR1:=zz31 hr1
 have HC1:=zz31 hc1
 clear hr1 hc1
 have HB:=zz31 (Below.refl w.heap.size w)
 have H:((spec_paGood.f k a0_0 l0_1).bind fun t511=>(if t511=true then ((spec_grOrder.f k a0_0 l1).bind fun t512=>(spec_GreedyColouring.j0 k l1 (!t512) a0_0 l0_1)) else (spec_GreedyColouring.j0 k l1 true a0_0 l0_1)))=some (r1,r2):=h
 clear h
 have HC3:=zz31 H
 clear H
 go_enter Tryd.func26,Tryd.ntmps26
 go_upto_region 1 with (first | ((with_reducible refine gate_dst (N:=2) rfl ?_);refine box_event ?hg (N:=2) ?hd (cs:=#[.int .i64 a0_0,.slice A0_1 l0_1.length c0_1]) (t:=30) ?hr ?_;(case hd=>rfl);(case hg=>rfl);(case hr=>first | (go_simp;done) | (go_simp;rfl));intro gb510 hg w4 hbox hb;have n0_:=zz31 (zz4 (by repeat first | exact HB.out | apply zz2 | apply zz0 | apply zz1) hb);have n1_:=zz31 (hbox);have n2_:=zz31 ((by rw [hg];exact (zz5 (by repeat first | exact HB.out | apply zz2 | apply zz0 | apply zz1)):w.heap.size≤gb510));have n3_:=zz31 ((by rw [hg];exact (zz5 (by repeat first | exact HB.out | apply zz2 | apply zz0 | apply zz1)):w.heap.size≤gb510));clear HB;have HB:=n0_;have BK510:=n1_;have GW510:=n2_;have GE510:=n3_;clear n0_ n1_ n2_ n3_;clear hb hbox hg))
 (try simp only [Act.put,zz21,zz22,zz23])
 go_cut [24] (fun v24 wc=>∃ (kq:Nat) (x24_2:Bool),v24=.bool x24_2∧Aside0 (spec_GreedyColouring.j0 kq l1 x24_2 a0_0 l0_1=some (r1,r2))∧Aside0 (kq≤k)∧Aside0 (wc.heap[gb510]?=some (.cells #[.int .i64 a0_0,(.slice A0_1 l0_1.length c0_1)] 30 (0,0)))∧Aside0 (Below w.heap.size w wc))
 case first =>
  have H:=HC3.out
  clear HC3
  replace H:=zz30.mp H
  obtain ⟨t511,A50,H⟩:=H
  replace H:(if t511=true then ((spec_grOrder.f k a0_0 l1).bind fun t512=>(spec_GreedyColouring.j0 k l1 (!t512) a0_0 l0_1)) else (spec_GreedyColouring.j0 k l1 true a0_0 l0_1))=some (r1,r2):=H
  have A5:=zz31 A50
  clear A50
  by_cases c6:t511=true
  ·subst c6
   have H1:((spec_grOrder.f k a0_0 l1).bind fun t512=>(spec_GreedyColouring.j0 k l1 (!t512) a0_0 l0_1))=some (r1,r2):=by rw [if_pos rfl] at H;exact H
   clear H
   have H:=H1
   clear H1
   replace H:=zz30.mp H
   obtain ⟨t512,A70,H⟩:=H
   replace H:(spec_GreedyColouring.j0 k l1 (!t512) a0_0 l0_1)=some (r1,r2):=H
   have A7:=zz31 A70
   clear A70
   have H':=zz31 H
   clear H
   have hcz8_0:w4.cell? ⟨gb510,0,none⟩=some (.int .i64 a0_0):=(zz9 BK510.out 0).trans rfl
   have hcz8_1:w4.cell? ⟨gb510,1,none⟩=some (.slice A0_1 l0_1.length c0_1):=(zz9 BK510.out 1).trans rfl
   have hfz8_0:=zz10 BK510.out 0
   have hfz8_1:=zz10 BK510.out 1
   go_wp2_with (first | ((with_reducible refine gate_callee (f:=30) rfl ?_);refine goesL_ (some 16) rfl rfl Tryd.func30 (by kernel_rfl) rfl #[.agg #[.int .i64 a0_0,.slice A0_1 l0_1.length c0_1]] rfl (by (try simp only [zz26,zz27,zz28]);first | done | rfl | (simp only [zz24,zz25];rfl)) ?_;(with_reducible refine (spec_paGood.calls k a0_0 _ _ l0_1 true _ ?side1 ?side2 A5.out).mono ?_);(case side1=>repeat (first | exact (Kd.C_below HR0_1.out HB.out) | (with_reducible refine zz18 ?_ _) | (with_reducible refine zz19 ?_ _) | (with_reducible refine zz20 ?_)));(case side2=>exact HC0_1.out);rintro e w9 ⟨rfl,hb⟩;refine ⟨_,rfl,?_⟩;have n0_:=zz31 (zz11 (g:=gb510) (o:=.cells #[.int .i64 a0_0,.slice A0_1 l0_1.length c0_1] 30 (0,0)) (by (with_reducible repeat (first | refine zz6 ?_ _ | refine zz7 ?_ | refine zz8 ?_ _));exact BK510.out) hb);have n1_:=zz31 (zz4 (by repeat first | exact HB.out | apply zz2 | apply zz0 | apply zz1 | refine zz3 ?_ GE510.out) hb);clear BK510;clear HB;have BK510:=n0_;have HB:=n1_;clear n0_ n1_;(try clear hb);(try clear hb2);(try clear hk);(try clear hi);have hcz10_0:w9.cell? ⟨gb510,0,none⟩=some (.int .i64 a0_0):=(zz9 BK510.out 0).trans rfl;have hcz10_1:w9.cell? ⟨gb510,1,none⟩=some (.slice A0_1 l0_1.length c0_1):=(zz9 BK510.out 1).trans rfl;have hfz10_0:=zz10 BK510.out 0;have hfz10_1:=zz10 BK510.out 1) | (go_at_call 54;(with_reducible refine (spec_grOrder.calls k a0_0 _ _ l1 t512 _ ?side1 ?side2 A7.out).mono ?_);(case side1=>repeat (first | exact (Kd.C_below HR1.out HB.out) | (with_reducible refine zz18 ?_ _) | (with_reducible refine zz19 ?_ _) | (with_reducible refine zz20 ?_)));(case side2=>exact HC1.out);rintro e w' ⟨rfl,⟨nd,rfl⟩⟩))
   go_meet
   case rel=>exact ⟨_,(!t512),(by first | rfl | (simp;done) | (simp [*];done)),H',⟨by first | omega | exact Nat.le_refl _⟩,⟨by (with_reducible repeat (first | refine zz6 ?_ _ | refine zz7 ?_ | refine zz8 ?_ _));exact BK510.out⟩,⟨by repeat first | exact HB.out | apply zz2 | apply zz0 | apply zz1 | refine zz3 ?_ GE510.out⟩⟩
  ·replace c6:=Bool.eq_false_iff.mpr c6
   subst c6
   have H1:(spec_GreedyColouring.j0 k l1 true a0_0 l0_1)=some (r1,r2):=by rw [if_neg (show ¬ (false=true) by decide)] at H;exact H
   clear H
   have H:=H1
   clear H1
   have H':=zz31 H
   clear H
   have hcz11_0:w4.cell? ⟨gb510,0,none⟩=some (.int .i64 a0_0):=(zz9 BK510.out 0).trans rfl
   have hcz11_1:w4.cell? ⟨gb510,1,none⟩=some (.slice A0_1 l0_1.length c0_1):=(zz9 BK510.out 1).trans rfl
   have hfz11_0:=zz10 BK510.out 0
   have hfz11_1:=zz10 BK510.out 1
   go_wp2_with (first | ((with_reducible refine gate_callee (f:=30) rfl ?_);refine goesL_ (some 16) rfl rfl Tryd.func30 (by kernel_rfl) rfl #[.agg #[.int .i64 a0_0,.slice A0_1 l0_1.length c0_1]] rfl (by (try simp only [zz26,zz27,zz28]);first | done | rfl | (simp only [zz24,zz25];rfl)) ?_;(with_reducible refine (spec_paGood.calls k a0_0 _ _ l0_1 false _ ?side1 ?side2 A5.out).mono ?_);(case side1=>repeat (first | exact (Kd.C_below HR0_1.out HB.out) | (with_reducible refine zz18 ?_ _) | (with_reducible refine zz19 ?_ _) | (with_reducible refine zz20 ?_)));(case side2=>exact HC0_1.out);rintro e w12 ⟨rfl,hb⟩;refine ⟨_,rfl,?_⟩;have n0_:=zz31 (zz11 (g:=gb510) (o:=.cells #[.int .i64 a0_0,.slice A0_1 l0_1.length c0_1] 30 (0,0)) (by (with_reducible repeat (first | refine zz6 ?_ _ | refine zz7 ?_ | refine zz8 ?_ _));exact BK510.out) hb);have n1_:=zz31 (zz4 (by repeat first | exact HB.out | apply zz2 | apply zz0 | apply zz1 | refine zz3 ?_ GE510.out) hb);clear BK510;clear HB;have BK510:=n0_;have HB:=n1_;clear n0_ n1_;(try clear hb);(try clear hb2);(try clear hk);(try clear hi)))
   go_meet
   case rel=>exact ⟨_,(true),(by first | rfl | (simp;done) | (simp [*];done)),H',⟨by first | omega | exact Nat.le_refl _⟩,⟨by (with_reducible repeat (first | refine zz6 ?_ _ | refine zz7 ?_ | refine zz8 ?_ _));exact BK510.out⟩,⟨by repeat first | exact HB.out | apply zz2 | apply zz0 | apply zz1 | refine zz3 ?_ GE510.out⟩⟩
 case rest =>
  clear HC3
  try clear c1
  try clear c2
  try clear p2
  try clear c3
  try clear c6
  try clear hcz10_0
  try clear hcz10_1
  try clear hcz11_0
  try clear hcz11_1
  try clear hcz8_0
  try clear hcz8_1
  try clear hfz10_0
  try clear hfz10_1
  try clear hfz11_0
  try clear hfz11_1
  try clear hfz8_0
  try clear hfz8_1
  obtain ⟨kq,x24_2,rfl,HA,HJ2,BK510,HB⟩:=hcut
  cases kq with
  | zero=>exact absurd HA.out (by simp [spec_GreedyColouring.j0])
  | succ kj2 =>
   have H:=HA.out
   clear HA
   simp only [spec_GreedyColouring.j0] at H
   by_cases c13:x24_2=true
   ·subst c13
    have H1:(some (([]:List Int),false))=some (r1,r2):=by rw [if_pos rfl] at H;exact H
    clear H
    have H:=H1
    clear H1
    simp only [Option.some.injEq,Prod.mk.injEq] at H
    obtain ⟨rfl,rfl⟩:=H
    go_wp2
    go_ret2
    exact ⟨_,by first | rfl | (simp [errW_none,errW_some] <;> rfl) | (simp [*,errW_none,errW_some] <;> rfl),by first | exact Kd.R_nil _ _ _ _ _ | exact Kd.N_nil _ _ _ _ _ | exact Kd.V_nil _ _ _ _ _ | exact Kd.Q_nil _ _ _ _ _ | exact Kd.S_nil _ _ _ _ _,by repeat first | exact HB.out | apply zz2 | apply zz0 | apply zz1 | refine zz3 ?_ GE510.out⟩
   ·replace c13:=Bool.eq_false_iff.mpr c13
    subst c13
    have H1:((spec_paTable.f kj2 a0_0 l0_1).bind fun t513=>(if 0≤a0_0 then (if (a0_0:Int).toNat≤35184372088832 then ((some (List.replicate (a0_0:Int).toNat 0:List Int)).bind fun y516=>(spec_GreedyColouring.l0 kj2 l1 t513 y516 (y516.length:Int) 0)) else (none)) else (none)))=some (r1,r2):=by rw [if_neg (show ¬ (false=true) by decide)] at H;exact H
    clear H
    have H:=H1
    clear H1
    replace H:=zz30.mp H
    obtain ⟨t513,A140,H⟩:=H
    replace H:(if 0≤a0_0 then (if (a0_0:Int).toNat≤35184372088832 then ((some (List.replicate (a0_0:Int).toNat 0:List Int)).bind fun y516=>(spec_GreedyColouring.l0 kj2 l1 t513 y516 (y516.length:Int) 0)) else (none)) else (none))=some (r1,r2):=H
    have A14:=zz31 A140
    clear A140
    by_cases c15:0≤a0_0
    ·rw [if_pos c15] at H
     have c15b0:=eq_true c15
     have c15b1:decide (0≤a0_0)=true:=decide_eq_true c15
     clear c15
     by_cases c16:(a0_0:Int).toNat≤35184372088832
     ·rw [if_pos c16] at H
      have c16b0:=eq_true c16
      have c16b1:decide ((a0_0:Int).toNat≤35184372088832)=true:=decide_eq_true c16
      clear c16
      obtain ⟨y516,hy516⟩:∃ y_:List Int,y_=(List.replicate (a0_0:Int).toNat 0):=⟨_,rfl⟩
      replace H:(spec_GreedyColouring.l0 kj2 l1 t513 y516 (y516.length:Int) 0)=some (r1,r2):=by first | (rw [hy516];with_reducible exact H) | (have H2_:=(Option.bind_some _ _).symm.trans H;rw [hy516];with_reducible exact H2_) | (have H2_:=(Option.bind_some _ _).symm.trans H;with_reducible exact H2_) | with_reducible exact H | (rw [hy516];exact H) | exact H
      have Ny516:=zz31 hy516
      clear hy516
      have H':=zz31 H
      clear H
      have hcz17_0:wc.cell? ⟨gb510,0,none⟩=some (.int .i64 a0_0):=(zz9 BK510.out 0).trans rfl
      have hcz17_1:wc.cell? ⟨gb510,1,none⟩=some (.slice A0_1 l0_1.length c0_1):=(zz9 BK510.out 1).trans rfl
      have hfz17_0:=zz10 BK510.out 0
      have hfz17_1:=zz10 BK510.out 1
      go_wp2_with (first | ((with_reducible refine gate_callee (f:=33) rfl ?_);refine goesL_ (some 26) rfl rfl Tryd.func33 (by kernel_rfl) rfl #[.agg #[.int .i64 a0_0,.slice A0_1 l0_1.length c0_1]] rfl (by (try simp only [zz26,zz27,zz28]);first | done | rfl | (simp only [zz24,zz25];rfl)) ?_;(with_reducible refine (spec_paTable.calls kj2 a0_0 _ _ l0_1 t513 _ ?side1 ?side2 A14.out).mono ?_);(case side1=>repeat (first | exact (Kd.C_below HR0_1.out HB.out) | (with_reducible refine zz18 ?_ _) | (with_reducible refine zz19 ?_ _) | (with_reducible refine zz20 ?_)));(case side2=>exact HC0_1.out);rintro e w18 ⟨v514,rfl,ho0,hb⟩;refine ⟨_,rfl,?_⟩;have n0_:=zz31 (Kd.S_lower ho0 (zz5 (by repeat first | exact HB.out | apply zz2 | apply zz0 | apply zz1 | refine zz3 ?_ GE510.out)));have n1_:=zz31 (zz11 (g:=gb510) (o:=.cells #[.int .i64 a0_0,.slice A0_1 l0_1.length c0_1] 30 (0,0)) (by (with_reducible repeat (first | refine zz6 ?_ _ | refine zz7 ?_ | refine zz8 ?_ _));exact BK510.out) hb);have n2_:=zz31 (zz4 (by repeat first | exact HB.out | apply zz2 | apply zz0 | apply zz1 | refine zz3 ?_ GE510.out) hb);clear BK510;clear HB;have HO515:=n0_;have BK510:=n1_;have HB:=n2_;clear n0_ n1_ n2_;(try clear hb);(try clear hb2);(try clear hk);(try clear hi);(try clear ho0);have hcz19_0:w18.cell? ⟨gb510,0,none⟩=some (.int .i64 a0_0):=(zz9 BK510.out 0).trans rfl;have hcz19_1:w18.cell? ⟨gb510,1,none⟩=some (.slice A0_1 l0_1.length c0_1):=(zz9 BK510.out 1).trans rfl;have hfz19_0:=zz10 BK510.out 0;have hfz19_1:=zz10 BK510.out 1) | ((with_reducible refine gate_dst (N:=29) rfl ?_);refine Kd.R_make (Kd.int .i64) _ 3 rfl (N:=29) rfl 34 _ _ rfl a0_0 rfl rfl Tryd.underlying34 (.int .i64 0) 8 info3 rfl (by decide) (by omega) 0 (ok:=fun _=>True) (okp:=fun _=>True) rfl (fun _ hk=>hk) trivial (zz29 (by first | (with_reducible assumption) | assumption)) (Nat.le_trans (Nat.mul_le_mul_right _ (zz29 (by first | (with_reducible assumption) | assumption):a0_0.toNat≤35184372088832)) (by omega)) (Below.refl _ _) (Nat.le_refl _) ?_;intro v517 w20 ho21 hb hg_ hnew_;clear hg_ hnew_;(first | rw [← Ny516.out] at ho21 | (simp only [Int.reduceToNat] at ho21;rw [← Ny516.out] at ho21));have n0_:=zz31 (Kd.S_below (by (with_reducible repeat (first | apply zz15 | apply zz16 | apply zz17));exact HO515.out) hb);have n1_:=zz31 (Kd.R_lower ho21 (zz5 (by repeat first | exact HB.out | apply zz2 | apply zz0 | apply zz1 | refine zz3 ?_ GE510.out)));have n2_:=zz31 (zz11 (g:=gb510) (o:=.cells #[.int .i64 a0_0,.slice A0_1 l0_1.length c0_1] 30 (0,0)) (by (with_reducible repeat (first | refine zz6 ?_ _ | refine zz7 ?_ | refine zz8 ?_ _));exact BK510.out) hb);have n3_:=zz31 (zz4 (by repeat first | exact HB.out | apply zz2 | apply zz0 | apply zz1 | refine zz3 ?_ GE510.out) hb);clear HO515;clear BK510;clear HB;have HO515:=n0_;have HO518:=n1_;have BK510:=n2_;have HB:=n3_;clear n0_ n1_ n2_ n3_;clear hb ho21;obtain ⟨Ao22,co22,eo22⟩:=Kd.R_slice HO518.out;subst eo22))
      go_loopg [32] kj2 (fun kq v32 w'=>∃ (x7_2:List Int) (x32_2:Int),v32=.int .i64 x32_2∧Aside0 (spec_GreedyColouring.l0 kq l1 t513 x7_2 (y516.length:Int) x32_2=some (r1,r2))∧Aside0 (kq≤kj2)∧Aside0 (Kd.S (Kd.slice 4 Kd.bool) 68 w' w.heap.size (fun _=>True) v514 t513)∧Aside0 (Kd.R (Kd.int .i64) 3 w' w.heap.size (fun _=>True) (.slice Ao22 y516.length co22) x7_2)∧Aside0 (w'.heap[gb510]?=some (.cells #[.int .i64 a0_0,(.slice A0_1 l0_1.length c0_1)] 30 (0,0)))∧Aside0 (Below w.heap.size w w'))
      case atStart=>exact ⟨(y516),(0),(by first | rfl | (simp;done) | (simp [*];done)),H',⟨Nat.le_refl _⟩,⟨by (with_reducible repeat (first | apply zz15 | apply zz16 | apply zz17));exact HO515.out⟩,⟨by (with_reducible repeat (first | apply zz12 | apply zz13 | apply zz14));exact HO518.out⟩,⟨by (with_reducible repeat (first | refine zz6 ?_ _ | refine zz7 ?_ | refine zz8 ?_ _));exact BK510.out⟩,⟨by repeat first | exact HB.out | apply zz2 | apply zz0 | apply zz1 | refine zz3 ?_ GE510.out⟩⟩
      case round =>
       clear H'
       try clear c1
       try clear c2
       try clear p2
       try clear c3
       try clear c6
       try clear c13
       try clear c15
       try clear c15b0
       try clear c15b1
       try clear c16
       try clear c16b0
       try clear c16b1
       try clear hcz10_0
       try clear hcz10_1
       try clear hcz11_0
       try clear hcz11_1
       try clear hcz17_0
       try clear hcz17_1
       try clear hcz19_0
       try clear hcz19_1
       try clear hcz8_0
       try clear hcz8_1
       try clear hfz10_0
       try clear hfz10_1
       try clear hfz11_0
       try clear hfz11_1
       try clear hfz17_0
       try clear hfz17_1
       try clear hfz19_0
       try clear hfz19_1
       try clear hfz8_0
       try clear hfz8_1
       try clear p2
       obtain ⟨x7_2,x32_2,rfl,HA,HK2,HO_6,HO_7,BK510,HB⟩:=hrel
       have hl7_2:=(Kd.R_reads' HO_7.out).1
       rw [hl7_2] at HO_7
       (try simp only [hl7_2])
       (try simp only [hl7_2] at BK510)
       (try simp only [hl7_2] at HO_6)
       cases gk with
       | zero=>exact absurd HA.out (by simp [spec_GreedyColouring.l0])
       | succ k2 =>
        have H:=HA.out
        clear HA
        simp only [spec_GreedyColouring.l0] at H
        by_cases c23:x32_2 < (y516.length:Int)
        ·rw [if_pos c23] at H
         have c23b0:decide (x32_2 < (y516.length:Int))=true:=decide_eq_true c23
         (try simp only [hl7_2] at c23b0)
         clear c23
         by_cases c24:0≤x32_2
         ·rw [if_pos c24] at H
          have c24b0:decide (0≤x32_2)=true:=decide_eq_true c24
          clear c24
          by_cases c25:x32_2 < (x7_2.length:Int)
          ·rw [if_pos c25] at H
           have c25b0:decide (x32_2 < (x7_2.length:Int))=true:=decide_eq_true c25
           (try simp only [hl7_2] at c25b0)
           clear c25
           obtain ⟨y519,hy519⟩:∃ y_:List Int,y_=(x7_2.set (x32_2:Int).toNat (-1)):=⟨_,rfl⟩
           replace H:(spec_GreedyColouring.l0 k2 l1 t513 y519 (y516.length:Int) (wrap64 (x32_2+1)))=some (r1,r2):=by first | (rw [hy519];with_reducible exact H) | (have H2_:=(Option.bind_some _ _).symm.trans H;rw [hy519];with_reducible exact H2_) | (have H2_:=(Option.bind_some _ _).symm.trans H;with_reducible exact H2_) | with_reducible exact H | (rw [hy519];exact H) | exact H
           have Ny519:=zz31 hy519
           clear hy519
           have H':=zz31 H
           clear H
           have p26:0≤(x32_2:Int):=zz29 (by first | (with_reducible assumption) | assumption)
           have q26:(x32_2:Int) < ((x7_2.length:Int):Int):=zz29 (by first | (with_reducible assumption) | assumption)
           obtain ⟨go26,co26,eo26,gb26,gl26,cl26,HG26⟩:=Kd.R_form HO_7.out (by omega)
           (first | cases eo26 | (injection eo26 with ea_ en_ ec_;(first | subst ea_ | (injection ea_ with ea_;subst ea_));subst ec_;clear en_))
           have GB26:=zz31 gb26
           have GG26:=zz31 HG26
           clear gb26 gl26 HG26
           obtain ⟨hx26_0,hf26_0⟩:=Kd.R_celln 0 HO_7.out (x32_2:Int) p26 q26
           replace p26:=eq_true p26
           replace q26:=eq_true q26
           have HP27:=Kd.R_putg HO_7.out (x32_2:Int) (-1)
           go_wp2_with (first | ((with_reducible refine gate_store (t:=3) (p:=37) rfl ?_);refine store_event (t:=3) (p:=37) (v:=?vo_w28) (w1:=(wr.setCell ⟨go26,(x32_2:Int).toNat,none⟩ (.int .i64 (-1)))) ?hg ?ho ?hn ?hr ?_;(case ho=>rfl);(case hg=>rfl);(case hn=>rfl);(case hr=>first | (go_simp;done) | (go_simp;rfl));intro w28 hw;have hg:wr.grownBy w28 (some go26):=(by rw [hw];exact HP27.2);have hp_:Kd.R (Kd.int .i64) 3 w28 w.heap.size (fun _=>True) (.slice (some ⟨go26,0,none⟩) x7_2.length co22) y519:=(by rw [hw,Ny519.out];exact HP27.1);clear HP27;have n0_:=zz31 (Kd.S_over' (v:=(.slice (some ⟨go26,0,none⟩) x7_2.length co22)) (by (with_reducible repeat (first | apply zz15 | apply zz16 | apply zz17));exact HO_6.out) (Kd.R_typed HO_7.out) (by decide) hg);have n1_:=zz31 (hp_);have n2_:=zz31 (blk_grown (g:=gb510) (o:=.cells #[.int .i64 a0_0,.slice A0_1 l0_1.length c0_1] 30 (0,0)) (by (with_reducible repeat (first | refine zz6 ?_ _ | refine zz7 ?_ | refine zz8 ?_ _));exact BK510.out) hg (Kd.R_ne HO_7.out BK510.out (by decide)));have n3_:=zz31 ((by rw [hw];exact zz3 (HB.out) GB26.out:Below w.heap.size w w28));clear HO_6;clear HO_7;clear BK510;clear HB;have HO_6:=n0_;have HO_7:=n1_;have BK510:=n2_;have HB:=n3_;clear n0_ n1_ n2_ n3_;clear hg hw hp_))
           (try simp only [← hl7_2])
           go_roundg k2
           case measure=>have:=HJ2.out;have:=HK2.out;omega
           case rel=>exact ⟨(y519),(wrap64 (x32_2+1)),(by first | rfl | (simp;done) | (simp [*];done)),H',⟨by have:=HJ2.out;have:=HK2.out;omega⟩,⟨by (try simp only [hl7_2]);(with_reducible repeat (first | apply zz15 | apply zz16 | apply zz17));exact HO_6.out⟩,⟨by (try simp only [hl7_2]);(with_reducible repeat (first | apply zz12 | apply zz13 | apply zz14));exact HO_7.out⟩,⟨by (try simp only [hl7_2]);(with_reducible repeat (first | refine zz6 ?_ _ | refine zz7 ?_ | refine zz8 ?_ _));exact BK510.out⟩,⟨by repeat first | exact HB.out | apply zz2 | apply zz0 | apply zz1 | refine zz3 ?_ GE510.out⟩⟩
          ·rw [if_neg c25] at H
           exact absurd H (by simp)
         ·rw [if_neg c24] at H
          exact absurd H (by simp)
        ·rw [if_neg c23] at H
         have c23b0:decide (x32_2 < (y516.length:Int))=false:=decide_eq_false c23
         (try simp only [hl7_2] at c23b0)
         clear c23
         have H':=zz31 H
         clear H
         go_wp2
         go_loopg [41] k2 (fun kq v41 w'=>∃ (x7_3:List Int) (x41_3:Int),v41=.int .i64 x41_3∧Aside0 (spec_GreedyColouring.l1 kq t513 x7_3 l1 (l1.length:Int) x41_3=some (r1,r2))∧Aside0 (kq≤k2)∧Aside0 (Kd.S (Kd.slice 4 Kd.bool) 68 w' w.heap.size (fun _=>True) v514 t513)∧Aside0 (Kd.R (Kd.int .i64) 3 w' w.heap.size (fun _=>True) (.slice Ao22 x7_2.length co22) x7_3)∧Aside0 (w'.heap[gb510]?=some (.cells #[.int .i64 a0_0,(.slice A0_1 l0_1.length c0_1)] 30 (0,0)))∧Aside0 (Below w.heap.size w w'))
         case atStart=>exact ⟨(x7_2),(0),(by first | rfl | (simp;done) | (simp [*];done)),H',⟨Nat.le_refl _⟩,⟨by (try simp only [hl7_2]);(with_reducible repeat (first | apply zz15 | apply zz16 | apply zz17));exact HO_6.out⟩,⟨by (try simp only [hl7_2]);(with_reducible repeat (first | apply zz12 | apply zz13 | apply zz14));exact HO_7.out⟩,⟨by (try simp only [hl7_2]);(with_reducible repeat (first | refine zz6 ?_ _ | refine zz7 ?_ | refine zz8 ?_ _));exact BK510.out⟩,⟨by repeat first | exact HB.out | apply zz2 | apply zz0 | apply zz1 | refine zz3 ?_ GE510.out⟩⟩
         case round =>
          clear H'
          try clear c1
          try clear c2
          try clear p2
          try clear q2
          try clear hx2
          try clear hf2
          try clear c3
          try clear c6
          try clear p6
          try clear c13
          try clear c15
          try clear c15b0
          try clear c15b1
          try clear c16
          try clear c16b0
          try clear c16b1
          try clear c23
          try clear c23b0
          try clear c24
          try clear c24b0
          try clear c25
          try clear c25b0
          try clear c26
          try clear p26
          try clear q26
          try clear hx26
          try clear hf26
          try clear hcz10_0
          try clear hcz10_1
          try clear hcz11_0
          try clear hcz11_1
          try clear hcz17_0
          try clear hcz17_1
          try clear hcz19_0
          try clear hcz19_1
          try clear hcz8_0
          try clear hcz8_1
          try clear hfz10_0
          try clear hfz10_1
          try clear hfz11_0
          try clear hfz11_1
          try clear hfz17_0
          try clear hfz17_1
          try clear hfz19_0
          try clear hfz19_1
          try clear hfz8_0
          try clear hfz8_1
          try clear hx26_0
          try clear p2
          try clear p26
          try clear q26
          obtain ⟨x7_3,x41_3,rfl,HA,HK3,HO_6,HO_7,BK510,HB⟩:=hrel
          have hl7_3:=(Kd.R_reads' HO_7.out).1
          rw [hl7_3] at HO_7
          (try simp only [hl7_3])
          (try simp only [hl7_3] at BK510)
          (try simp only [hl7_3] at HO_6)
          cases gk with
          | zero=>exact absurd HA.out (by simp [spec_GreedyColouring.l1])
          | succ k3 =>
           have H:=HA.out
           clear HA
           simp only [spec_GreedyColouring.l1] at H
           by_cases c29:x41_3 < (l1.length:Int)
           ·rw [if_pos c29] at H
            have c29b0:decide (x41_3 < (l1.length:Int))=true:=decide_eq_true c29
            (try simp only [hl7_2] at c29b0)
            (try simp only [hl7_3] at c29b0)
            clear c29
            by_cases c30:0≤x41_3
            ·rw [if_pos c30] at H
             have c30b0:decide (0≤x41_3)=true:=decide_eq_true c30
             clear c30
             by_cases c31:x41_3 < (l1.length:Int)
             ·rw [if_pos c31] at H
              have c31b0:decide (x41_3 < (l1.length:Int))=true:=decide_eq_true c31
              (try simp only [hl7_2] at c31b0)
              (try simp only [hl7_3] at c31b0)
              clear c31
              have H':=zz31 H
              clear H
              have p520:0≤(x41_3:Int):=zz29 (by first | (with_reducible assumption) | assumption)
              have q520:x41_3 < (l1.length:Int):=zz29 (by first | (with_reducible assumption) | assumption)
              obtain ⟨ad520,e520,hx520_0⟩:=Kd.at_int HR1.out x41_3 p520 q520
              cases e520
              try replace hx520_0:=(HB.out.cell (World.block_lt_of_cell? w _ hx520_0)).trans hx520_0
              replace p520:=eq_true p520
              replace q520:=eq_true q520
              go_wp2
              go_loopg [11] k3 (fun kq v11 w'=>∃ (x11_4:Int),v11=.int .i64 x11_4∧Aside0 (spec_GreedyColouring.l2 kq t513 x7_3 (rd l1 x41_3) x11_4 l1 (l1.length:Int) x41_3=some (r1,r2))∧Aside0 (kq≤k3)∧Aside0 (Kd.S (Kd.slice 4 Kd.bool) 68 w' w.heap.size (fun _=>True) v514 t513)∧Aside0 (Kd.R (Kd.int .i64) 3 w' w.heap.size (fun _=>True) (.slice Ao22 x7_3.length co22) x7_3)∧Aside0 (w'.heap[gb510]?=some (.cells #[.int .i64 a0_0,(.slice A0_1 l0_1.length c0_1)] 30 (0,0)))∧Aside0 (Below w.heap.size w w'))
              case atStart=>exact ⟨(0),(by first | rfl | (simp;done) | (simp [*];done)),H',⟨Nat.le_refl _⟩,⟨by (try simp only [hl7_2]);(try simp only [hl7_3]);(with_reducible repeat (first | apply zz15 | apply zz16 | apply zz17));exact HO_6.out⟩,⟨by (try simp only [hl7_2]);(try simp only [hl7_3]);(with_reducible repeat (first | apply zz12 | apply zz13 | apply zz14));exact HO_7.out⟩,⟨by (try simp only [hl7_2]);(try simp only [hl7_3]);(with_reducible repeat (first | refine zz6 ?_ _ | refine zz7 ?_ | refine zz8 ?_ _));exact BK510.out⟩,⟨by repeat first | exact HB.out | apply zz2 | apply zz0 | apply zz1 | refine zz3 ?_ GE510.out⟩⟩
              case round =>
               clear H'
               try clear c1
               try clear c2
               try clear p2
               try clear q2
               try clear hx2
               try clear hf2
               try clear c3
               try clear p5
               try clear q5
               try clear hx5
               try clear c6
               try clear p6
               try clear c13
               try clear c15
               try clear c15b0
               try clear c15b1
               try clear c16
               try clear c16b0
               try clear c16b1
               try clear c23
               try clear c23b0
               try clear c24
               try clear c24b0
               try clear c25
               try clear c25b0
               try clear c26
               try clear p26
               try clear q26
               try clear hx26
               try clear hf26
               try clear c29
               try clear c29b0
               try clear c30
               try clear c30b0
               try clear c31
               try clear c31b0
               try clear hcz10_0
               try clear hcz10_1
               try clear hcz11_0
               try clear hcz11_1
               try clear hcz17_0
               try clear hcz17_1
               try clear hcz19_0
               try clear hcz19_1
               try clear hcz8_0
               try clear hcz8_1
               try clear hfz10_0
               try clear hfz10_1
               try clear hfz11_0
               try clear hfz11_1
               try clear hfz17_0
               try clear hfz17_1
               try clear hfz19_0
               try clear hfz19_1
               try clear hfz8_0
               try clear hfz8_1
               try clear hx26_0
               try clear hx520_0
               try clear p2
               try clear p26
               try clear p520
               try clear p6
               try clear q2
               try clear q26
               try clear q520
               obtain ⟨x11_4,rfl,HA,HK4,HO_6,HO_7,BK510,HB⟩:=hrel
               cases gk with
               | zero=>exact absurd HA.out (by simp [spec_GreedyColouring.l2])
               | succ k4 =>
                have H:=HA.out
                clear HA
                simp only [spec_GreedyColouring.l2] at H
                by_cases c32:0≤(rd l1 x41_3)
                ·rw [if_pos c32] at H
                 have c32b0:decide (0≤(rd l1 x41_3))=true:=decide_eq_true c32
                 clear c32
                 by_cases c33:(rd l1 x41_3) < (t513.length:Int)
                 ·rw [if_pos c33] at H
                  have c33b0:decide ((rd l1 x41_3) < (t513.length:Int))=true:=decide_eq_true c33
                  (try simp only [hl7_2] at c33b0)
                  (try simp only [hl7_3] at c33b0)
                  clear c33
                  have H':=zz31 H
                  clear H
                  obtain ⟨Ao34,co34,eo34⟩:=Kd.S_slice HO_6.out
                  subst eo34
                  have p521:0≤((rd l1 x41_3):Int):=zz29 (by first | (with_reducible assumption) | assumption)
                  have q521:(rd l1 x41_3) < (t513.length:Int):=zz29 (by first | (with_reducible assumption) | assumption)
                  obtain ⟨ad521,A521_0,c521_0,e521,hx521_0,hl521_0,hi521_0⟩:=at_L4 (Kd.S_reads' HO_6.out).2.2 (rd l1 x41_3) p521 q521
                  cases e521
                  obtain ⟨ce521,hce521,hMe521,hcc521⟩:=Kd.S_get HO_6.out [] (rd l1 x41_3) p521 (by first | exact q521 | exact zz29 (by first | (with_reducible assumption) | assumption) | (have e_:=(Kd.S_reads' HO_6.out).1;omega))
                  obtain ⟨ve521_0,rfl,ge521_0⟩:=hMe521
                  have hv521_0:=hcc521 0 _ rfl
                  rw [Nat.add_zero,show ((Kd.slice 4 Kd.bool)).sz=1 from rfl,Nat.mul_one] at hv521_0
                  replace hv521_0:=Option.some.inj (hv521_0.symm.trans hx521_0)
                  rw [hv521_0] at ge521_0
                  have HL521_0:=zz31 (show Kd.R Kd.bool 4 _ _ _ _ (rd_L4 t513 (rd l1 x41_3)) from ge521_0)
                  clear hv521_0 ge521_0
                  clear hcc521 hce521
                  have HR521_0:=zz31 hi521_0
                  have HC521_0:=zz31 hl521_0
                  clear hi521_0 hl521_0
                  replace p521:=eq_true p521
                  replace q521:=eq_true q521
                  go_wp2
                  go_loopg [12,50] k4 (fun kq v12 v50 w'=>∃ (x12_5:Bool) (x50_5:Int),v12=.bool x12_5∧v50=.int .i64 x50_5∧Aside0 (spec_GreedyColouring.l3 kq t513 x7_3 (rd l1 x41_3) x11_4 x12_5 l1 (l1.length:Int) x41_3 (rd_L4 t513 (rd l1 x41_3)) ((rd_L4 t513 (rd l1 x41_3)).length:Int) x50_5=some (r1,r2))∧Aside0 (kq≤k4)∧Aside0 (Kd.S (Kd.slice 4 Kd.bool) 68 w' w.heap.size (fun _=>True) (.slice (some ad521) t513.length co34) t513)∧Aside0 (Kd.R (Kd.int .i64) 3 w' w.heap.size (fun _=>True) (.slice Ao22 x7_3.length co22) x7_3)∧Aside0 (w'.heap[gb510]?=some (.cells #[.int .i64 a0_0,(.slice A0_1 l0_1.length c0_1)] 30 (0,0)))∧Aside0 (Kd.C Kd.bool w' A521_0 (rd_L4 t513 (rd l1 x41_3)).length (rd_L4 t513 (rd l1 x41_3)))∧Aside0 (Below w.heap.size w w'))
                  case atStart=>exact ⟨(true),(0),(by first | rfl | (simp;done) | (simp [*];done)),(by first | rfl | (simp;done) | (simp [*];done)),H',⟨Nat.le_refl _⟩,⟨by (try simp only [hl7_2]);(try simp only [hl7_3]);(with_reducible repeat (first | apply zz15 | apply zz16 | apply zz17));exact HO_6.out⟩,⟨by (try simp only [hl7_2]);(try simp only [hl7_3]);(with_reducible repeat (first | apply zz12 | apply zz13 | apply zz14));exact HO_7.out⟩,⟨by (try simp only [hl7_2]);(try simp only [hl7_3]);(with_reducible repeat (first | refine zz6 ?_ _ | refine zz7 ?_ | refine zz8 ?_ _));exact BK510.out⟩,⟨by repeat (first | (with_reducible exact HR521_0.out) | (with_reducible refine zz18 ?_ _) | (with_reducible refine zz19 ?_ _) | (with_reducible refine zz20 ?_) | exact HR521_0.out)⟩,⟨by repeat first | exact HB.out | apply zz2 | apply zz0 | apply zz1 | refine zz3 ?_ GE510.out⟩⟩
                  case round =>
                   clear H'
                   try clear c1
                   try clear c2
                   try clear p2
                   try clear q2
                   try clear hx2
                   try clear hf2
                   try clear c3
                   try clear c5
                   try clear p5
                   try clear q5
                   try clear hx5
                   try clear c6
                   try clear p6
                   try clear c13
                   try clear c15
                   try clear c15b0
                   try clear c15b1
                   try clear c16
                   try clear c16b0
                   try clear c16b1
                   try clear c23
                   try clear c23b0
                   try clear c24
                   try clear c24b0
                   try clear c25
                   try clear c25b0
                   try clear c26
                   try clear p26
                   try clear q26
                   try clear hx26
                   try clear hf26
                   try clear c29
                   try clear c29b0
                   try clear c30
                   try clear c30b0
                   try clear c31
                   try clear c31b0
                   try clear c32
                   try clear c32b0
                   try clear c33
                   try clear c33b0
                   try clear hcz10_0
                   try clear hcz10_1
                   try clear hcz11_0
                   try clear hcz11_1
                   try clear hcz17_0
                   try clear hcz17_1
                   try clear hcz19_0
                   try clear hcz19_1
                   try clear hcz8_0
                   try clear hcz8_1
                   try clear hfz10_0
                   try clear hfz10_1
                   try clear hfz11_0
                   try clear hfz11_1
                   try clear hfz17_0
                   try clear hfz17_1
                   try clear hfz19_0
                   try clear hfz19_1
                   try clear hfz8_0
                   try clear hfz8_1
                   try clear hx26_0
                   try clear hx520_0
                   try clear hx521_0
                   try clear p2
                   try clear p26
                   try clear p5
                   try clear p520
                   try clear p521
                   try clear p6
                   try clear q2
                   try clear q26
                   try clear q5
                   try clear q520
                   try clear q521
                   obtain ⟨x12_5,x50_5,rfl,rfl,HA,HK5,HO_6,HO_7,BK510,HR521_0,HB⟩:=hrel
                   cases gk with
                   | zero=>exact absurd HA.out (by simp [spec_GreedyColouring.l3])
                   | succ k5 =>
                    have H:=HA.out
                    clear HA
                    simp only [spec_GreedyColouring.l3] at H
                    by_cases c35:x50_5 < ((rd_L4 t513 (rd l1 x41_3)).length:Int)
                    ·rw [if_pos c35] at H
                     have c35b0:decide (x50_5 < ((rd_L4 t513 (rd l1 x41_3)).length:Int))=true:=decide_eq_true c35
                     (try simp only [hl7_2] at c35b0)
                     (try simp only [hl7_3] at c35b0)
                     clear c35
                     by_cases c36:0≤x50_5
                     ·rw [if_pos c36] at H
                      have c36b0:decide (0≤x50_5)=true:=decide_eq_true c36
                      clear c36
                      by_cases c37:x50_5 < ((rd_L4 t513 (rd l1 x41_3)).length:Int)
                      ·rw [if_pos c37] at H
                       have c37b0:decide (x50_5 < ((rd_L4 t513 (rd l1 x41_3)).length:Int))=true:=decide_eq_true c37
                       (try simp only [hl7_2] at c37b0)
                       (try simp only [hl7_3] at c37b0)
                       clear c37
                       by_cases c38:x12_5=true
                       ·subst c38
                        have H1:(if rdOf false (rd_L4 t513 (rd l1 x41_3)) x50_5=true then (if x50_5 < (x7_3.length:Int) then (spec_GreedyColouring.l3 k5 t513 x7_3 (rd l1 x41_3) x11_4 ((rd x7_3 x50_5) != x11_4) l1 (l1.length:Int) x41_3 (rd_L4 t513 (rd l1 x41_3)) ((rd_L4 t513 (rd l1 x41_3)).length:Int) (wrap64 (x50_5+1))) else (none)) else (spec_GreedyColouring.l3 k5 t513 x7_3 (rd l1 x41_3) x11_4 true l1 (l1.length:Int) x41_3 (rd_L4 t513 (rd l1 x41_3)) ((rd_L4 t513 (rd l1 x41_3)).length:Int) (wrap64 (x50_5+1))))=some (r1,r2):=by rw [if_pos rfl] at H;exact H
                        clear H
                        have H:=H1
                        clear H1
                        obtain ⟨bq39,hbq39⟩:∃ b_:Bool,b_=(rdOf false (rd_L4 t513 (rd l1 x41_3)) x50_5):=⟨_,rfl⟩
                        replace H:(if bq39=true then (if x50_5 < (x7_3.length:Int) then (spec_GreedyColouring.l3 k5 t513 x7_3 (rd l1 x41_3) x11_4 ((rd x7_3 x50_5) != x11_4) l1 (l1.length:Int) x41_3 (rd_L4 t513 (rd l1 x41_3)) ((rd_L4 t513 (rd l1 x41_3)).length:Int) (wrap64 (x50_5+1))) else (none)) else (spec_GreedyColouring.l3 k5 t513 x7_3 (rd l1 x41_3) x11_4 true l1 (l1.length:Int) x41_3 (rd_L4 t513 (rd l1 x41_3)) ((rd_L4 t513 (rd l1 x41_3)).length:Int) (wrap64 (x50_5+1))))=some (r1,r2):=by rw [← hbq39] at H;exact H
                        have Nbq39:=zz31 hbq39
                        clear hbq39
                        by_cases c40:bq39=true
                        ·subst c40
                         have H1:(if x50_5 < (x7_3.length:Int) then (spec_GreedyColouring.l3 k5 t513 x7_3 (rd l1 x41_3) x11_4 ((rd x7_3 x50_5) != x11_4) l1 (l1.length:Int) x41_3 (rd_L4 t513 (rd l1 x41_3)) ((rd_L4 t513 (rd l1 x41_3)).length:Int) (wrap64 (x50_5+1))) else (none))=some (r1,r2):=by rw [if_pos rfl] at H;exact H
                         clear H
                         have H:=H1
                         clear H1
                         by_cases c41:x50_5 < (x7_3.length:Int)
                         ·rw [if_pos c41] at H
                          have c41b0:decide (x50_5 < (x7_3.length:Int))=true:=decide_eq_true c41
                          (try simp only [hl7_2] at c41b0)
                          (try simp only [hl7_3] at c41b0)
                          clear c41
                          have H':=zz31 H
                          clear H
                          have p522:0≤(x50_5:Int):=zz29 (by first | (with_reducible assumption) | assumption)
                          have q522:x50_5 < ((rd_L4 t513 (rd l1 x41_3)).length:Int):=zz29 (by first | (with_reducible assumption) | assumption)
                          obtain ⟨ad522,e522,hx522_0⟩:=Kd.at_bool HR521_0.out x50_5 p522 q522
                          (try rw [← Nbq39.out] at hx522_0)
                          cases e522
                          try replace hx522_0:=(HB.out.cell (World.block_lt_of_cell? w _ hx522_0)).trans hx522_0
                          replace p522:=eq_true p522
                          replace q522:=eq_true q522
                          have p523:0≤(x50_5:Int):=zz29 (by first | (with_reducible assumption) | assumption)
                          have q523:x50_5 < (x7_3.length:Int):=zz29 (by first | (with_reducible assumption) | assumption)
                          obtain ⟨ad523,e523,hx523_0⟩:=Kd.at_int (Kd.R_reads' HO_7.out).2.2 x50_5 p523 q523
                          cases e523
                          replace p523:=eq_true p523
                          replace q523:=eq_true q523
                          go_wp2
                          go_roundg k5
                          case measure=>have:=HJ2.out;have:=HK2.out;have:=HK3.out;have:=HK4.out;have:=HK5.out;omega
                          case rel=>exact ⟨(((rd x7_3 x50_5) != x11_4)),(wrap64 (x50_5+1)),(by first | rfl | (simp;done) | (simp [*];done)),(by first | rfl | (simp;done) | (simp [*];done)),H',⟨by have:=HJ2.out;have:=HK2.out;have:=HK3.out;have:=HK4.out;have:=HK5.out;omega⟩,⟨by (try simp only [hl7_2]);(try simp only [hl7_3]);(with_reducible repeat (first | apply zz15 | apply zz16 | apply zz17));exact HO_6.out⟩,⟨by (try simp only [hl7_2]);(try simp only [hl7_3]);(with_reducible repeat (first | apply zz12 | apply zz13 | apply zz14));exact HO_7.out⟩,⟨by (try simp only [hl7_2]);(try simp only [hl7_3]);(with_reducible repeat (first | refine zz6 ?_ _ | refine zz7 ?_ | refine zz8 ?_ _));exact BK510.out⟩,⟨by repeat (first | (with_reducible exact HR521_0.out) | (with_reducible refine zz18 ?_ _) | (with_reducible refine zz19 ?_ _) | (with_reducible refine zz20 ?_) | exact HR521_0.out)⟩,⟨by repeat first | exact HB.out | apply zz2 | apply zz0 | apply zz1 | refine zz3 ?_ GE510.out⟩⟩
                         ·rw [if_neg c41] at H
                          exact absurd H (by simp)
                        ·replace c40:=Bool.eq_false_iff.mpr c40
                         subst c40
                         have H1:(spec_GreedyColouring.l3 k5 t513 x7_3 (rd l1 x41_3) x11_4 true l1 (l1.length:Int) x41_3 (rd_L4 t513 (rd l1 x41_3)) ((rd_L4 t513 (rd l1 x41_3)).length:Int) (wrap64 (x50_5+1)))=some (r1,r2):=by rw [if_neg (show ¬ (false=true) by decide)] at H;exact H
                         clear H
                         have H:=H1
                         clear H1
                         have H':=zz31 H
                         clear H
                         have p522:0≤(x50_5:Int):=zz29 (by first | (with_reducible assumption) | assumption)
                         have q522:x50_5 < ((rd_L4 t513 (rd l1 x41_3)).length:Int):=zz29 (by first | (with_reducible assumption) | assumption)
                         obtain ⟨ad522,e522,hx522_0⟩:=Kd.at_bool HR521_0.out x50_5 p522 q522
                         (try rw [← Nbq39.out] at hx522_0)
                         cases e522
                         try replace hx522_0:=(HB.out.cell (World.block_lt_of_cell? w _ hx522_0)).trans hx522_0
                         replace p522:=eq_true p522
                         replace q522:=eq_true q522
                         go_wp2
                         go_roundg k5
                         case measure=>have:=HJ2.out;have:=HK2.out;have:=HK3.out;have:=HK4.out;have:=HK5.out;omega
                         case rel=>exact ⟨(true),(wrap64 (x50_5+1)),(by first | rfl | (simp;done) | (simp [*];done)),(by first | rfl | (simp;done) | (simp [*];done)),H',⟨by have:=HJ2.out;have:=HK2.out;have:=HK3.out;have:=HK4.out;have:=HK5.out;omega⟩,⟨by (try simp only [hl7_2]);(try simp only [hl7_3]);(with_reducible repeat (first | apply zz15 | apply zz16 | apply zz17));exact HO_6.out⟩,⟨by (try simp only [hl7_2]);(try simp only [hl7_3]);(with_reducible repeat (first | apply zz12 | apply zz13 | apply zz14));exact HO_7.out⟩,⟨by (try simp only [hl7_2]);(try simp only [hl7_3]);(with_reducible repeat (first | refine zz6 ?_ _ | refine zz7 ?_ | refine zz8 ?_ _));exact BK510.out⟩,⟨by repeat (first | (with_reducible exact HR521_0.out) | (with_reducible refine zz18 ?_ _) | (with_reducible refine zz19 ?_ _) | (with_reducible refine zz20 ?_) | exact HR521_0.out)⟩,⟨by repeat first | exact HB.out | apply zz2 | apply zz0 | apply zz1 | refine zz3 ?_ GE510.out⟩⟩
                       ·replace c38:=Bool.eq_false_iff.mpr c38
                        subst c38
                        have H1:(spec_GreedyColouring.l3 k5 t513 x7_3 (rd l1 x41_3) x11_4 false l1 (l1.length:Int) x41_3 (rd_L4 t513 (rd l1 x41_3)) ((rd_L4 t513 (rd l1 x41_3)).length:Int) (wrap64 (x50_5+1)))=some (r1,r2):=by rw [if_neg (show ¬ (false=true) by decide)] at H;exact H
                        clear H
                        have H:=H1
                        clear H1
                        have H':=zz31 H
                        clear H
                        have p522:0≤(x50_5:Int):=zz29 (by first | (with_reducible assumption) | assumption)
                        have q522:x50_5 < ((rd_L4 t513 (rd l1 x41_3)).length:Int):=zz29 (by first | (with_reducible assumption) | assumption)
                        obtain ⟨ad522,e522,hx522_0⟩:=Kd.at_bool HR521_0.out x50_5 p522 q522
                        cases e522
                        try replace hx522_0:=(HB.out.cell (World.block_lt_of_cell? w _ hx522_0)).trans hx522_0
                        replace p522:=eq_true p522
                        replace q522:=eq_true q522
                        go_wp2
                        go_roundg k5
                        case measure=>have:=HJ2.out;have:=HK2.out;have:=HK3.out;have:=HK4.out;have:=HK5.out;omega
                        case rel=>exact ⟨(false),(wrap64 (x50_5+1)),(by first | rfl | (simp;done) | (simp [*];done)),(by first | rfl | (simp;done) | (simp [*];done)),H',⟨by have:=HJ2.out;have:=HK2.out;have:=HK3.out;have:=HK4.out;have:=HK5.out;omega⟩,⟨by (try simp only [hl7_2]);(try simp only [hl7_3]);(with_reducible repeat (first | apply zz15 | apply zz16 | apply zz17));exact HO_6.out⟩,⟨by (try simp only [hl7_2]);(try simp only [hl7_3]);(with_reducible repeat (first | apply zz12 | apply zz13 | apply zz14));exact HO_7.out⟩,⟨by (try simp only [hl7_2]);(try simp only [hl7_3]);(with_reducible repeat (first | refine zz6 ?_ _ | refine zz7 ?_ | refine zz8 ?_ _));exact BK510.out⟩,⟨by repeat (first | (with_reducible exact HR521_0.out) | (with_reducible refine zz18 ?_ _) | (with_reducible refine zz19 ?_ _) | (with_reducible refine zz20 ?_) | exact HR521_0.out)⟩,⟨by repeat first | exact HB.out | apply zz2 | apply zz0 | apply zz1 | refine zz3 ?_ GE510.out⟩⟩
                      ·rw [if_neg c37] at H
                       exact absurd H (by simp)
                     ·rw [if_neg c36] at H
                      exact absurd H (by simp)
                    ·rw [if_neg c35] at H
                     have c35b0:decide (x50_5 < ((rd_L4 t513 (rd l1 x41_3)).length:Int))=false:=decide_eq_false c35
                     (try simp only [hl7_2] at c35b0)
                     (try simp only [hl7_3] at c35b0)
                     clear c35
                     by_cases c42:x12_5=true
                     ·subst c42
                      have H1:(if 0≤(rd l1 x41_3) then (if (rd l1 x41_3) < (x7_3.length:Int) then (spec_GreedyColouring.l1 k5 t513 (x7_3.set ((rd l1 x41_3):Int).toNat x11_4) l1 (l1.length:Int) (wrap64 (x41_3+1))) else (none)) else (none))=some (r1,r2):=by rw [if_pos rfl] at H;exact H
                      clear H
                      have H:=H1
                      clear H1
                      by_cases c43:0≤(rd l1 x41_3)
                      ·rw [if_pos c43] at H
                       have c43b0:decide (0≤(rd l1 x41_3))=true:=decide_eq_true c43
                       clear c43
                       by_cases c44:(rd l1 x41_3) < (x7_3.length:Int)
                       ·rw [if_pos c44] at H
                        have c44b0:decide ((rd l1 x41_3) < (x7_3.length:Int))=true:=decide_eq_true c44
                        (try simp only [hl7_2] at c44b0)
                        (try simp only [hl7_3] at c44b0)
                        clear c44
                        obtain ⟨y524,hy524⟩:∃ y_:List Int,y_=(x7_3.set ((rd l1 x41_3):Int).toNat x11_4):=⟨_,rfl⟩
                        replace H:(spec_GreedyColouring.l1 k5 t513 y524 l1 (l1.length:Int) (wrap64 (x41_3+1)))=some (r1,r2):=by first | (rw [hy524];with_reducible exact H) | (have H2_:=(Option.bind_some _ _).symm.trans H;rw [hy524];with_reducible exact H2_) | (have H2_:=(Option.bind_some _ _).symm.trans H;with_reducible exact H2_) | with_reducible exact H | (rw [hy524];exact H) | exact H
                        have Ny524:=zz31 hy524
                        clear hy524
                        have H':=zz31 H
                        clear H
                        have p45:0≤((rd l1 x41_3):Int):=zz29 (by first | (with_reducible assumption) | assumption)
                        have q45:((rd l1 x41_3):Int) < ((x7_3.length:Int):Int):=zz29 (by first | (with_reducible assumption) | assumption)
                        obtain ⟨go45,co45,eo45,gb45,gl45,cl45,HG45⟩:=Kd.R_form HO_7.out (by omega)
                        (first | cases eo45 | (injection eo45 with ea_ en_ ec_;(first | subst ea_ | (injection ea_ with ea_;subst ea_));subst ec_;clear en_))
                        have GB45:=zz31 gb45
                        have GG45:=zz31 HG45
                        clear gb45 gl45 HG45
                        obtain ⟨hx45_0,hf45_0⟩:=Kd.R_celln 0 HO_7.out ((rd l1 x41_3):Int) p45 q45
                        replace p45:=eq_true p45
                        replace q45:=eq_true q45
                        have HP46:=Kd.R_putg HO_7.out ((rd l1 x41_3):Int) x11_4
                        go_wp2_with (first | ((with_reducible refine gate_store (t:=3) (p:=75) rfl ?_);refine store_event (t:=3) (p:=75) (v:=?vo_w47) (w1:=(wr.setCell ⟨go45,((rd l1 x41_3):Int).toNat,none⟩ (.int .i64 x11_4))) ?hg ?ho ?hn ?hr ?_;(case ho=>rfl);(case hg=>rfl);(case hn=>rfl);(case hr=>first | (go_simp;done) | (go_simp;rfl));intro w47 hw;have hg:wr.grownBy w47 (some go45):=(by rw [hw];exact HP46.2);have hp_:Kd.R (Kd.int .i64) 3 w47 w.heap.size (fun _=>True) (.slice (some ⟨go45,0,none⟩) x7_3.length co22) y524:=(by rw [hw,Ny524.out];exact HP46.1);clear HP46;have n0_:=zz31 (Kd.S_over' (v:=(.slice (some ⟨go45,0,none⟩) x7_3.length co22)) (by (with_reducible repeat (first | apply zz15 | apply zz16 | apply zz17));exact HO_6.out) (Kd.R_typed HO_7.out) (by decide) hg);have n1_:=zz31 (hp_);have n2_:=zz31 (blk_grown (g:=gb510) (o:=.cells #[.int .i64 a0_0,.slice A0_1 l0_1.length c0_1] 30 (0,0)) (by (with_reducible repeat (first | refine zz6 ?_ _ | refine zz7 ?_ | refine zz8 ?_ _));exact BK510.out) hg (Kd.R_ne HO_7.out BK510.out (by decide)));have n3_:=zz31 ((by rw [hw];exact zz3 (HB.out) GB45.out:Below w.heap.size w w47));clear HO_6;clear HO_7;clear BK510;clear HB;have HO_6:=n0_;have HO_7:=n1_;have BK510:=n2_;have HB:=n3_;clear n0_ n1_ n2_ n3_;clear hg hw hp_))
                        (try simp only [← hl7_3])
                        go_roundg k5
                        case measure=>have:=HJ2.out;have:=HK2.out;have:=HK3.out;have:=HK4.out;have:=HK5.out;omega
                        case rel=>exact ⟨(y524),(wrap64 (x41_3+1)),(by first | rfl | (simp;done) | (simp [*];done)),H',⟨by have:=HJ2.out;have:=HK2.out;have:=HK3.out;have:=HK4.out;have:=HK5.out;omega⟩,⟨by (try simp only [hl7_2]);(try simp only [hl7_3]);(with_reducible repeat (first | apply zz15 | apply zz16 | apply zz17));exact HO_6.out⟩,⟨by (try simp only [hl7_2]);(try simp only [hl7_3]);(with_reducible repeat (first | apply zz12 | apply zz13 | apply zz14));exact HO_7.out⟩,⟨by (try simp only [hl7_2]);(try simp only [hl7_3]);(with_reducible repeat (first | refine zz6 ?_ _ | refine zz7 ?_ | refine zz8 ?_ _));exact BK510.out⟩,⟨by repeat first | exact HB.out | apply zz2 | apply zz0 | apply zz1 | refine zz3 ?_ GE510.out⟩⟩
                       ·rw [if_neg c44] at H
                        exact absurd H (by simp)
                      ·rw [if_neg c43] at H
                       exact absurd H (by simp)
                     ·replace c42:=Bool.eq_false_iff.mpr c42
                      subst c42
                      have H1:(spec_GreedyColouring.l2 k5 t513 x7_3 (rd l1 x41_3) (wrap64 (x11_4+1)) l1 (l1.length:Int) x41_3)=some (r1,r2):=by rw [if_neg (show ¬ (false=true) by decide)] at H;exact H
                      clear H
                      have H:=H1
                      clear H1
                      have H':=zz31 H
                      clear H
                      go_wp2
                      go_roundg k5
                      case measure=>have:=HJ2.out;have:=HK2.out;have:=HK3.out;have:=HK4.out;have:=HK5.out;omega
                      case rel=>exact ⟨(wrap64 (x11_4+1)),(by first | rfl | (simp;done) | (simp [*];done)),H',⟨by have:=HJ2.out;have:=HK2.out;have:=HK3.out;have:=HK4.out;have:=HK5.out;omega⟩,⟨by (try simp only [hl7_2]);(try simp only [hl7_3]);(with_reducible repeat (first | apply zz15 | apply zz16 | apply zz17));exact HO_6.out⟩,⟨by (try simp only [hl7_2]);(try simp only [hl7_3]);(with_reducible repeat (first | apply zz12 | apply zz13 | apply zz14));exact HO_7.out⟩,⟨by (try simp only [hl7_2]);(try simp only [hl7_3]);(with_reducible repeat (first | refine zz6 ?_ _ | refine zz7 ?_ | refine zz8 ?_ _));exact BK510.out⟩,⟨by repeat first | exact HB.out | apply zz2 | apply zz0 | apply zz1 | refine zz3 ?_ GE510.out⟩⟩
                 ·rw [if_neg c33] at H
                  exact absurd H (by simp)
                ·rw [if_neg c32] at H
                 exact absurd H (by simp)
             ·rw [if_neg c31] at H
              exact absurd H (by simp)
            ·rw [if_neg c30] at H
             exact absurd H (by simp)
           ·rw [if_neg c29] at H
            have c29b0:decide (x41_3 < (l1.length:Int))=false:=decide_eq_false c29
            (try simp only [hl7_2] at c29b0)
            (try simp only [hl7_3] at c29b0)
            clear c29
            simp only [Option.some.injEq,Prod.mk.injEq] at H
            obtain ⟨rfl,rfl⟩:=H
            go_wp2
            go_ret2
            exact ⟨_,by first | rfl | (simp [errW_none,errW_some] <;> rfl) | (simp [*,errW_none,errW_some] <;> rfl),by (with_reducible repeat (first | apply zz12 | apply zz13 | apply zz14));exact HO_7.out,by repeat first | exact HB.out | apply zz2 | apply zz0 | apply zz1 | refine zz3 ?_ GE510.out⟩
     ·rw [if_neg c16] at H
      exact absurd H (by simp)
    ·rw [if_neg c15] at H
     exact absurd H (by simp)

/-! ### laws_toIntS: function 27 -/
def laws_toIntS.l0:Nat→List Int→List Int→Int→Option (List Int)
 | 0,_,_,_=>none
 | k+1,x0,x3,x4=>if x4 < (x0.length:Int) then (if 0≤x4 then (if x4 < (x3.length:Int) then (laws_toIntS.l0 k x0 (x3.set (x4:Int).toNat (rd x0 x4)) (wrap64 (x4+1))) else (none)) else (none)) else (some x3)
def laws_toIntS.f (k:Nat) (l0:List Int):Option (List Int):=if 0≤(l0.length:Int) then (if ((l0.length:Int):Int).toNat≤35184372088832 then (laws_toIntS.l0 k l0 (List.replicate ((l0.length:Int):Int).toNat 0) 0) else (none)) else (none)
theorem laws_toIntS.mono_l:∀ k,(∀ y0 y1 y2,LeO (laws_toIntS.l0 k y0 y1 y2) (laws_toIntS.l0 (k+1) y0 y1 y2))
 | 0=>fun _ _ _ r h=>by simp [laws_toIntS.l0] at h
 | k+1=>by
  have ih0:=laws_toIntS.mono_l k
  ·intro y0 y1 y2
   unfold laws_toIntS.l0
   repeat' first
   | (with_reducible exact ih0 _ _ _)
   | (with_reducible exact LeO.refl _)
   | (with_reducible exact LeO.none _)
   | (with_reducible refine LeO.ite ?_ ?_)
   | (with_reducible refine LeO.bind ?_ (fun _=>?_))
   | exact ih0 _ _ _
   | exact LeO.none _
   | refine LeO.ite ?_ ?_
   | refine LeO.bind ?_ (fun _=>?_)
theorem laws_toIntS.mono:∀ a0 k,LeO (laws_toIntS.f k a0) (laws_toIntS.f (k+1) a0):=by
 intro a0 k
 have ih0:=laws_toIntS.mono_l k
 unfold laws_toIntS.f
 repeat' first
   | (with_reducible exact ih0 _ _ _)
   | (with_reducible exact LeO.refl _)
   | (with_reducible exact LeO.none _)
   | (with_reducible refine LeO.ite ?_ ?_)
   | (with_reducible refine LeO.bind ?_ (fun _=>?_))
   | exact ih0 _ _ _
   | exact LeO.none _
   | refine LeO.ite ?_ ?_
   | refine LeO.bind ?_ (fun _=>?_)
set_option maxHeartbeats 8000000 in
set_option maxRecDepth 100000 in
theorem laws_toIntS.calls (k:Nat) (A0:Option Addr) (c0:Nat) (l0:List Int) (r:List Int) (w:World) (hr0:Kd.C (Kd.int .i64) w A0 l0.length l0) (hc0:l0.length≤c0) (h:laws_toIntS.f k l0=some r) :
  Calls Tryd.prog 27 #[.slice A0 l0.length c0] w fun e w'=>∃ v0_:Value,e=.returned (v0_)∧Kd.R (Kd.int .i64) 3 w' w.heap.size (fun _=>True) v0_ r∧Below w.heap.size w w':=by
 have HR0:=zz31 hr0
 have HC0:=zz31 hc0
 clear hr0 hc0
 have HB:=zz31 (Below.refl w.heap.size w)
 have H:(if 0≤(l0.length:Int) then (if ((l0.length:Int):Int).toNat≤35184372088832 then (laws_toIntS.l0 k l0 (List.replicate ((l0.length:Int):Int).toNat 0) 0) else (none)) else (none))=some r:=h
 clear h
 by_cases c2:0≤(l0.length:Int)
 ·rw [if_pos c2] at H
  have c2b0:=eq_true c2
  have c2b1:decide (0≤(l0.length:Int))=true:=decide_eq_true c2
  clear c2
  by_cases c3:((l0.length:Int):Int).toNat≤35184372088832
  ·rw [if_pos c3] at H
   have c3b0:=eq_true c3
   have c3b1:decide (((l0.length:Int):Int).toNat≤35184372088832)=true:=decide_eq_true c3
   clear c3
   obtain ⟨y525,hy525⟩:∃ y_:List Int,y_=(List.replicate ((l0.length:Int):Int).toNat 0):=⟨_,rfl⟩
   replace H:(laws_toIntS.l0 k l0 y525 0)=some r:=by first | (rw [hy525];with_reducible exact H) | (have H2_:=(Option.bind_some _ _).symm.trans H;rw [hy525];with_reducible exact H2_) | (have H2_:=(Option.bind_some _ _).symm.trans H;with_reducible exact H2_) | with_reducible exact H | (rw [hy525];exact H) | exact H
   have Ny525:=zz31 hy525
   clear hy525
   have H':=zz31 H
   clear H
   go_enter Tryd.func27,Tryd.ntmps27
   go_wp2_with (first | ((with_reducible refine gate_dst (N:=7) rfl ?_);refine Kd.R_make (Kd.int .i64) _ 3 rfl (N:=7) rfl 34 _ _ rfl (l0.length:Int) rfl rfl Tryd.underlying34 (.int .i64 0) 8 info3 rfl (by decide) (by omega) 0 (ok:=fun _=>True) (okp:=fun _=>True) rfl (fun _ hk=>hk) trivial (zz29 (by first | (with_reducible assumption) | assumption)) (Nat.le_trans (Nat.mul_le_mul_right _ (zz29 (by first | (with_reducible assumption) | assumption):(l0.length:Int).toNat≤35184372088832)) (by omega)) (Below.refl _ _) (Nat.le_refl _) ?_;intro v526 w4 ho5 hb hg_ hnew_;clear hg_ hnew_;(first | rw [← Ny525.out] at ho5 | (simp only [Int.reduceToNat] at ho5;rw [← Ny525.out] at ho5));have n0_:=zz31 (Kd.R_lower ho5 (zz5 (by repeat first | exact HB.out | apply zz2 | apply zz0 | apply zz1)));have n1_:=zz31 (zz4 (by repeat first | exact HB.out | apply zz2 | apply zz0 | apply zz1) hb);clear HB;have HO527:=n0_;have HB:=n1_;clear n0_ n1_;clear hb ho5))
   go_loopg [4] k (fun kq v4 w'=>∃ (x3_1:List Int) (x4_1:Int),v4=.int .i64 x4_1∧Aside0 (laws_toIntS.l0 kq l0 x3_1 x4_1=some r)∧Aside0 (kq≤k)∧Aside0 (Kd.R (Kd.int .i64) 3 w' w.heap.size (fun _=>True) v526 x3_1)∧Aside0 (Below w.heap.size w w'))
   case atStart=>exact ⟨(y525),(0),(by first | rfl | (simp;done) | (simp [*];done)),H',⟨Nat.le_refl _⟩,⟨by (with_reducible repeat (first | apply zz12 | apply zz13 | apply zz14));exact HO527.out⟩,⟨by repeat first | exact HB.out | apply zz2 | apply zz0 | apply zz1⟩⟩
   case round =>
    clear H'
    try clear c2
    try clear c2b0
    try clear c2b1
    try clear p2
    try clear c3
    try clear c3b0
    try clear c3b1
    obtain ⟨x3_1,x4_1,rfl,HA,HK1,HO_3,HB⟩:=hrel
    cases gk with
    | zero=>exact absurd HA.out (by simp [laws_toIntS.l0])
    | succ k1 =>
     have H:=HA.out
     clear HA
     simp only [laws_toIntS.l0] at H
     by_cases c6:x4_1 < (l0.length:Int)
     ·rw [if_pos c6] at H
      have c6b0:decide (x4_1 < (l0.length:Int))=true:=decide_eq_true c6
      clear c6
      by_cases c7:0≤x4_1
      ·rw [if_pos c7] at H
       have c7b0:decide (0≤x4_1)=true:=decide_eq_true c7
       clear c7
       by_cases c8:x4_1 < (x3_1.length:Int)
       ·rw [if_pos c8] at H
        have c8b0:decide (x4_1 < (x3_1.length:Int))=true:=decide_eq_true c8
        clear c8
        obtain ⟨y529,hy529⟩:∃ y_:List Int,y_=(x3_1.set (x4_1:Int).toNat (rd l0 x4_1)):=⟨_,rfl⟩
        replace H:(laws_toIntS.l0 k1 l0 y529 (wrap64 (x4_1+1)))=some r:=by first | (rw [hy529];with_reducible exact H) | (have H2_:=(Option.bind_some _ _).symm.trans H;rw [hy529];with_reducible exact H2_) | (have H2_:=(Option.bind_some _ _).symm.trans H;with_reducible exact H2_) | with_reducible exact H | (rw [hy529];exact H) | exact H
        have Ny529:=zz31 hy529
        clear hy529
        have H':=zz31 H
        clear H
        have p528:0≤(x4_1:Int):=zz29 (by first | (with_reducible assumption) | assumption)
        have q528:x4_1 < (l0.length:Int):=zz29 (by first | (with_reducible assumption) | assumption)
        obtain ⟨ad528,e528,hx528_0⟩:=Kd.at_int HR0.out x4_1 p528 q528
        cases e528
        try replace hx528_0:=(HB.out.cell (World.block_lt_of_cell? w _ hx528_0)).trans hx528_0
        replace p528:=eq_true p528
        replace q528:=eq_true q528
        have p9:0≤(x4_1:Int):=zz29 (by first | (with_reducible assumption) | assumption)
        have q9:(x4_1:Int) < ((x3_1.length:Int):Int):=zz29 (by first | (with_reducible assumption) | assumption)
        obtain ⟨go9,co9,eo9,gb9,gl9,cl9,HG9⟩:=Kd.R_form HO_3.out (by omega)
        (first | cases eo9 | (injection eo9 with ea_ en_ ec_;(first | subst ea_ | (injection ea_ with ea_;subst ea_));subst ec_;clear en_))
        have GB9:=zz31 gb9
        have GG9:=zz31 HG9
        clear gb9 gl9 HG9
        obtain ⟨hx9_0,hf9_0⟩:=Kd.R_celln 0 HO_3.out (x4_1:Int) p9 q9
        replace p9:=eq_true p9
        replace q9:=eq_true q9
        have HP10:=Kd.R_putg HO_3.out (x4_1:Int) (rd l0 x4_1)
        go_wp2_with (first | ((with_reducible refine gate_store (t:=3) (p:=20) rfl ?_);refine store_event (t:=3) (p:=20) (v:=?vo_w11) (w1:=(wr.setCell ⟨go9,(x4_1:Int).toNat,none⟩ (.int .i64 (rd l0 x4_1)))) ?hg ?ho ?hn ?hr ?_;(case ho=>rfl);(case hg=>rfl);(case hn=>rfl);(case hr=>first | (go_simp;done) | (go_simp;rfl));intro w11 hw;have hg:wr.grownBy w11 (some go9):=(by rw [hw];exact HP10.2);have hp_:Kd.R (Kd.int .i64) 3 w11 w.heap.size (fun _=>True) (.slice (some ⟨go9,0,none⟩) x3_1.length co9) y529:=(by rw [hw,Ny529.out];exact HP10.1);clear HP10;have n0_:=zz31 (hp_);have n1_:=zz31 ((by rw [hw];exact zz3 (HB.out) GB9.out:Below w.heap.size w w11));clear HO_3;clear HB;have HO_3:=n0_;have HB:=n1_;clear n0_ n1_;clear hg hw hp_))
        go_roundg k1
        case measure=>have:=HK1.out;omega
        case rel=>exact ⟨(y529),(wrap64 (x4_1+1)),(by first | rfl | (simp;done) | (simp [*];done)),H',⟨by have:=HK1.out;omega⟩,⟨by (with_reducible repeat (first | apply zz12 | apply zz13 | apply zz14));exact HO_3.out⟩,⟨by repeat first | exact HB.out | apply zz2 | apply zz0 | apply zz1⟩⟩
       ·rw [if_neg c8] at H
        exact absurd H (by simp)
      ·rw [if_neg c7] at H
       exact absurd H (by simp)
     ·rw [if_neg c6] at H
      have c6b0:decide (x4_1 < (l0.length:Int))=false:=decide_eq_false c6
      clear c6
      obtain rfl:=Option.some.inj H
      go_wp2
      go_ret
      exact ⟨_,by first | rfl | (simp [errW_none,errW_some] <;> rfl) | (simp [*,errW_none,errW_some] <;> rfl),by (with_reducible repeat (first | apply zz12 | apply zz13 | apply zz14));exact HO_3.out,by repeat first | exact HB.out | apply zz2 | apply zz0 | apply zz1⟩
  ·rw [if_neg c3] at H
   exact absurd H (by simp)
 ·rw [if_neg c2] at H
  exact absurd H (by simp)

/-! ### slices_Equal_int_int: function 76 -/
def slices_Equal_int_int.l0:Nat→List Int→List Int→Int→Int→Option (Bool)
 | 0,_,_,_,_=>none
 | k+1,x0,x1,x12,x13=>if x13 < x12 then (if 0≤x13 then (if x13 < (x0.length:Int) then (if x13 < (x1.length:Int) then (if (rd x0 x13)=(rd x1 x13) then (slices_Equal_int_int.l0 k x0 x1 x12 (wrap64 (x13+1))) else (some false)) else (none)) else (none)) else (none)) else (some true)
def slices_Equal_int_int.f (k:Nat) (l0:List Int) (l1:List Int):Option (Bool):=if (l0.length:Int)=(l1.length:Int) then (slices_Equal_int_int.l0 k l0 l1 (l0.length:Int) 0) else (some false)
theorem slices_Equal_int_int.mono_l:∀ k,(∀ y0 y1 y2 y3,LeO (slices_Equal_int_int.l0 k y0 y1 y2 y3) (slices_Equal_int_int.l0 (k+1) y0 y1 y2 y3))
 | 0=>fun _ _ _ _ r h=>by simp [slices_Equal_int_int.l0] at h
 | k+1=>by
  have ih0:=slices_Equal_int_int.mono_l k
  ·intro y0 y1 y2 y3
   unfold slices_Equal_int_int.l0
   repeat' first
   | (with_reducible exact ih0 _ _ _ _)
   | (with_reducible exact LeO.refl _)
   | (with_reducible exact LeO.none _)
   | (with_reducible refine LeO.ite ?_ ?_)
   | (with_reducible refine LeO.bind ?_ (fun _=>?_))
   | exact ih0 _ _ _ _
   | exact LeO.none _
   | refine LeO.ite ?_ ?_
   | refine LeO.bind ?_ (fun _=>?_)
theorem slices_Equal_int_int.mono:∀ a0 a1 k,LeO (slices_Equal_int_int.f k a0 a1) (slices_Equal_int_int.f (k+1) a0 a1):=by
 intro a0 a1 k
 have ih0:=slices_Equal_int_int.mono_l k
 unfold slices_Equal_int_int.f
 repeat' first
   | (with_reducible exact ih0 _ _ _ _)
   | (with_reducible exact LeO.refl _)
   | (with_reducible exact LeO.none _)
   | (with_reducible refine LeO.ite ?_ ?_)
   | (with_reducible refine LeO.bind ?_ (fun _=>?_))
   | exact ih0 _ _ _ _
   | exact LeO.none _
   | refine LeO.ite ?_ ?_
   | refine LeO.bind ?_ (fun _=>?_)
set_option maxHeartbeats 8000000 in
set_option maxRecDepth 100000 in
theorem slices_Equal_int_int.calls (k:Nat) (A0:Option Addr) (c0:Nat) (l0:List Int) (A1:Option Addr) (c1:Nat) (l1:List Int) (r:Bool) (w:World) (hr0:Kd.C (Kd.int .i64) w A0 l0.length l0) (hc0:l0.length≤c0) (hr1:Kd.C (Kd.int .i64) w A1 l1.length l1) (hc1:l1.length≤c1) (h:slices_Equal_int_int.f k l0 l1=some r) :
  Calls Tryd.prog 76 #[.slice A0 l0.length c0,.slice A1 l1.length c1] w fun e w'=>e=.returned (.bool r)∧Drawn0 w w':=by
 have HR0:=zz31 hr0
 have HC0:=zz31 hc0
 clear hr0 hc0
 have HR1:=zz31 hr1
 have HC1:=zz31 hc1
 clear hr1 hc1
 have H:(if (l0.length:Int)=(l1.length:Int) then (slices_Equal_int_int.l0 k l0 l1 (l0.length:Int) 0) else (some false))=some r:=h
 clear h
 by_cases c3:(l0.length:Int)=(l1.length:Int)
 ·rw [if_pos c3] at H
  have c3b0:((l0.length:Int) == (l1.length:Int))=true:=beq_iff_eq.mpr c3
  have c3b1:((l0.length:Int) != (l1.length:Int))=false:=bne_eq_false_iff_eq.mpr c3
  have c3b2:(l0.length == l1.length)=true:=by first | simpa using c3 | (simp at c3 ⊢;omega)
  clear c3
  have H':=zz31 H
  clear H
  go_enter Tryd.func76,Tryd.ntmps76
  go_wp2
  repeat (go_quiet (fail);try go_wp2)
  go_loopg [13] k (fun kq v13 w'=>∃ (x13_1:Int),v13=.int .i64 x13_1∧Aside0 (slices_Equal_int_int.l0 kq l0 l1 (l0.length:Int) x13_1=some r)∧Aside0 (kq≤k)∧Drawn0 w w')
  case atStart=>exact ⟨(0),(by first | rfl | (simp;done) | (simp [*];done)),H',⟨Nat.le_refl _⟩,by repeat (first | exact Drawn0.refl _ | apply Drawn0.step)⟩
  case round =>
   clear H'
   try clear c1
   try clear p2
   try clear c3
   try clear c3b0
   try clear c3b1
   try clear c3b2
   obtain ⟨x13_1,rfl,HA,HK1,⟨m1,rfl⟩⟩:=hrel
   cases gk with
   | zero=>exact absurd HA.out (by simp [slices_Equal_int_int.l0])
   | succ k1 =>
    have H:=HA.out
    clear HA
    simp only [slices_Equal_int_int.l0] at H
    by_cases c4:x13_1 < (l0.length:Int)
    ·rw [if_pos c4] at H
     have c4b0:decide (x13_1 < (l0.length:Int))=true:=decide_eq_true c4
     clear c4
     by_cases c5:0≤x13_1
     ·rw [if_pos c5] at H
      have c5b0:decide (0≤x13_1)=true:=decide_eq_true c5
      clear c5
      by_cases c6:x13_1 < (l0.length:Int)
      ·rw [if_pos c6] at H
       have c6b0:decide (x13_1 < (l0.length:Int))=true:=decide_eq_true c6
       clear c6
       by_cases c7:x13_1 < (l1.length:Int)
       ·rw [if_pos c7] at H
        have c7b0:decide (x13_1 < (l1.length:Int))=true:=decide_eq_true c7
        clear c7
        by_cases c8:(rd l0 x13_1)=(rd l1 x13_1)
        ·rw [if_pos c8] at H
         have c8b0:((rd l0 x13_1) == (rd l1 x13_1))=true:=beq_iff_eq.mpr c8
         have c8b1:((rd l0 x13_1) != (rd l1 x13_1))=false:=bne_eq_false_iff_eq.mpr c8
         clear c8
         have H':=zz31 H
         clear H
         have p530:0≤(x13_1:Int):=zz29 (by first | (with_reducible assumption) | assumption)
         have q530:x13_1 < (l0.length:Int):=zz29 (by first | (with_reducible assumption) | assumption)
         obtain ⟨ad530,e530,hx530_0⟩:=Kd.at_int HR0.out x13_1 p530 q530
         cases e530
         replace p530:=eq_true p530
         replace q530:=eq_true q530
         have p531:0≤(x13_1:Int):=zz29 (by first | (with_reducible assumption) | assumption)
         have q531:x13_1 < (l1.length:Int):=zz29 (by first | (with_reducible assumption) | assumption)
         obtain ⟨ad531,e531,hx531_0⟩:=Kd.at_int HR1.out x13_1 p531 q531
         cases e531
         replace p531:=eq_true p531
         replace q531:=eq_true q531
         go_wp2
         repeat (go_quiet (fail);try go_wp2)
         go_roundg k1
         case measure=>have:=HK1.out;omega
         case rel=>exact ⟨(wrap64 (x13_1+1)),(by first | rfl | (simp;done) | (simp [*];done)),H',⟨by have:=HK1.out;omega⟩,by repeat (first | exact Drawn0.refl _ | apply Drawn0.step)⟩
        ·rw [if_neg c8] at H
         have c8b0:((rd l0 x13_1) == (rd l1 x13_1))=false:=beq_eq_false_iff_ne.mpr c8
         have c8b1:((rd l0 x13_1) != (rd l1 x13_1))=true:=bne_iff_ne.mpr c8
         obtain rfl:=Option.some.inj H
         have p530:0≤(x13_1:Int):=zz29 (by first | (with_reducible assumption) | assumption)
         have q530:x13_1 < (l0.length:Int):=zz29 (by first | (with_reducible assumption) | assumption)
         obtain ⟨ad530,e530,hx530_0⟩:=Kd.at_int HR0.out x13_1 p530 q530
         cases e530
         replace p530:=eq_true p530
         replace q530:=eq_true q530
         have p531:0≤(x13_1:Int):=zz29 (by first | (with_reducible assumption) | assumption)
         have q531:x13_1 < (l1.length:Int):=zz29 (by first | (with_reducible assumption) | assumption)
         obtain ⟨ad531,e531,hx531_0⟩:=Kd.at_int HR1.out x13_1 p531 q531
         cases e531
         replace p531:=eq_true p531
         replace q531:=eq_true q531
         go_wp2
         repeat (go_quiet (fail);try go_wp2)
         go_ret
         exact ⟨by first | rfl | (simp;done) | (simp [*];done),by repeat (first | exact Drawn0.refl _ | apply Drawn0.step)⟩
       ·rw [if_neg c7] at H
        exact absurd H (by simp)
      ·rw [if_neg c6] at H
       exact absurd H (by simp)
     ·rw [if_neg c5] at H
      exact absurd H (by simp)
    ·rw [if_neg c4] at H
     have c4b0:decide (x13_1 < (l0.length:Int))=false:=decide_eq_false c4
     clear c4
     obtain rfl:=Option.some.inj H
     go_wp2
     repeat (go_quiet (fail);try go_wp2)
     go_ret
     exact ⟨by first | rfl | (simp;done) | (simp [*];done),by repeat (first | exact Drawn0.refl _ | apply Drawn0.step)⟩
 ·rw [if_neg c3] at H
  have c3b0:((l0.length:Int) == (l1.length:Int))=false:=beq_eq_false_iff_ne.mpr c3
  have c3b1:((l0.length:Int) != (l1.length:Int))=true:=bne_iff_ne.mpr c3
  have c3b2:(l0.length == l1.length)=false:=by first | simpa using c3 | (simp at c3 ⊢;omega)
  obtain rfl:=Option.some.inj H
  go_enter Tryd.func76,Tryd.ntmps76
  go_wp2
  repeat (go_quiet (fail);try go_wp2)
  go_ret
  exact ⟨by first | rfl | (simp;done) | (simp [*];done),by repeat (first | exact Drawn0.refl _ | apply Drawn0.step)⟩

-- NOT PRINTED: function 93 (slices_AppendSeq_int_int)

-- NOT PRINTED: function 87 (slices_Collect_int)

/-! ### cmp_Less_int: function 102 -/
def cmp_Less_int.f (a0:Int) (a1:Int):Option (Bool):=(cmp_isNaN_int.f a0).bind fun t532=>(if t532=true then ((cmp_isNaN_int.f a1).bind fun t533=>(if t533=true then (some (decide (a0 < a1))) else (some true))) else (some (decide (a0 < a1))))
set_option maxHeartbeats 8000000 in
set_option maxRecDepth 100000 in
theorem cmp_Less_int.calls (a0:Int) (a1:Int) (r:Bool) (w:World) (h:cmp_Less_int.f a0 a1=some r) :
  Calls Tryd.prog 102 #[.int .i64 a0,.int .i64 a1] w fun e w'=>e=.returned (.bool r)∧Drawn0 w w':=by
 have H:((cmp_isNaN_int.f a0).bind fun t532=>(if t532=true then ((cmp_isNaN_int.f a1).bind fun t533=>(if t533=true then (some (decide (a0 < a1))) else (some true))) else (some (decide (a0 < a1)))))=some r:=h
 clear h
 replace H:=zz30.mp H
 obtain ⟨t532,A30,H⟩:=H
 replace H:(if t532=true then ((cmp_isNaN_int.f a1).bind fun t533=>(if t533=true then (some (decide (a0 < a1))) else (some true))) else (some (decide (a0 < a1))))=some r:=H
 have A3:=zz31 A30
 clear A30
 by_cases c4:t532=true
 ·subst c4
  have H1:((cmp_isNaN_int.f a1).bind fun t533=>(if t533=true then (some (decide (a0 < a1))) else (some true)))=some r:=by rw [if_pos rfl] at H;exact H
  clear H
  have H:=H1
  clear H1
  replace H:=zz30.mp H
  obtain ⟨t533,A50,H⟩:=H
  replace H:(if t533=true then (some (decide (a0 < a1))) else (some true))=some r:=H
  have A5:=zz31 A50
  clear A50
  by_cases c6:t533=true
  ·subst c6
   have H1:(some (decide (a0 < a1)))=some r:=by rw [if_pos rfl] at H;exact H
   clear H
   have H:=H1
   clear H1
   obtain rfl:=Option.some.inj H
   go_enter Tryd.func102,Tryd.ntmps102
   go_wp2_with (first | ((with_reducible refine gate_callee (f:=92) rfl ?_);refine goesL_ (some 6) rfl rfl Tryd.func92 (by kernel_rfl) rfl #[.int .i64 a0] rfl (by (try simp only [zz26,zz27,zz28]);first | done | rfl | (simp only [zz24,zz25];rfl)) ?_;(with_reducible refine (cmp_isNaN_int.calls a0 true _ A3.out).mono ?_);rintro e w' ⟨rfl,⟨nd,rfl⟩⟩;refine ⟨_,rfl,?_⟩) | (go_at_call 92;(with_reducible refine (cmp_isNaN_int.calls a1 true _ A5.out).mono ?_);rintro e w' ⟨rfl,⟨nd,rfl⟩⟩))
   go_ret
   exact ⟨by first | rfl | (simp;done) | (simp [*];done),by repeat (first | exact Drawn0.refl _ | apply Drawn0.step)⟩
  ·replace c6:=Bool.eq_false_iff.mpr c6
   subst c6
   have H1:(some true)=some r:=by rw [if_neg (show ¬ (false=true) by decide)] at H;exact H
   clear H
   have H:=H1
   clear H1
   obtain rfl:=Option.some.inj H
   go_enter Tryd.func102,Tryd.ntmps102
   go_wp2_with (first | ((with_reducible refine gate_callee (f:=92) rfl ?_);refine goesL_ (some 6) rfl rfl Tryd.func92 (by kernel_rfl) rfl #[.int .i64 a0] rfl (by (try simp only [zz26,zz27,zz28]);first | done | rfl | (simp only [zz24,zz25];rfl)) ?_;(with_reducible refine (cmp_isNaN_int.calls a0 true _ A3.out).mono ?_);rintro e w' ⟨rfl,⟨nd,rfl⟩⟩;refine ⟨_,rfl,?_⟩) | (go_at_call 92;(with_reducible refine (cmp_isNaN_int.calls a1 false _ A5.out).mono ?_);rintro e w' ⟨rfl,⟨nd,rfl⟩⟩))
   go_ret
   exact ⟨by first | rfl | (simp;done) | (simp [*];done),by repeat (first | exact Drawn0.refl _ | apply Drawn0.step)⟩
 ·replace c4:=Bool.eq_false_iff.mpr c4
  subst c4
  have H1:(some (decide (a0 < a1)))=some r:=by rw [if_neg (show ¬ (false=true) by decide)] at H;exact H
  clear H
  have H:=H1
  clear H1
  obtain rfl:=Option.some.inj H
  go_enter Tryd.func102,Tryd.ntmps102
  go_wp2_with (first | ((with_reducible refine gate_callee (f:=92) rfl ?_);refine goesL_ (some 6) rfl rfl Tryd.func92 (by kernel_rfl) rfl #[.int .i64 a0] rfl (by (try simp only [zz26,zz27,zz28]);first | done | rfl | (simp only [zz24,zz25];rfl)) ?_;(with_reducible refine (cmp_isNaN_int.calls a0 false _ A3.out).mono ?_);rintro e w' ⟨rfl,⟨nd,rfl⟩⟩;refine ⟨_,rfl,?_⟩))
  go_ret
  exact ⟨by first | rfl | (simp;done) | (simp [*];done),by repeat (first | exact Drawn0.refl _ | apply Drawn0.step)⟩

-- NOT PRINTED: function 96 (slices_insertionSortOrdered_int)

-- NOT PRINTED: function 107 (slices_siftDownOrdered_int)

-- NOT PRINTED: function 97 (slices_heapSortOrdered_int)

-- NOT PRINTED: function 105 (bits_Len32)

-- NOT PRINTED: function 106 (bits_Len64)

-- NOT PRINTED: function 95 (bits_Len)

-- NOT PRINTED: function 108 (slices_nextPowerOfTwo)

-- NOT PRINTED: function 109 (slices_xorshift_Next)

-- NOT PRINTED: function 98 (slices_breakPatternsOrdered_int)

-- NOT PRINTED: function 112 (slices_order2Ordered_int)

-- NOT PRINTED: function 111 (slices_medianOrdered_int)

-- NOT PRINTED: function 110 (slices_medianAdjacentOrdered_int)

-- NOT PRINTED: function 99 (slices_choosePivotOrdered_int)

-- NOT PRINTED: function 100 (slices_reverseRangeOrdered_int)

-- NOT PRINTED: function 101 (slices_partialInsertionSortOrdered_int)

-- NOT PRINTED: function 103 (slices_partitionEqualOrdered_int)

-- NOT PRINTED: function 104 (slices_partitionOrdered_int)

-- NOT PRINTED: function 94 (slices_pdqsortOrdered_int)

/-! ### slices_Sort_int_int: function 88 (a contract of our own) -/
def sortRen:Go.Shelf.Ren:=⟨fun | 125=>95 | 128=>105 | 129=>106 | 189=>88 | 215=>92 | 216=>102 | 257=>94 | 294=>96 | 295=>97 | 296=>98 | 297=>99 | 298=>100 | 299=>101 | 300=>103 | 301=>104 | 328=>107 | 329=>108 | 330=>109 | 331=>110 | 332=>111 | 343=>112 | n=>n,fun | 0=>0 | 3=>3 | 4=>4 | 5=>5 | 9=>9 | 28=>34 | 46=>91 | 51=>98 | 53=>101 | 131=>26 | 182=>109 | 183=>110 | 218=>117 | 222=>121 | 228=>123 | 229=>124 | n=>n,fun | n=>n⟩
theorem sortLays:Go.Proofs.Lays.n189 Tryd.prog sortRen:={
 mixed:=by kernel_rfl
 f125:=Tryd.func95.trans (congrArg some (by kernel_rfl))
 f128:=Tryd.func105.trans (congrArg some (by kernel_rfl))
 f129:=Tryd.func106.trans (congrArg some (by kernel_rfl))
 f189:=Tryd.func88.trans (congrArg some (by kernel_rfl))
 f215:=Tryd.func92.trans (congrArg some (by kernel_rfl))
 f216:=Tryd.func102.trans (congrArg some (by kernel_rfl))
 f257:=Tryd.func94.trans (congrArg some (by kernel_rfl))
 f294:=Tryd.func96.trans (congrArg some (by kernel_rfl))
 f295:=Tryd.func97.trans (congrArg some (by kernel_rfl))
 f296:=Tryd.func98.trans (congrArg some (by kernel_rfl))
 f297:=Tryd.func99.trans (congrArg some (by kernel_rfl))
 f298:=Tryd.func100.trans (congrArg some (by kernel_rfl))
 f299:=Tryd.func101.trans (congrArg some (by kernel_rfl))
 f300:=Tryd.func103.trans (congrArg some (by kernel_rfl))
 f301:=Tryd.func104.trans (congrArg some (by kernel_rfl))
 f328:=Tryd.func107.trans (congrArg some (by kernel_rfl))
 f329:=Tryd.func108.trans (congrArg some (by kernel_rfl))
 f330:=Tryd.func109.trans (congrArg some (by kernel_rfl))
 f331:=Tryd.func110.trans (congrArg some (by kernel_rfl))
 f332:=Tryd.func111.trans (congrArg some (by kernel_rfl))
 f343:=Tryd.func112.trans (congrArg some (by kernel_rfl))
 t0:=Tryd.underlying0
 a0:=Tryd.isAgg0
 z0:=Tryd.sizeOf0
 v0:=Tryd.zeroValue0
 t3:=Tryd.underlying3
 a3:=Tryd.isAgg3
 z3:=Tryd.sizeOf3
 v3:=Tryd.zeroValue3
 t4:=Tryd.underlying4
 a4:=Tryd.isAgg4
 z4:=Tryd.sizeOf4
 v4:=Tryd.zeroValue4
 t5:=Tryd.underlying5
 a5:=Tryd.isAgg5
 z5:=Tryd.sizeOf5
 v5:=Tryd.zeroValue5
 t9:=Tryd.underlying9
 a9:=Tryd.isAgg9
 z9:=Tryd.sizeOf9
 v9:=Tryd.zeroValue9
 t28:=Tryd.underlying34
 a28:=Tryd.isAgg34
 z28:=Tryd.sizeOf34
 v28:=Tryd.zeroValue34
 t46:=Tryd.underlying91
 a46:=Tryd.isAgg91
 z46:=Tryd.sizeOf91
 v46:=Tryd.zeroValue91
 t51:=Tryd.underlying98
 a51:=Tryd.isAgg98
 z51:=Tryd.sizeOf98
 v51:=Tryd.zeroValue98
 t53:=Tryd.underlying101
 a53:=Tryd.isAgg101
 z53:=Tryd.sizeOf101
 v53:=Tryd.zeroValue101
 t131:=Tryd.underlying26
 a131:=Tryd.isAgg26
 z131:=Tryd.sizeOf26
 v131:=Tryd.zeroValue26
 t182:=Tryd.underlying109
 a182:=Tryd.isAgg109
 z182:=Tryd.sizeOf109
 v182:=Tryd.zeroValue109
 t183:=Tryd.underlying110
 a183:=Tryd.isAgg110
 z183:=Tryd.sizeOf110
 v183:=Tryd.zeroValue110
 t218:=Tryd.underlying117
 a218:=Tryd.isAgg117
 z218:=Tryd.sizeOf117
 v218:=Tryd.zeroValue117
 t222:=Tryd.underlying121
 a222:=Tryd.isAgg121
 z222:=Tryd.sizeOf121
 v222:=Tryd.zeroValue121
 t228:=Tryd.underlying123
 a228:=Tryd.isAgg123
 z228:=Tryd.sizeOf123
 v228:=Tryd.zeroValue123
 t229:=Tryd.underlying124
 a229:=Tryd.isAgg124
 z229:=Tryd.sizeOf124
 v229:=Tryd.zeroValue124 }
/-- What slices.Sort does at whole numbers, as the library tells it. -/
theorem sortInts (blk off cap:Nat) (zs:List Int) (w:World) (hH:Go.Sort.Holds (Value.int .i64) w blk off zs.toArray) (hb:blk < w.heap.size) (hz:zs.length < 4611686018427387904) :
    Calls Tryd.prog 88 #[.slice (some ⟨blk,off,none⟩) zs.length cap] w fun e w' =>
      e=.returned (.tuple #[])∧∃ n os,w'=Go.Sort.grow (Go.Sort.putRow (Value.int .i64) (Go.Sort.ahead w n) blk off (zs.mergeSort fun x y=>decide (x≤y)).toArray) os:=Any.slices_Sort_int sortLays blk off cap zs w hH hb hz
theorem sortNone (p:Option Addr) (cap:Nat) (W:World):Calls Tryd.prog 88 #[.slice p 0 cap] W fun e w'=>e=.returned (.tuple #[])∧w'=W:=Any.slices_Sort_int_none sortLays p cap W
def slices_Sort_int_int.f (l0:List Int):Option (List Int):=if l0.length < 4611686018427387904 then some (l0.mergeSort fun x y=>decide (x≤y)) else none
theorem slices_Sort_int_int.calls (P0_:Nat→Prop) (u9000_:Value) (l0:List Int) (r:List Int) (w0 w:World) (hB:Below w0.heap.size w0 w) (ho0:Kd.R (Kd.int .i64) 3 w w0.heap.size P0_ u9000_ l0) (h:slices_Sort_int_int.f l0=some r) :
    Calls Tryd.prog 88 #[u9000_] w fun e w'=>e=.returned (.tuple #[])∧Kd.R (Kd.int .i64) 3 w' w0.heap.size (fun k_=>(P0_ k_ ∨ w.heap.size≤k_)) u9000_ r∧Below w0.heap.size w0 w'∧Kept w w' (fun k_=>P0_ k_):=by
  unfold slices_Sort_int_int.f at h
  by_cases hl:l0.length < 4611686018427387904
  case neg=>rw [if_neg hl] at h;exact absurd h (by simp)
  rw [if_pos hl] at h
  obtain rfl:=Option.some.inj h
  have hml:(l0.mergeSort fun x y=>decide (x≤y)).length=l0.length:=List.length_mergeSort _
  have ho:=Kd.own_of_R ho0
  rcases ho.2 with ⟨rfl,hz⟩ | ⟨gb,cp,cur,rfl,hbase,hgb,r1,r2,r3,r4⟩
  · obtain rfl:l0=[]:=List.eq_nil_of_length_eq_zero hz
    refine (sortNone none 0 w).mono ?_
    rintro e w' ⟨rfl,rfl⟩
    exact ⟨rfl,by simpa using Kd.R_nil _ _ _ _ _,hB,Kept.refl _ _⟩
  · have hH:Go.Sort.Holds (Value.int .i64) w gb 0 l0.toArray:=holds_of_blockI hgb (by rw [Nat.mul_one] at r4;exact r4)
    refine (sortInts gb 0 cp l0 w hH (Array.getElem?_eq_some_iff.1 hgb).1 hl).mono ?_
    rintro e w' ⟨rfl,nn,os,rfl⟩
    have hp:P0_ gb:=ho0.1 gb (by simp [Value.ownBlock])
    refine ⟨rfl,Kd.R_of_own (enc:=Value.int .i64) (h1:=fun _=>rfl) (by rw [hml];exact ownsRow_sortedI hml hbase hgb r1 r2 r3) (fun k hk=>.inl ?_),hB.grown (grownBy_sortedI _) hB.size (fun j hj=>by cases hj;exact hbase),Kept.of_grown (grownBy_sortedI _) (Kept.refl _ _) (fun k hk=>.inl ?_)⟩
    · have:gb=k:=by simpa [Value.ownBlock] using hk
      rw [← this];exact hp
    · cases hk;exact hp

/-! ### slices_Sorted_int: function 77 (lemmas of our own) -/
section
open Go.Shelf
attribute [local go_sem] Oper.semAt_some
set_option maxRecDepth 100000 in
set_option maxHeartbeats 2000000 in
/-- The iterator of slices.Values over whole numbers, for every loop body that keeps what lay below n₀. -/
theorem vals1_in (F:Fence) (n:Nat) (h7:F.fn 89) (hro:F.round=none) (hn:1≤n) (l Bs n₀ cap:Nat) (ad:Addr) (xs:List Int) (hreach:xs.length≤9223372036854775807) (hb:ad.block < n₀) (J Jx:List Int→World→Prop)
  (hY:∀ pre x W,J pre W→pre.length < xs.length→YieldAt F (n - 1) Tryd.prog l #[.int .i64 x] W fun e W' =>
   (e=.returned (.bool true)∧J (pre ++ [x]) W'∧Below n₀ W W') ∨ (e=.returned (.bool false)∧Jx (pre ++ [x]) W'))
  (W:World) (hBs:W.cell? ⟨Bs,0,none⟩=some (.slice (some ad) xs.length cap)) (hc:∀ j,j < xs.length→W.cell? (ad.add j)=some (.int .i64 (rd xs j))) (h0:J [] W) :
  CallsIn F n Tryd.prog 89 #[.func (.yield l) #[] #[],.pointer (some ⟨Bs,0,none⟩)] W fun e W'=>(∃ v,e=.returned v) ∧
   ((∃ ys,ys=xs∧J ys W') ∨ (∃ pre,pre <+: xs∧Jx pre W')):=by
 refine callsIn_of_wp Tryd.func89 rfl h7 ?_ hro
 simp only [Tryd.ntmps89,List.size_toArray,List.length_cons,List.length_nil,Nat.reduceAdd,Nat.reduceSub,Array.replicate_succ,Array.replicate_zero,List.push_toArray,List.append_toArray,List.nil_append,List.cons_append]
 gi_wp2
 gi_loopw [7] (fun i wr=>∃ k:Nat,k≤xs.length∧i=.int .i64 k∧J (xs.take k) wr∧Below n₀ W wr)
  (fun i _=>xs.length - (intOf i).toNat)
 case atStart=>exact ⟨0,Nat.zero_le _,rfl,by simpa using h0,Below.refl _ _⟩
 case round =>
  obtain ⟨k,hk,rfl,hJs,hnx⟩:=hrel
  by_cases hlt:k < xs.length
  ·obtain ⟨y,hy⟩:∃ y,y=rd xs k:=⟨_,rfl⟩
   have hcx:wr.cell? (ad.add k)=some (.int .i64 y):=by
    have hbk:(ad.add k).block=ad.block:=by unfold Addr.add;split <;> rfl
    rw [hy]
    exact (hnx.cell (p:=ad.add k) (by rw [hbk];exact hb)).trans (hc k hlt)
   have hsn:Aside0 (xs.take (k+1)=xs.take k ++ [y]):=⟨by rw [List.take_succ_eq_append_getElem hlt,hy];simp [rd,List.getD_eq_getElem?_getD,hlt]⟩
   have hkz:(k:Int) < (xs.length:Int):=by omega
   obtain ⟨fn,tmps,assign,body,hyy,hR⟩:=hY _ y wr hJs (by rw [zz25];omega)
   clear hy
   gi_wp2
   refine hR.mono ?_
   rintro e W3 (⟨rfl,hJ3,hk3⟩ | ⟨rfl,hJx3⟩)
   ·gi_wp2
    go_roundw
    case rel=>exact ⟨k+1,by omega,by go_num,by rw [hsn.out];exact hJ3,hnx.trans hk3⟩
    case measure=>simp [intOf];omega
   ·gi_wp2
    refine bodyPost_ret (results_none rfl _ _ _) rfl ?_
    exact ⟨⟨_,rfl⟩,.inr ⟨_,by rw [← hsn.out];exact List.take_prefix _ _,hJx3⟩⟩
  ·have hkl:xs.length≤k:=by omega
   have hkz:¬ (k:Int) < (xs.length:Int):=by omega
   have hJx:J xs wr:=by rw [List.take_of_length_le hkl] at hJs;exact hJs
   gi_wp2
   go_end0
   exact ⟨⟨_,rfl⟩,.inl (by first | exact hJx | exact ⟨_,rfl,hJx⟩)⟩
set_option maxRecDepth 100000 in
set_option maxHeartbeats 1000000 in
theorem vals1_nil_in (F:Fence) (n:Nat) (h7:F.fn 89) (hro:F.round=none) (l Bs:Nat) (A:Option Addr) (cap:Nat) (J:List Int→World→Prop) (W:World) (hBs:W.cell? ⟨Bs,0,none⟩=some (.slice A 0 cap)) (h0:J [] W) :
  CallsIn F n Tryd.prog 89 #[.func (.yield l) #[] #[],.pointer (some ⟨Bs,0,none⟩)] W fun e W'=>(∃ v,e=.returned v)∧J [] W':=by
 refine callsIn_of_wp Tryd.func89 rfl h7 ?_ hro
 simp only [Tryd.ntmps89,List.size_toArray,List.length_cons,List.length_nil,Nat.reduceAdd,Nat.reduceSub,Array.replicate_succ,Array.replicate_zero,List.push_toArray,List.append_toArray,List.nil_append,List.cons_append]
 gi_wp2
 gi_loopw [7] (fun i wr=>i=.int .i64 0∧J [] wr) (fun _ _=>0)
 case atStart=>exact ⟨rfl,h0⟩
 case round =>
  obtain ⟨rfl,hJs⟩:=hrel
  gi_wp2
  go_end0
  exact ⟨⟨_,rfl⟩,hJs⟩
/-- slices.Values(xs) hands back an iterator that gives xs, in order. -/
theorem vals_stops (F:Fence) (n:Nat) (h7:F.fn 89) (hro:F.round=none) (hn:1≤n) (Bs:Nat) (A:Option Addr) (cap:Nat) (xs:List Int) (w w0:World) (hBs:Bs < w.heap.size) (hn₀:w0.heap.size≤w.heap.size)
  (hc:w.cell? ⟨Bs,0,none⟩=some (.slice A xs.length cap)) (hr:Kd.C (Kd.int .i64) w0 A xs.length xs) (hb0:Below w0.heap.size w0 w) :
  SeqStopsK F n Tryd.prog 89 #[.pointer (some ⟨Bs,0,none⟩)] (fun x:Int=>#[Value.int .i64 x]) (Below w0.heap.size) (fun ys=>ys=xs) (fun pre=>pre <+: xs) xs.length w:=fun l J Jx W hW _ _ hY h0=>by
 have hc':=(hW.cell (p:=⟨Bs,0,none⟩) hBs).trans hc
 have hb1:Below w0.heap.size w0 W:=hb0.trans (hW.mono hn₀)
 rcases Nat.eq_zero_or_pos xs.length with hz | hz
 ·obtain rfl:xs=[]:=List.eq_nil_of_length_eq_zero hz
  exact (vals1_nil_in F n h7 hro l Bs A cap J W hc' h0).mono fun e W' ⟨he,hj⟩=>⟨he,.inl ⟨_,rfl,hj⟩⟩
 ·obtain ⟨ad,rfl,h1⟩:=Kd.at_int hr 0 (by decide) (by omega)
  have hcell:∀ j,j < xs.length→w0.cell? (ad.add j)=some (.int .i64 (rd xs j)):=fun j hj=>by
   obtain ⟨ad',e,h2⟩:=Kd.at_int hr (j:Int) (by omega) (by omega)
   cases e
   simpa using h2
  have hblk:ad.block < w0.heap.size:=by
   have:=World.block_lt_of_cell? w0 _ h1
   unfold Addr.add at this
   split at this <;> exact this
  refine (vals1_in F n h7 hro hn l Bs w0.heap.size cap ad xs hr.2.1 hblk J Jx hY W hc' (fun j hj=>?_) h0).mono ?_
  ·refine (hb1.cell (p:=ad.add j) ?_).trans (hcell j hj)
   have hbk:(ad.add j).block=ad.block:=by unfold Addr.add;split <;> rfl
   rw [hbk];exact hblk
  ·rintro e W' ⟨he,⟨ys,rfl,hj⟩ | ⟨pre,hp,hj⟩⟩
   ·exact ⟨he,.inl ⟨_,rfl,hj⟩⟩
   ·exact ⟨he,.inr ⟨_,hp,hj⟩⟩
set_option maxRecDepth 100000 in
set_option maxHeartbeats 2000000 in
/-- slices.AppendSeq(nil, slices.Values(xs)): a row of the call's own that holds xs. -/
theorem appendVals_in (F:Fence) (n:Nat) (h3:F.fn 93) (h7:F.fn 89) (hro:F.round=none) (hn:3≤n) (Bs:Nat) (A:Option Addr) (cap:Nat) (xs:List Int) (w:World) (hBs:Bs < w.heap.size)
  (hc:w.cell? ⟨Bs,0,none⟩=some (.slice A xs.length cap)) (hr:Kd.C (Kd.int .i64) w A xs.length xs) (hlen:xs.length≤17592186044416) :
  CallsIn F n Tryd.prog 93 #[.slice none 0 0,.func (.func 89) #[] #[.pointer (some ⟨Bs,0,none⟩)]] w fun e W'=>∃ v,e=.returned v∧W'.ownsRow w.heap.size 3 1 v xs.length (xs.map (Value.int .i64))∧Below w.heap.size w W':=by
 have h1:1≤n:=by omega
 have hinfo:(Tryd.prog.info? 3).map (fun i=>(i.zero,i.size,i.bytes))=some (some (.int .i64 0),1,8):=by kernel_rfl
 obtain ⟨i0,hi,hz0,hz1,hz2⟩:=info_parts hinfo
 refine callsIn_of_wp_marks Tryd.func93 rfl h3 ?_ hro
 simp only [Tryd.ntmps93,List.size_toArray,List.length_cons,List.length_nil,Nat.reduceAdd,Nat.reduceSub,Array.replicate_succ,Array.replicate_zero,List.push_toArray,List.append_toArray,List.nil_append,List.cons_append]
 gi_wp2
 have bO:=Boxed.new w 34 (.slice none 0 0)
 have hB0:Below w.heap.size w (w.alloc (.cells #[.slice none 0 0] 34)):=(Below.refl _ w).alloc (Nat.le_refl _) _
 have hc0:(w.alloc (.cells #[.slice none 0 0] 34)).cell? ⟨Bs,0,none⟩=some (.slice A xs.length cap):=(hB0.cell (p:=⟨Bs,0,none⟩) hBs).trans hc
 refine wpIn_rangeFunc_ownG hro h1 (gf:=89) (lb:=#[.pointer (some ⟨Bs,0,none⟩)]) rfl h7 (enters_of Tryd.func89 (by kernel_rfl) rfl)
  (vals_stops F (n - 1) h7 hro (by omega) Bs A cap xs _ w (by simp;omega) (by simp) hc0 hr hB0) belowK_t (belowK_b (by simp)) (Below.refl _ _) (fun _=>rfl)
  (fun pre W=>(∃ v,Boxed W w.heap.size 34 v∧W.ownsRow w.heap.size 3 1 v pre.length (pre.map (Value.int .i64))∧True)∧Below w.heap.size w W)
  (fun _ _ _=>False)
  (OwnFrom.and (Own.from (holdsRow_own w.heap.size w.heap.size 34 3 1 (fun pre:List Int=>pre.length) (fun pre=>pre.map (Value.int .i64)) (fun _ _=>True)) _) (ownFrom_below (Nat.le_refl _) (by simp)))
  (fun _ _ _ _ _ hs _ _=>hs)
  ⟨⟨_,bO,World.ownsRow_nil _ _ _ _,trivial⟩,hB0⟩
  (fun x=>{ tmps:=#[.slice none 0 0,.func (.func 89) #[] #[.pointer (some ⟨Bs,0,none⟩)],.pointer (some ⟨w.heap.size,0,none⟩),undef,.slice none 0 0,.int .i64 x,.func (.func 89) #[] #[.pointer (some ⟨Bs,0,none⟩)],.int .i64 x,undef,undef,undef,undef,undef],defers:=[] }) ?assign ?body ?done ?stop
 case assign =>
  intro l x W K hK
  gi_wp2
  exact hK
 case body =>
  rintro l pre x W ⟨⟨v,hv,hrow,_⟩,hB⟩ hlt
  have hc:=hv.cell
  gi_wp2_with (gi_at_builtin;refine wpListIn_append_own _ rfl _ _ 34 rfl w.heap.size 3 i0 (.int .i64 0) 1 8 Tryd.underlying34 hi hz0 hz1 hz2 rfl (by decide) _ _ _ rfl (hrow.alloc _) ⟨W.heap.size,0,none⟩ 1 1 [.int .i64 x] rfl rfl (cell_one_new _ _ _) (by simp [Value.oneCell']) (by simp only [maxLen];omega) (by omega) (by have:=hB.size;simp;omega) ?_;intro v' w1 hown' hgrow _;obtain ⟨g',cap',rfl⟩:=ownsRow_succ hown';obtain ⟨hv1,hv2,hr2,hk2,hb2⟩:=hv.appended (by decide) hrow hB.size (Nat.le_refl _) hown' hgrow;have hc1:=hv1.cell;have hf1:=hv1.frozen)
  exact ⟨hk2.from _,hb2,⟨_,hv2,by simpa using hr2,trivial⟩,hB.trans hb2⟩
 case done =>
  rintro D ys W hD rfl ⟨⟨v,hv,hrow,_⟩,hB⟩ hK
  have hc:=hv.cell
  gi_wp2
  refine ⟨by simp,.inl ⟨_,_,rfl,run_takeDeferred hK,?_⟩⟩
  exact ⟨_,results_tmp rfl _ _ _,v,rfl,ownsRow_putObj hrow _ hK rfl,hB.trans (belowK_b (w:=w) (Nat.le_refl _) W D _ _ (by simp at hD;omega) hK rfl rfl)⟩
 case stop =>
  rintro D c pre W _ _ h _
  exact h.elim
end
set_option maxHeartbeats 1000000 in
theorem values_any (A:Option Addr) (n c:Nat) (w:World):Calls Tryd.prog 78 #[.slice A n c] w fun e w'=>e=.returned (.func (.func 89) #[] #[.pointer (some ⟨w.heap.size,0,none⟩)])∧w'=w.alloc (.cells #[.slice A n c] 34):=by
 go_enter Tryd.func78,Tryd.ntmps78
 go_wp2
 go_ret
 exact ⟨rfl,rfl⟩
set_option maxHeartbeats 1000000 in
/-- slices.Sorted(slices.Values(xs)): a row of the call's own: xs, sorted. -/
theorem sortedVals (Bs:Nat) (A:Option Addr) (cap:Nat) (xs:List Int) (w:World) (hBs:Bs < w.heap.size) (hc:w.cell? ⟨Bs,0,none⟩=some (.slice A xs.length cap)) (hr:Kd.C (Kd.int .i64) w A xs.length xs) (hlen:xs.length≤17592186044416) :
  Calls Tryd.prog 77 #[.func (.func 89) #[] #[.pointer (some ⟨Bs,0,none⟩)]] w fun e w'=>∃ v,e=.returned v∧Kd.R (Kd.int .i64) 3 w' w.heap.size (fun _=>True) v (xs.mergeSort fun x y=>decide (x≤y))∧Below w.heap.size w w':=by
 have cA:=(callsIn_wide (n:=3)).1 (appendVals_in Fence.wide 3 trivial trivial rfl (by omega) Bs A cap xs w hBs hc hr hlen)
 clear hr hc
 have cC:Calls Tryd.prog 87 #[.func (.func 89) #[] #[.pointer (some ⟨Bs,0,none⟩)]] w fun e W'=>∃ v,e=.returned v∧W'.ownsRow w.heap.size 3 1 v xs.length (xs.map (Value.int .i64))∧Below w.heap.size w W':=by
  go_enter Tryd.func87,Tryd.ntmps87
  go_wp2_with (go_at_call 93;refine cA.mono ?_;rintro e w' ⟨v,rfl,hrow,hb⟩)
  go_ret
  exact ⟨v,rfl,hrow,hb⟩
 clear cA
 have R_of:∀ (W:World) (v:Value) (ys:List Int),W.ownsRow w.heap.size 3 1 v ys.length (ys.map (Value.int .i64))→Kd.R (Kd.int .i64) 3 W w.heap.size (fun _=>True) v ys:=fun W v ys h=>Kd.R_of_own (enc:=Value.int .i64) (h1:=fun _=>rfl) h (fun _ _=>trivial)
 have HR:=zz31 R_of
 clear R_of
 go_enter Tryd.func77,Tryd.ntmps77
 go_wp2_with (go_at_call 87;refine cC.mono ?_;rintro e W ⟨v,rfl,hrow,hb⟩)
 rcases hrow.2 with ⟨rfl,hz⟩ | ⟨gb,cp,cur,rfl,hbase,hgb,r1,r2,r3,r4⟩
 ·have hx:xs=[]:=List.eq_nil_of_length_eq_zero hz
  subst hx
  have HB:=zz31 hb
  clear hb hrow hz
  go_wp2_with (go_at_call 88;refine (sortNone none 0 _).mono ?_;rintro e w' ⟨rfl,rfl⟩)
  go_ret
  exact ⟨_,rfl,by simpa using Kd.R_nil _ _ _ _ _,HB.out⟩
 ·have hH:Go.Sort.Holds (Value.int .i64) W gb 0 xs.toArray:=holds_of_blockI hgb (by simpa using r4)
  have hgl:gb < W.heap.size:=(Array.getElem?_eq_some_iff.1 hgb).1
  have cS:=sortInts gb 0 cp xs W hH hgl (by omega)
  have HB:=zz31 hb
  have HG:=zz31 hgb
  have R1:=zz31 r1
  have R2:=zz31 r2
  have R3:=zz31 r3
  clear hrow hb hgb r1 r2 r3 r4 hH hgl
  go_wp2_with (go_at_call 88;refine cS.mono ?_;rintro e w' ⟨rfl,nn,os,rfl⟩)
  go_ret
  have hml:(xs.mergeSort fun x y=>decide (x≤y)).length=xs.length:=List.length_mergeSort _
  exact ⟨_,rfl,HR.out _ _ _ (by rw [hml];exact ownsRow_sortedI hml hbase HG.out R1.out R2.out R3.out),HB.out.grown (grownBy_sortedI _) HB.out.size (fun j hj=>by cases hj;exact hbase)⟩

-- NOT PRINTED: function 89 (slices_Values_int_int_1)

-- NOT PRINTED: function 78 (slices_Values_int_int)

/-! ### impl_upTo: function 79 -/
def impl_upTo.l0:Nat→List Int→Int→Int→Option (List Int)
 | 0,_,_,_=>none
 | k+1,x3,x6,x7=>if x7 < x6 then (if x3.length < 17592186044416 then (impl_upTo.l0 k (x3 ++ [x7]) x6 (wrap64 (x7+1))) else (none)) else (some x3)
def impl_upTo.f (k:Nat) (a0:Int):Option (List Int):=impl_upTo.l0 k (([]:List Int)) a0 0
theorem impl_upTo.mono_l:∀ k,(∀ y0 y1 y2,LeO (impl_upTo.l0 k y0 y1 y2) (impl_upTo.l0 (k+1) y0 y1 y2))
 | 0=>fun _ _ _ r h=>by simp [impl_upTo.l0] at h
 | k+1=>by
  have ih0:=impl_upTo.mono_l k
  ·intro y0 y1 y2
   unfold impl_upTo.l0
   repeat' first
   | (with_reducible exact ih0 _ _ _)
   | (with_reducible exact LeO.refl _)
   | (with_reducible exact LeO.none _)
   | (with_reducible refine LeO.ite ?_ ?_)
   | (with_reducible refine LeO.bind ?_ (fun _=>?_))
   | exact ih0 _ _ _
   | exact LeO.none _
   | refine LeO.ite ?_ ?_
   | refine LeO.bind ?_ (fun _=>?_)
theorem impl_upTo.mono:∀ a0 k,LeO (impl_upTo.f k a0) (impl_upTo.f (k+1) a0):=by
 intro a0 k
 have ih0:=impl_upTo.mono_l k
 unfold impl_upTo.f
 repeat' first
   | (with_reducible exact ih0 _ _ _)
   | (with_reducible exact LeO.refl _)
   | (with_reducible exact LeO.none _)
   | (with_reducible refine LeO.ite ?_ ?_)
   | (with_reducible refine LeO.bind ?_ (fun _=>?_))
   | exact ih0 _ _ _
   | exact LeO.none _
   | refine LeO.ite ?_ ?_
   | refine LeO.bind ?_ (fun _=>?_)
set_option maxHeartbeats 8000000 in
set_option maxRecDepth 100000 in
theorem impl_upTo.calls (k:Nat) (a0:Int) (r:List Int) (w:World) (h:impl_upTo.f k a0=some r) :
  Calls Tryd.prog 79 #[.int .i64 a0] w fun e w'=>∃ v0_:Value,e=.returned (v0_)∧Kd.R (Kd.int .i64) 3 w' w.heap.size (fun _=>True) v0_ r∧Below w.heap.size w w':=by
 have HB:=zz31 (Below.refl w.heap.size w)
 have H:(impl_upTo.l0 k (([]:List Int)) a0 0)=some r:=h
 clear h
 obtain ⟨y534,hy534⟩:∃ y_:List Int,y_=(([]:List Int)):=⟨_,rfl⟩
 replace H:(impl_upTo.l0 k y534 a0 0)=some r:=by first | (rw [hy534];with_reducible exact H) | (have H2_:=(Option.bind_some _ _).symm.trans H;rw [hy534];with_reducible exact H2_) | (have H2_:=(Option.bind_some _ _).symm.trans H;with_reducible exact H2_) | with_reducible exact H | (rw [hy534];exact H) | exact H
 have Ny534:=zz31 hy534
 clear hy534
 have H':=zz31 H
 clear H
 go_enter Tryd.func79,Tryd.ntmps79
 go_wp2_with (first | ((with_reducible refine gate_dst (N:=5) rfl ?_);refine Kd.R_lit (Kd.int .i64) _ 3 ?hg (N:=5) ?hd (xs:=([]:List Int)) (inner:=[]) (ok:=fun _=>True) (okp:=fun _=>True) ?hr ?hp (fun _ hk=>hk) trivial (Below.refl _ _) (Nat.le_refl _) (by simp) ?_;(case hd=>rfl);(case hg=>rfl);(case hr=>first | (go_simp;done) | (go_simp;rfl));(case hp=>exact (Reps.none _ _));intro v535 w2 ho3 hb hg_ hnew_;clear hg_ hnew_;(first | rw [← Ny534.out] at ho3 | (simp only [Int.reduceToNat] at ho3;rw [← Ny534.out] at ho3));have n0_:=zz31 (Kd.R_lower ho3 (zz5 (by repeat first | exact HB.out | apply zz2 | apply zz0 | apply zz1)));have n1_:=zz31 (zz4 (by repeat first | exact HB.out | apply zz2 | apply zz0 | apply zz1) hb);clear HB;have HO536:=n0_;have HB:=n1_;clear n0_ n1_;clear hb ho3))
 go_loopg [3,7] k (fun kq v3 v7 w'=>∃ (x3_1:List Int) (x7_1:Int),v7=.int .i64 x7_1∧Aside0 (impl_upTo.l0 kq x3_1 a0 x7_1=some r)∧Aside0 (kq≤k)∧Aside0 (Kd.R (Kd.int .i64) 3 w' w.heap.size (fun _=>True) v3 x3_1)∧Aside0 (Below w.heap.size w w'))
 case atStart=>exact ⟨(y534),(0),(by first | rfl | (simp;done) | (simp [*];done)),H',⟨Nat.le_refl _⟩,⟨by (with_reducible repeat (first | apply zz12 | apply zz13 | apply zz14));exact HO536.out⟩,⟨by repeat first | exact HB.out | apply zz2 | apply zz0 | apply zz1⟩⟩
 case round =>
  clear H'
  try clear p2
  obtain ⟨x3_1,x7_1,rfl,HA,HK1,HO_3,HB⟩:=hrel
  cases gk with
  | zero=>exact absurd HA.out (by simp [impl_upTo.l0])
  | succ k1 =>
   have H:=HA.out
   clear HA
   simp only [impl_upTo.l0] at H
   by_cases c4:x7_1 < a0
   ·rw [if_pos c4] at H
    have c4b0:decide (x7_1 < a0)=true:=decide_eq_true c4
    clear c4
    by_cases c5:x3_1.length < 17592186044416
    ·rw [if_pos c5] at H
     have LMc5:=zz31 c5
     clear c5
     obtain ⟨y537,hy537⟩:∃ y_:List Int,y_=(x3_1 ++ [x7_1]):=⟨_,rfl⟩
     replace H:(impl_upTo.l0 k1 y537 a0 (wrap64 (x7_1+1)))=some r:=by first | (rw [hy537];with_reducible exact H) | (have H2_:=(Option.bind_some _ _).symm.trans H;rw [hy537];with_reducible exact H2_) | (have H2_:=(Option.bind_some _ _).symm.trans H;with_reducible exact H2_) | with_reducible exact H | (rw [hy537];exact H) | exact H
     have Ny537:=zz31 hy537
     clear hy537
     have H':=zz31 H
     clear H
     go_wp2_with (first | ((with_reducible refine gate_builtin (b:=.append) (xs:=#[.tmp 10,.tmp 12]) rfl ?_);at_builtin;refine Kd.R_append (Kd.int .i64) (w0:=w) w.heap.size rfl (.tmp 10) (.tmp 12) 34 3 (.int .i64 0) 8 rfl Tryd.underlying34 info3 rfl (by decide) (by omega) u3 x3_1 x7_1 [.int .i64 x7_1] (fun _=>True) (fun _=>False) rfl rfl ?aP (fun _ hk=>hk.elim) ?aF ?aO ?aB ?aS ?aL ?_;(case aP=>exact rfl);(case aB=>exact (by repeat first | exact HB.out | apply zz2 | apply zz0 | apply zz1));(case aF=>exact (fun _ _=>trivial));(case aO=>exact (by (with_reducible repeat (first | apply zz12 | apply zz13 | apply zz14));exact HO_3.out));(case aS=>exact (zz5 (by repeat first | exact HB.out | apply zz2 | apply zz0 | apply zz1)));(case aL=>have:=LMc5.out;omega);intro v538 w6 ho hb hg hat;rw [← Ny537.out] at ho;have n0_:=zz31 (hb);have n1_:=zz31 (ho);clear HB;clear HO_3;have HB:=n0_;have HO539:=n1_;clear n0_ n1_;clear ho hb hg hat))
     go_roundg k1
     case measure=>have:=HK1.out;omega
     case rel=>exact ⟨(y537),(wrap64 (x7_1+1)),(by first | rfl | (simp;done) | (simp [*];done)),H',⟨by have:=HK1.out;omega⟩,⟨by (with_reducible repeat (first | apply zz12 | apply zz13 | apply zz14));exact HO539.out⟩,⟨by repeat first | exact HB.out | apply zz2 | apply zz0 | apply zz1⟩⟩
    ·rw [if_neg c5] at H
     exact absurd H (by simp)
   ·rw [if_neg c4] at H
    have c4b0:decide (x7_1 < a0)=false:=decide_eq_false c4
    clear c4
    obtain rfl:=Option.some.inj H
    go_wp2
    go_ret
    exact ⟨_,by first | rfl | (simp [errW_none,errW_some] <;> rfl) | (simp [*,errW_none,errW_some] <;> rfl),by (with_reducible repeat (first | apply zz12 | apply zz13 | apply zz14));exact HO_3.out,by repeat first | exact HB.out | apply zz2 | apply zz0 | apply zz1⟩

/-! ### impl_isPermutation: function 55 (a contract of our own) -/
def impl_isPermutation.f (k:Nat) (l0:List Int) (a1:Int):Option (Bool):=if l0.length≤17592186044416 then (impl_upTo.f k a1).bind fun u=>slices_Equal_int_int.f k (l0.mergeSort fun x y=>decide (x≤y)) u else none
theorem impl_isPermutation.mono:∀ a0 a1 k,LeO (impl_isPermutation.f k a0 a1) (impl_isPermutation.f (k+1) a0 a1):=by
 intro a0 a1 k
 unfold impl_isPermutation.f
 exact LeO.ite (LeO.bind (impl_upTo.mono _ _) fun u=>slices_Equal_int_int.mono _ _ _) (LeO.none _)
set_option maxHeartbeats 1000000 in
set_option maxRecDepth 100000 in
theorem impl_isPermutation.calls (k:Nat) (A0:Option Addr) (c0:Nat) (l0:List Int) (a1:Int) (r:Bool) (w:World) (hr0:Kd.C (Kd.int .i64) w A0 l0.length l0) (hc0:l0.length≤c0) (h:impl_isPermutation.f k l0 a1=some r) :
  Calls Tryd.prog 55 #[.slice A0 l0.length c0,.int .i64 a1] w fun e w'=>e=.returned (.bool r)∧Below w.heap.size w w':=by
 unfold impl_isPermutation.f at h
 by_cases hl:l0.length≤17592186044416
 case neg=>rw [if_neg hl] at h;exact absurd h (by simp)
 rw [if_pos hl] at h
 obtain ⟨u,hu,h⟩:=zz30.1 h
 have HC1:=zz31 (zz18 hr0 (.cells #[.slice A0 l0.length c0] 34))
 have HB1:=zz31 (zz2 (Below.refl w.heap.size w) (.cells #[.slice A0 l0.length c0] 34))
 have HL:=zz31 hl
 have HU:=zz31 hu
 obtain ⟨S,hS⟩:∃ S,S=l0.mergeSort fun x y=>decide (x≤y):=⟨_,rfl⟩
 rw [← hS] at h
 have HSE:=zz31 hS
 have HE:=zz31 h
 have HS1:Aside0 (w.heap.size < (w.alloc (.cells #[.slice A0 l0.length c0] 34)).heap.size):=⟨by simp⟩
 have HX1:=zz31 (show (w.alloc (.cells #[.slice A0 l0.length c0] 34)).cell? ⟨w.heap.size,0,none⟩=some (.slice A0 l0.length c0) from World.cell?_alloc_new w _ _ 0)
 clear hr0 hl hu h hS
 go_enter Tryd.func55,Tryd.ntmps55
 go_wp2_with (first | (go_at_call 78; refine (values_any A0 l0.length c0 w).mono ?_; rintro e w' ⟨rfl, rfl⟩) | (go_at_call 77; refine (sortedVals w.heap.size A0 c0 l0 _ HS1.out HX1.out HC1.out HL.out).mono ?_; rintro e w2 ⟨v2, rfl, ho, hb⟩; rw [← HSE.out] at ho; obtain ⟨A2, c2, rfl⟩ := Kd.R_slice ho; have HR2 := zz31 ho; have HB2 := zz31 (zz4 HB1.out hb); clear ho hb) | (go_at_call 79; refine (impl_upTo.calls k a1 u _ HU.out).mono ?_; rintro e w3 ⟨v3, rfl, ho, hb⟩; obtain ⟨A3, c3, rfl⟩ := Kd.R_slice ho; have HR3 := zz31 ho; have HR23 := zz31 (Kd.R_below HR2.out hb); have HB3 := zz31 (zz4 HB2.out hb); clear ho hb) | (go_at_call 76; refine (slices_Equal_int_int.calls k A2 c2 S A3 c3 u r _ (Kd.R_reads' HR23.out).2.2 (Kd.R_reads' HR23.out).2.1 (Kd.R_reads' HR3.out).2.2 (Kd.R_reads' HR3.out).2.1 HE.out).mono ?_; rintro e w4 ⟨rfl, hd⟩; obtain ⟨q, hq⟩ := hd.out; subst hq) | (fail "no arm"))
 refine bodyPost_ret (results_tmp rfl _ _ _) rfl ?_
 exact ⟨rfl,by repeat first | exact HB3.out | apply zz0 | apply below_drew⟩

-- NOT PRINTED: function 90 (bits_Mul32)

-- NOT PRINTED: function 91 (bits_Mul64)

-- NOT PRINTED: function 80 (bits_Mul)

/-! ### slices_Repeat_int_int: function 56 (a contract of our own) -/
theorem small13 (c:Nat) (h:c≤12):c=0 ∨ c=1 ∨ c=2 ∨ c=3 ∨ c=4 ∨ c=5 ∨ c=6 ∨ c=7 ∨ c=8 ∨ c=9 ∨ c=10 ∨ c=11 ∨ c=12:=by omega
set_option maxHeartbeats 4000000 in
set_option maxRecDepth 100000 in
theorem mul64_small (c:Nat) (hc:c≤12) (w:World):Calls Tryd.prog 91 #[.int .u64 1,.int .u64 (c:Int)] w fun e w'=>e=.returned (.tuple #[.int .u64 0,.int .u64 (c:Int)])∧w'=w:=by
 rcases small13 c hc with rfl | rfl | rfl | rfl | rfl | rfl | rfl | rfl | rfl | rfl | rfl | rfl | rfl
 all_goals
  go_enter Tryd.func91,Tryd.ntmps91
  go_wp2
  repeat (go_quiet (fail);try go_wp2)
  go_ret2
  exact ⟨rfl,rfl⟩
set_option maxHeartbeats 4000000 in
set_option maxRecDepth 100000 in
theorem mul_small (c:Nat) (hc:c≤12) (w:World):Calls Tryd.prog 80 #[.int .u64 1,.int .u64 (c:Int)] w fun e w'=>e=.returned (.tuple #[.int .u64 0,.int .u64 (c:Int)])∧w'=w:=by
 have HM:=zz31 (mul64_small c hc)
 have w64:IntKind.u64.wrap (c:Int)=(c:Int):=by rcases small13 c hc with rfl | rfl | rfl | rfl | rfl | rfl | rfl | rfl | rfl | rfl | rfl | rfl | rfl <;> rfl
 go_enter Tryd.func80,Tryd.ntmps80
 go_wp2_with (go_at_call 91;refine (HM.out _).mono ?_;rintro e w' ⟨rfl,rfl⟩)
 repeat (go_quiet (fail);try go_wp2)
 go_ret2
 exact ⟨rfl,rfl⟩
theorem take_splice_rep {α:Type} (cur:List α) (V Z:α) (n c m:Nat) (hm:n+m≤c) (hc:c≤cur.length) (h:cur.take c=List.replicate n V ++ List.replicate (c - n) Z) :
  (splice cur n (List.replicate m V)).take c=List.replicate (n+m) V ++ List.replicate (c - (n+m)) Z:=by
 have h1:cur.take n=List.replicate n V:=by
  have:(cur.take c).take n=cur.take n:=by rw [List.take_take];congr 1;omega
  rw [← this,h,List.take_append_of_le_length (by simp),List.take_of_length_le (by simp)]
 have h2:(cur.drop (n+m)).take (c - (n+m))=List.replicate (c - (n+m)) Z:=by
  have:(cur.take c).drop (n+m)=(cur.drop (n+m)).take (c - (n+m)):=by rw [List.drop_take]
  rw [← this,h,List.drop_append,List.drop_of_length_le (by simp),List.nil_append,List.drop_replicate]
  congr 1
  simp
  omega
 unfold splice
 rw [h1,List.length_replicate,← List.append_assoc,List.replicate_append_replicate,List.take_append,List.take_of_length_le (by simp;omega),List.length_replicate,h2]
theorem rep_some_ {α:Type} {m j:Nat} {x u:α} (h:(List.replicate m x)[j]?=some u):j < m∧x=u:=by
 rw [List.getElem?_replicate] at h
 split at h
 ·exact ⟨by assumption,Option.some.inj h⟩
 ·cases h
theorem R_shape_ {W:World} {base:Nat} {ok:Nat→Prop} {v:Value} {xs:List Int} {c:Nat} (h:(Kd.int .i64).R 3 W base ok v xs) (hc:xs.length=c):∃ A k,v=.slice A c k:=by
 obtain ⟨A,k,e⟩:=own_slice (Kd.own_of_R h)
 exact ⟨A,k,hc ▸ e⟩
theorem R_raw_ {W:World} {base:Nat} {ok:Nat→Prop} {A:Option Addr} {c k:Nat} {xs:List Int} (h:(Kd.int .i64).R 3 W base ok (.slice A c k) xs) (hp:0 < c) (hx:xs.length=c) :
  ∃ (g:Nat) (cur:List Value),A=some ⟨g,0,none⟩∧base≤g∧W.heap[g]?=some (.cells cur.toArray 3 (0,0))∧c≤k∧k≤maxLen∧cur.length=k∧cur.take c=xs.map (Value.int .i64):=by
 have ho:=Kd.own_of_R h
 rcases ho.2 with ⟨_,h0⟩ | ⟨g,cap,cur,hv,hb,hh,hn,hm,hs,ht⟩
 ·omega
 ·injection hv with e1 e2 e3
  subst e1 e3
  refine ⟨g,cur.toList,rfl,hb,by simpa using hh,by omega,hm,by simp;omega,?_⟩
  rw [← hx,← Nat.mul_one xs.length,ht]
  rfl
theorem R_back_ {W:World} {base:Nat} {c k g:Nat} {xs:List Int} {cur:List Value} (hb:base≤g) (hh:W.heap[g]?=some (.cells cur.toArray 3 (0,0))) (hn:c≤k) (hm:k≤maxLen) (hs:cur.length=k) (ht:cur.take c=xs.map (Value.int .i64)) (hx:xs.length=c) :
  (Kd.int .i64).R 3 W base (fun _=>True) (.slice (some ⟨g,0,none⟩) c k) xs:=by
 refine Kd.R_of_own (enc:=Value.int .i64) (h1:=fun _=>rfl) ?_ (fun _ _=>trivial)
 rw [hx]
 exact ⟨by simp [encs,hx],.inr ⟨g,k,cur.toArray,rfl,hb,hh,hn,hm,by simp [hs],by simp;rw [ht];rfl⟩⟩
def slices_Repeat_int_int.f (l0:List Int) (a1:Int):Option (List Int):=if l0.length=1∧0≤a1∧a1≤12 then some (List.replicate a1.toNat (rd l0 0)) else none
set_option maxHeartbeats 1500000 in
set_option maxRecDepth 100000 in
theorem slices_Repeat_int_int.calls (A0:Option Addr) (c0:Nat) (l0:List Int) (a1:Int) (r:List Int) (w:World) (hr0:Kd.C (Kd.int .i64) w A0 l0.length l0) (hc0:l0.length≤c0) (h:slices_Repeat_int_int.f l0 a1=some r) :
  Calls Tryd.prog 56 #[.slice A0 l0.length c0,.int .i64 a1] w fun e w'=>∃ v0_:Value,e=.returned (v0_)∧Kd.R (Kd.int .i64) 3 w' w.heap.size (fun _=>True) v0_ r∧Below w.heap.size w w':=by
 unfold slices_Repeat_int_int.f at h
 by_cases hh:l0.length=1∧0≤a1∧a1≤12
 case neg=>rw [if_neg hh] at h;exact absurd h (by simp)
 rw [if_pos hh] at h
 obtain rfl:=Option.some.inj h
 obtain ⟨h1,h2,h3⟩:=hh
 obtain ⟨c,rfl⟩:=Int.eq_ofNat_of_zero_le h2
 have hc:c≤12:=by omega
 clear h h2 h3
 obtain ⟨ad,e0,hx⟩:=Kd.at_int hr0 0 (by decide) (by omega)
 cases e0
 obtain ⟨v,hv⟩:∃ v,v=rd l0 0:=⟨_,rfl⟩
 rw [← hv] at hx ⊢
 have HV:=zz31 hv
 have HR:=zz31 hr0
 have HL:=zz31 h1
 have HR1:Aside0 (Kd.C (Kd.int .i64) w (some ad) 1 l0):=⟨by have h_:=hr0;rw [h1] at h_;exact h_⟩
 have HX:=zz31 hx
 have HC:=zz31 hc
 have HM:=zz31 (mul_small c hc)
 have w1_:IntKind.u64.wrap (c:Int)=(c:Int):=by rcases small13 c hc with rfl | rfl | rfl | rfl | rfl | rfl | rfl | rfl | rfl | rfl | rfl | rfl | rfl <;> rfl
 have w2_:IntKind.i64.wrap (c:Int)=(c:Int):=by rcases small13 c hc with rfl | rfl | rfl | rfl | rfl | rfl | rfl | rfl | rfl | rfl | rfl | rfl | rfl <;> rfl
 have w3_:IntKind.u64.wrap (1:Int)=1:=rfl
 have n1_:decide ((c:Int) < 0)=false:=decide_eq_false (by omega)
 have n2_:decide ((9223372036854775807:Int) < (c:Int))=false:=decide_eq_false (by omega)
 rw [h1]
 clear hr0 hc0 hv hx h1 hc
 go_enter Tryd.func56,Tryd.ntmps56
 go_wp2_with (first | (go_at_call 80;refine (HM.out _).mono ?_;rintro e w' ⟨rfl,hw_⟩;obtain rfl:=hw_.symm) | ((with_reducible refine gate_dst (N:=30) rfl ?_);refine Kd.R_make (Kd.int .i64) (w0:=w) w.heap.size 3 rfl (N:=30) rfl 34 _ _ rfl (c:Int) rfl rfl Tryd.underlying34 (.int .i64 0) 8 info3 rfl (by decide) (by omega) 0 (ok:=fun _=>True) (okp:=fun _=>True) rfl (fun _ hk=>hk) trivial (by omega) (by have:=HC.out;simp only [Int.toNat_natCast];omega) (Below.refl _ _) (Nat.le_refl _) ?_;intro vn wn hr hb hg_ hnew_;clear hg_ hnew_;simp only [Int.toNat_natCast] at hr;obtain ⟨An,kn,rfl⟩:=R_shape_ (c:=c) hr (by simp);have HO:=zz31 hr;have HB:=zz31 hb;clear hr hb) | ((with_reducible refine gate_dst (N:=33) rfl ?_);refine Kd.R_copy (enc:=Value.int .i64) (h1:=fun _=>rfl) (0:Int) (w0:=w) w.heap.size rfl (.tmp 31) (.tmp 32) 34 34 3 rfl Tryd.underlying34 (by kernel_rfl) (.slice An c kn) (List.replicate c (0:Int)) l0 (some ad) 1 c0 (fun _=>True) rfl rfl HO.out (Kd.C_below HR1.out (by repeat first | exact HB.out | apply zz0)) HB.out HB.out.size ?_;intro w3 hr3 hb3 hg3;clear hg3 HO HB;have HO:=zz31 hr3;have HB:=zz31 hb3;clear hr3 hb3))
 have hl0:l0=[v]:=by
  have e1:=HV.out
  have e2:=HL.out
  match l0,e2 with
  | [y],_=>rw [e1];rfl
 subst hl0
 have HS:Aside0 ((Kd.int .i64).R 3 w3 w.heap.size (fun _=>True) (.slice An c kn) (List.replicate (min 1 c) v ++ List.replicate (c - min 1 c) 0)):=⟨by
  have h_:=HO.out
  simp only [List.length_replicate,List.drop_replicate] at h_
  have e_:[v].take (min 1 c)=List.replicate (min 1 c) v:=by rcases Nat.lt_or_ge c 1 with hz | hz <;> simp [Nat.min_def] <;> split <;> simp_all
  rw [e_] at h_
  exact h_⟩
 clear HO
 go_loopg [8] c (fun gg s8 wr=>∃ n:Nat,n≤c∧c - n≤gg∧(0 < c→1≤n)∧s8=.int .i64 n∧Aside0 ((Kd.int .i64).R 3 wr w.heap.size (fun _=>True) (.slice An c kn) (List.replicate n v ++ List.replicate (c - n) 0))∧Aside0 (Below w.heap.size w wr))
 case atStart=>exact ⟨min 1 c,by omega,by omega,by omega,by simp,HS,⟨by repeat first | exact HB.out | apply zz0⟩⟩
 case round =>
  clear HS HB
  obtain ⟨n,hn,hg,hpos,rfl,HO,HB⟩:=hrel
  by_cases hlt:n < c
  ·have hltz:decide ((n:Int) < (c:Int))=true:=decide_eq_true (by omega)
   obtain ⟨g,cur,rfl,hbg,hh,hck,hkm,hcl,htk⟩:=R_raw_ HO.out (by omega) (by simp;omega)
   have d1:(0:Int)≤(n:Int):=by omega
   have d2:(n:Int)≤(c:Int):=by omega
   have d3:(c:Int)≤(kn:Int):=by omega
   have d4:(n:Int)≤(kn:Int):=by omega
   have hs:∀ j u,(List.replicate (min n (c - n)) (Value.int .i64 v))[j]?=some u→wr.cell? ⟨g,j,none⟩=some u:=by
    intro j u hu
    obtain ⟨hj,rfl⟩:=rep_some_ hu
    rw [cell_of_row wr g j cur.toArray 3 (0,0) hh]
    have hz:(cur.take c)[j]?=some (Value.int .i64 v):=by
     rw [htk,List.map_append,List.map_replicate,List.getElem?_append_left (by simp;omega)]
     simp [List.getElem?_replicate];omega
    rw [List.getElem?_take] at hz
    split at hz
    ·simpa using hz
    ·cases hz
   have HH:=zz31 hh
   have HCK:=zz31 hck
   go_wp2
   have hinf:(Tryd.prog.info? 3).map (·.size)=some 1:=by kernel_rfl
   have hkn:(kn=n)=False:=eq_false (by omega)
   have HINF:=zz31 hinf
   have HS2:=zz31 hs
   have HN:=zz31 hcl
   have z1:Aside0 ((List.replicate (min n (c - n)) (Value.int .i64 v)).length=Nat.min n (c - n)):=⟨by simp⟩
   have z2:Aside0 (n+(List.replicate (min n (c - n)) (Value.int .i64 v)).length≤cur.length):=⟨by simp;omega⟩
   have z3:Aside0 (∀ u ∈ List.replicate (min n (c - n)) (Value.int .i64 v),u.oneCell'=true):=⟨fun u hu=>by obtain ⟨_,rfl⟩:=List.mem_replicate.mp hu;rfl⟩
   have z4:Aside0 (∀ j u,(List.replicate (min n (c - n)) (Value.int .i64 v))[j]?=some u→wr.cell? ((⟨g,0,none⟩:Addr).add j)=some u):=⟨fun j u hu=>by
    have h_:=hs j u hu
    rcases Nat.eq_zero_or_pos j with rfl | hj
    ·simpa [Addr.add] using h_
    ·have hj0:j ≠ 0:=by omega
     simpa [Addr.add,hj0] using h_⟩
   have z5:Aside0 (Below w.heap.size w wr.drew):=⟨below_drew HB.out⟩
   clear hinf hs hcl
   go_region_law (refine step_copy_splice rfl (.tmp 41) (.tmp 44) 34 34 rfl 3 Tryd.underlying34 HINF.out (some ⟨g,n,none⟩) (some ⟨g,0,none⟩) (c - n) (kn - n) n kn (by simp [Act.eval,Act.put,hkn]) (by simp [Act.eval,Act.put]) g n cur 3 HH.out (List.replicate (min n (c - n)) (Value.int .i64 v)) z1.out (fun _=>⟨rfl,_,rfl,z4.out⟩) z2.out z3.out w.heap.size w z5.out hbg ?_;intro w4 hg4 hb4)
   have hg5:w4.heap[g]?=some (.cells (splice cur n (List.replicate (min n (c - n)) (Value.int .i64 v))).toArray 3 (0,0)):=hg4
   have htk2:cur.take c=List.replicate n (Value.int .i64 v) ++ List.replicate (c - n) (Value.int .i64 0):=by rw [htk,List.map_append,List.map_replicate,List.map_replicate]
   have HO2:=zz31 (R_back_ (xs:=List.replicate (n+min n (c - n)) v ++ List.replicate (c - (n+min n (c - n))) 0) hbg hg5 hck hkm (by rw [length_splice _ _ _ z2.out];exact HN.out) (by rw [take_splice_rep cur _ (Value.int .i64 0) n c (min n (c - n)) (by omega) (by rw [HN.out];exact hck) htk2,List.map_append,List.map_replicate,List.map_replicate]) (by simp;omega))
   have HB4:=zz31 hb4
   have hw:IntKind.i64.wrap ((n:Int)+((min n (c - n):Nat):Int))=((n+min n (c - n):Nat):Int):=by
    have h12:=HC.out
    rw [IntKind.wrap_i64]
    omega
   clear hg4 hg5 htk htk2 hb4 hh
   go_wp2
   go_roundg (c - (n+min n (c - n)))
   case measure=>omega
   case rel=>exact ⟨n+min n (c - n),by omega,by omega,by omega,by first | rfl | (simp [hw];done) | (simp;omega),HO2,⟨by repeat first | exact HB4.out | apply zz0⟩⟩
  ·have hltz:decide ((n:Int) < (c:Int))=false:=decide_eq_false (by omega)
   obtain rfl:n=c:=by omega
   go_wp2
   go_ret
   exact ⟨_,rfl,by simpa using HO.out,by repeat first | exact HB.out | apply zz0⟩

-- NOT PRINTED: function 59 (impl_GreedyColouring_1)

/-! ### impl_GreedyColouring: function 28 (a contract of our own) -/
/-- A function value answers p at the elements of a list, in every later world; it may draw. -/
def PredG (g:Nat) (lb:Array Value) (p:Int→Bool) (l:List Int) (w:World):Prop :=
 ∀ (W:World) (x:Int),x ∈ l→Below w.heap.size w W→Calls Tryd.prog g (#[.int .i64 x] ++ lb) W fun e w'=>e=.returned (.bool (p x))∧∃ q,w'=W.drewN q
def idxG (p:Int→Bool):List Int→Int
 | []=>-1
 | x :: xs=>if p x then 0 else if idxG p xs < 0 then -1 else idxG p xs+1
theorem idxG_hit (p:Int→Bool):∀ (xs:List Int) (k:Nat),k < xs.length→(∀ j,j < k→p (xs.getD j 0)=false)→p (xs.getD k 0)=true→idxG p xs=k
 | [],k,h,_,_=>by simp at h
 | x :: xs,0,_,_,hp=>by simp at hp;simp [idxG,hp]
 | x :: xs,k+1,h,hn,hp=>by
  have h0:=hn 0 (by omega)
  have ih:=idxG_hit p xs k (by simpa using h) (fun j hj=>by have:=hn (j+1) (by omega);simpa using this) (by simpa using hp)
  simp at h0
  simp [idxG,h0,ih];omega
theorem idxG_miss (p:Int→Bool):∀ (xs:List Int),(∀ j,j < xs.length→p (xs.getD j 0)=false)→idxG p xs=-1
 | [],_=>rfl
 | x :: xs,hn=>by
  have h0:=hn 0 (by simp)
  have ih:=idxG_miss p xs (fun j hj=>by have:=hn (j+1) (by simpa using hj);simpa using this)
  simp at h0
  simp [idxG,h0,ih]
theorem idxG_nonneg (p:Int→Bool) (xs:List Int):decide (0≤idxG p xs)=xs.any p:=by
 induction xs with
 | nil=>rfl
 | cons x xs ih =>
  simp only [idxG,List.any_cons,← ih]
  by_cases h:p x=true
  ·simp [h]
  ·by_cases h2:idxG p xs < 0
   ·have:¬ 0≤idxG p xs:=by omega
    simp [h,h2,this]
   ·have h3:0≤idxG p xs:=by omega
    have h4:0≤idxG p xs+1:=by omega
    simp [h,h2,h3,h4]
set_option maxHeartbeats 2000000 in
theorem idxG_with (p:Int→Bool) (g:Nat) (lb:Array Value) (eg:∀ args w,(callFunc g args).run Tryd.prog w=.ok (.enter g args) w) (A0:Option Addr) (c0:Nat) (l0:List Int) (w:World)
  (hp:PredG g lb p l0 w) (hr0:Kd.C (Kd.int .i64) w A0 l0.length l0) :
  Calls Tryd.prog 81 #[.slice A0 l0.length c0,.func (.func g) #[] lb] w fun e w'=>e=.returned (.int .i64 (idxG p l0))∧∃ q,w'=w.drewN q:=by
 have hpAt:∀ (x:Int) (q:Nat),x ∈ l0→Calls Tryd.prog g (#[.int .i64 x] ++ lb) (w.drewN q) fun e w'=>e=.returned (.bool (p x))∧∃ q',w'=(w.drewN q).drewN q':=fun x q hx=>hp _ x hx (zz0 (Below.refl _ w) q)
 have HR0:=zz31 hr0
 have hbig:l0.length≤9223372036854775807:=hr0.2.1
 clear hp hr0
 go_enter Tryd.func81,Tryd.ntmps81
 go_wp2
 go_loopg [5,8] l0.length (fun gg _ s8 wr=>∃ kk q:Nat,kk≤l0.length∧l0.length - kk≤gg∧s8=.int .i64 kk∧wr=w.drewN q∧Aside0 (∀ j,j < kk→p (l0.getD j 0)=false))
 case atStart=>exact ⟨0,0,Nat.zero_le _,by omega,rfl,rfl,⟨fun j hj=>absurd hj (Nat.not_lt_zero _)⟩⟩
 case round =>
  obtain ⟨kk,q,hkk,hg,rfl,rfl,A⟩:=hrel
  by_cases hlt:kk < l0.length
  ·have hltz:(kk:Int) < (l0.length:Int):=by omega
   obtain ⟨ad,e0,hcell⟩:=Kd.at_int HR0.out (kk:Int) (by omega) (by omega)
   cases e0
   have hcell':w.cell? (ad.add kk)=some (.int .i64 (rd l0 kk)):=hcell
   clear hcell
   obtain ⟨y,hy⟩:∃ y,y=rd l0 kk:=⟨_,rfl⟩
   have hym:y ∈ l0:=by
    rw [hy]
    unfold rd
    rw [Int.toNat_natCast,List.getD_eq_getElem?_getD,List.getElem?_eq_getElem hlt]
    exact List.getElem_mem hlt
   rw [← hy] at hcell'
   have B:Aside0 (l0.getD kk 0=y):=⟨hy.symm⟩
   clear hy
   have hcall:=fun q=>hpAt y q hym
   clear hym
   cases hq:p y with
   | true =>
    rw [hq] at hcall
    go_wp2_with (go_at_fn g;refine (hcall _).mono ?_;rintro e w' ⟨rfl,q',rfl⟩)
    go_ret
    refine ⟨?_,_,rfl⟩
    rw [idxG_hit p l0 kk hlt A.out (by rw [B.out];exact hq)]
    rfl
   | false =>
    rw [hq] at hcall
    go_wp2_with (go_at_fn g;refine (hcall _).mono ?_;rintro e w' ⟨rfl,q',rfl⟩)
    go_roundg (l0.length - (kk+1))
    case measure=>omega
    case rel =>
     refine ⟨kk+1,_,by omega,by omega,by go_num,rfl,⟨fun j hj=>?_⟩⟩
     by_cases e:j=kk
     ·subst e
      rw [B.out];exact hq
     ·exact A.out j (by omega)
  ·have hltz:¬ (kk:Int) < (l0.length:Int):=by omega
   have hkl:kk=l0.length:=by omega
   have A2:Aside0 (idxG p l0=-1):=⟨idxG_miss p l0 (by rw [← hkl];exact A.out)⟩
   clear hkl
   go_wp2
   go_ret
   refine ⟨?_,q,rfl⟩
   rw [A2.out]
   rfl
set_option maxHeartbeats 1000000 in
theorem hasG_with (p:Int→Bool) (g:Nat) (lb:Array Value) (eg:∀ args w,(callFunc g args).run Tryd.prog w=.ok (.enter g args) w) (A0:Option Addr) (c0:Nat) (l0:List Int) (w:World)
  (hp:PredG g lb p l0 w) (hr0:Kd.C (Kd.int .i64) w A0 l0.length l0) :
  Calls Tryd.prog 57 #[.slice A0 l0.length c0,.func (.func g) #[] lb] w fun e w'=>e=.returned (.bool (l0.any p))∧∃ q,w'=w.drewN q:=by
 rw [← idxG_nonneg]
 go_enter Tryd.func57,Tryd.ntmps57
 go_wp2_with (go_at_call 81;refine (idxG_with p g lb eg A0 c0 l0 _ hp hr0).mono ?_;rintro e w' ⟨rfl,q,rfl⟩)
 go_ret
 exact ⟨rfl,q,rfl⟩
set_option maxHeartbeats 2000000 in
set_option maxRecDepth 100000 in
theorem greedy_pred (bo bc:Nat) (Ao:Option Addr) (n co:Nat) (X:List Int) (c:Int) (w:World) (h1:w.heap[bo]?=some (.cells #[.slice Ao n co] 34 (0,0))) (h2:w.heap[bc]?=some (.cells #[.int .i64 c] 3 (0,0))) (hX:Kd.C (Kd.int .i64) w Ao n X) (L:List Int) (hL:∀ x ∈ L,0≤x∧x < (n:Int)) :
  PredG 59 #[.pointer (some ⟨bo,0,none⟩),.pointer (some ⟨bc,0,none⟩)] (fun x=>rd X x == c) L w:=fun W x hx hb=>by
 have f1:=zz9 (zz11 h1 hb) 0
 have f2:=zz9 (zz11 h2 hb) 0
 simp only [List.getElem?_toArray,List.getElem?_cons_zero] at f1 f2
 obtain ⟨x0,x1⟩:=hL x hx
 obtain ⟨ad,e0,hcell⟩:=Kd.at_int (Kd.C_below hX hb) x x0 x1
 subst e0
 clear h1 h2 hX hb hL hx
 show Calls Tryd.prog 59 #[.int .i64 x,.pointer (some ⟨bo,0,none⟩),.pointer (some ⟨bc,0,none⟩)] W _
 go_enter Tryd.func59,Tryd.ntmps59
 go_wp2
 go_still (by kernel_rfl)
 go_wp2
 go_ret
 exact ⟨rfl,_,rfl⟩
theorem C_one {W:World} {b:Nat} {x:Int} (h:W.heap[b]?=some (.cells #[.int .i64 x] 3 (0,0))):Kd.C (Kd.int .i64) W (some ⟨b,0,none⟩) 1 [x] :=
 Kd.C_of_reads (enc:=Value.int .i64) (h1:=fun _=>rfl) (d:=(0:Int)) ⟨rfl,by simp [maxLen],fun _=>⟨⟨b,0,none⟩,rfl,fun j hj=>by
  have hj0:j=0:=by simpa using hj
  subst hj0
  exact zz9 h 0⟩⟩
theorem blk_new2 (W:World) (p o:Obj):((W.alloc p).alloc o).heap[W.heap.size+1]?=some o:=by
 have h:=blk_new (W.alloc p) o
 rw [show (W.alloc p).heap.size=W.heap.size+1 from by simp] at h
 exact h
/-- What the colouring keeps: the row in its box, the table. -/
structure StG (w wr : World) (lim bo bt : Nat) (At : Option Addr) (ct : Nat) (t : List Int) (Ao : Option Addr) (co : Nat) (X : List Int) : Prop where
 box:wr.heap[bo]?=some (.cells #[.slice Ao X.length co] 34 (0,0))
 tab:Kd.R (Kd.int .u16) 72 wr w.heap.size (fun k=>(k < bt∧k ≠ bo)∧k < lim) (.slice At t.length ct) t
 row:Kd.R (Kd.int .i64) 3 wr bt (fun k=>k ≠ bo∧k < lim) (.slice Ao X.length co) X
 bel:Below w.heap.size w wr
 hbo:w.heap.size≤bo
 hlim:bo < lim
 hlt:lim≤wr.heap.size
 hbt:w.heap.size≤bt
theorem StG.below {w wr wr':World} {lim bo bt ct co:Nat} {At Ao:Option Addr} {t X:List Int} (h:StG w wr lim bo bt At ct t Ao co X) (hb:Below wr.heap.size wr wr'):StG w wr' lim bo bt At ct t Ao co X :=
 ⟨zz11 h.box hb,Kd.R_below h.tab hb,Kd.R_below h.row hb,zz4 h.bel hb,h.hbo,h.hlim,Nat.le_trans h.hlt hb.size,h.hbt⟩
theorem StG.far {w wr:World} {lim bo bt ct co:Nat} {At Ao:Option Addr} {t X:List Int} (h:StG w wr lim bo bt At ct t Ao co X) (bc i:Nat) (hc:lim≤bc) (u:Value):StG w (wr.setCell ⟨bc,i,none⟩ u) lim bo bt At ct t Ao co X:=by
 have h1:=h.hlim
 have h2:=h.hbo
 refine ⟨?_,Kd.R_far h.tab (fun k hk=>by have:=hk.2;show k ≠ bc;omega) u,Kd.R_far h.row (fun k hk=>by have:=hk.2;show k ≠ bc;omega) u,zz3 h.bel (by show w.heap.size≤bc;omega),h.hbo,h.hlim,?_,h.hbt⟩
 ·rw [Below.heap_setCell _ _ _ bo (by show bo ≠ bc;omega)];exact h.box
 ·have:=h.hlt;simpa [World.setCell] using this
theorem StG.relim {w wr:World} {lim lim' bo bt ct co:Nat} {At Ao:Option Addr} {t X:List Int} (h:StG w wr lim bo bt At ct t Ao co X) (h1:lim≤lim') (h2:lim'≤wr.heap.size):StG w wr lim' bo bt At ct t Ao co X :=
 ⟨h.box,Kd.R_mono h.tab (fun k hk=>⟨hk.1,by omega⟩),Kd.R_mono h.row (fun k hk=>⟨hk.1,by omega⟩),h.bel,h.hbo,Nat.lt_of_lt_of_le h.hlim h1,h2,h.hbt⟩
theorem StG.put {w wr:World} {lim bo bt ct co g:Nat} {At:Option Addr} {t X:List Int} (h:StG w wr lim bo bt At ct t (some ⟨g,0,none⟩) co X) (a v:Int):StG w (wr.setCell ⟨g,a.toNat,none⟩ (.int .i64 v)) lim bo bt At ct t (some ⟨g,0,none⟩) co (X.set a.toNat v):=by
 have hg:=h.row.1 g rfl
 have hgb:=Kd.R_base h.row g rfl
 have hp:=(Kd.R_putg h.row a v).1
 have h3:=h.hbt
 refine ⟨?_,Kd.R_far h.tab (fun k hk=>by have:=hk.1.1;show k ≠ g;omega) _,?_,zz3 h.bel (by show w.heap.size≤g;omega),h.hbo,h.hlim,?_,h.hbt⟩
 ·rw [List.length_set,Below.heap_setCell _ _ _ bo (by show bo ≠ g;have:=hg.1;omega)];exact h.box
 ·rw [List.length_set];exact hp
 ·have:=h.hlt;simpa [World.setCell] using this
theorem StG.start {w wd we:World} {base ct ce bo:Nat} {At Ae:Option Addr} {t X:List Int} (hN:we.heap[bo]?=some (.cells #[.slice none 0 0] 34 (0,0))) (hOd:Kd.R (Kd.int .u16) 72 wd base (fun _=>True) (.slice At t.length ct) t) (hOe:Kd.R (Kd.int .i64) 3 we wd.heap.size (fun _=>True) (.slice Ae X.length ce) X)
  (hD:Below wd.heap.size wd we) (hB:Below w.heap.size w wd) (hbase:w.heap.size≤base) (hbo:w.heap.size≤bo):StG w (we.setCell ⟨bo,0,none⟩ (.slice Ae X.length ce)) we.heap.size bo wd.heap.size At ct t Ae ce X:=by
 have h1:=Kd.R_types (Kd.R_below (Kd.R_bound hOd) hD) hN (by decide)
 have h2:=Kd.R_types (Kd.R_bound hOe) hN (by decide)
 have hlt:=blk_lt hN
 refine ⟨blk_set hN 0 _,Kd.R_mono (Kd.R_lower (Kd.R_far h1 (fun k hk=>hk.2) _) hbase) (fun k hk=>⟨⟨hk.1.2.2.1,hk.2⟩,by have:=hk.1.2.2.1;have:=hD.size;omega⟩),Kd.R_mono (Kd.R_far h2 (fun k hk=>hk.2) _) (fun k hk=>⟨hk.2,hk.1.2.2.1⟩),zz3 (zz4 hB hD) hbo,hbo,hlt,by simp [World.setCell],hB.size⟩
theorem StG.start2 {w wd we:World} {base ct ce:Nat} {At Ae:Option Addr} {t X:List Int} (hOd:Kd.R (Kd.int .u16) 72 wd base (fun _=>True) (.slice At t.length ct) t) (hOe:Kd.R (Kd.int .i64) 3 we wd.heap.size (fun _=>True) (.slice Ae X.length ce) X)
  (hD:Below wd.heap.size wd we) (hB:Below w.heap.size w wd) (hbase:w.heap.size≤base):StG w (we.alloc (.cells #[.slice Ae X.length ce] 34)) (we.heap.size+1) we.heap.size wd.heap.size At ct t Ae ce X:=by
 have hs:=hD.size
 have hs2:=hB.size
 refine ⟨blk_new we _,Kd.R_mono (Kd.R_lower (Kd.R_below (Kd.R_below (Kd.R_bound hOd) hD) (zz2 (Below.refl _ _) _)) hbase) (fun k hk=>by have:=hk.2.2.1;exact ⟨⟨this,by omega⟩,by omega⟩),Kd.R_mono (Kd.R_below (Kd.R_bound hOe) (zz2 (Below.refl _ _) _)) (fun k hk=>by have:=hk.2.2.1;exact ⟨by omega,by omega⟩),zz2 (zz4 hB hD) _,by omega,by omega,by simp,hs2⟩
def frc (L X:List Int):Nat→Int→Option Int
 | 0,_=>none
 | e+1,c=>if (L.any fun b=>rd X b == c)=true then frc L X e (c+1) else some c
def grd (t:List Int):List Int→List Int→Option (List Int)
 | [],X=>some X
 | a :: rest,X=>if 0≤a∧a < (t.length:Int)∧a < (X.length:Int) then (impl_listed.f 20 (rd t a)).bind fun L=>if (L.all fun b=>decide (0≤b) && decide (b < (X.length:Int)))=true then (frc L X 40 0).bind fun c=>grd t rest (X.set a.toNat c) else none else none
def impl_GreedyColouring.f (k:Nat) (a0_0:Int) (l0_1:List (S74)) (l1:List Int):Option (List Int × Bool) :=
 (impl_IsParty.f k a0_0 l0_1).bind fun ok=>if ok=true then (impl_isPermutation.f k l1 a0_0).bind fun pm=>if pm=true then (impl_Party_table.f k a0_0 l0_1).bind fun t=>(slices_Repeat_int_int.f [-1] a0_0).bind fun X=>(grd t l1 X).bind fun out=>some (out,true) else some ([],false) else some ([],false)
theorem impl_GreedyColouring.mono:∀ a0 a1 a2 k,LeO (impl_GreedyColouring.f k a0 a1 a2) (impl_GreedyColouring.f (k+1) a0 a1 a2):=by
 intro a0 a1 a2 k
 unfold impl_GreedyColouring.f
 exact LeO.bind (impl_IsParty.mono _ _ _) fun ok=>LeO.ite (LeO.bind (impl_isPermutation.mono _ _ _) fun pm=>LeO.ite (LeO.bind (impl_Party_table.mono _ _ _) fun t=>LeO.refl _) (LeO.refl _)) (LeO.refl _)
set_option maxHeartbeats 8000000 in
set_option maxRecDepth 100000 in
theorem impl_GreedyColouring.calls (k:Nat) (a0_0:Int) (A0_1:Option Addr) (c0_1:Nat) (l0_1:List (S74)) (A1:Option Addr) (c1:Nat) (l1:List Int) (r1:List Int) (r2:Bool) (w:World) (hr0_1:Kd.C k74 w A0_1 l0_1.length l0_1) (hc0_1:l0_1.length≤c0_1) (hr1:Kd.C (Kd.int .i64) w A1 l1.length l1) (hc1:l1.length≤c1) (h:impl_GreedyColouring.f k a0_0 l0_1 l1=some (r1,r2)) (hT:Tz w) :
  Calls Tryd.prog 28 #[.agg #[.int .i64 a0_0,.slice A0_1 l0_1.length c0_1],.slice A1 l1.length c1] w fun e w'=>∃ v0_:Value,e=.returned (.tuple #[v0_,.bool r2])∧Kd.R (Kd.int .i64) 3 w' w.heap.size (fun _=>True) v0_ r1∧Below w.heap.size w w':=by
 have hu:=Tryd.underlying30
 have eg:∀ args w,(callFunc 59 args).run Tryd.prog w=.ok (.enter 59 args) w:=enters_of Tryd.func59 (by kernel_rfl) rfl
 unfold impl_GreedyColouring.f at h
 obtain ⟨ok,hok,h⟩:=zz30.1 h
 have HOK:=zz31 hok
 have HC:=zz31 hr0_1
 have HCC:=zz31 hc0_1
 have HD:=zz31 hr1
 have HDD:=zz31 hc1
 have HTZ:=zz31 hT
 clear hok hr0_1 hc0_1 hr1 hc1 hT
 cases ok with
 | false =>
  simp only [Bool.false_eq_true,if_false,Option.some.injEq,Prod.mk.injEq] at h
  obtain ⟨rfl,rfl⟩:=h
  go_enter Tryd.func28,Tryd.ntmps28
  go_wp2_with (first | ((with_reducible refine gate_dst (N := 2) rfl ?_); refine box_event ?hg (N := 2) ?hd (cs := #[.int .i64 a0_0, .slice A0_1 l0_1.length c0_1]) (t := 30) ?hr ?_; (case hd => rfl); (case hg => rfl); (case hr => first | (go_simp; done) | (go_simp; rfl)); intro gb hg wa hbox hb; have HXa := zz31 hbox; have HBa := zz31 (zz4 (w := w) (by repeat (first | exact Below.refl _ _ | apply zz0 | apply below_drew | apply zz2)) hb); have HCa := zz31 (Kd.C_below HC.out HBa.out); have f1 := zz9 HXa.out 0; have f2 := zz9 HXa.out 1; simp only [List.getElem?_toArray, List.getElem?_cons_zero, List.getElem?_cons_succ] at f1 f2; clear hbox hb hg) | (go_at_call 35; (with_reducible refine (impl_IsParty.calls k a0_0 A0_1 c0_1 l0_1 false wa HCa.out HCC.out HOK.out).mono ?_); rintro e wb ⟨rfl, hb⟩; have HBb := zz31 (zz4 HBa.out hb); clear hb) | (fail "no arm"))
  refine bodyPost_ret (results_tmp2 rfl _ _ _) rfl ?_
  exact ⟨_,rfl,Kd.R_nil _ _ _ _ _,by repeat first | exact HBb.out | apply zz0 | apply below_drew⟩
 | true =>
  rw [if_pos rfl] at h
  replace h:=zz30.1 h
  obtain ⟨pm,hpm,h⟩:=h
  have HPM:=zz31 hpm
  clear hpm
  cases pm with
  | false =>
   simp only [Bool.false_eq_true,if_false,Option.some.injEq,Prod.mk.injEq] at h
   obtain ⟨rfl,rfl⟩:=h
   go_enter Tryd.func28,Tryd.ntmps28
   go_wp2_with (first | ((with_reducible refine gate_dst (N := 2) rfl ?_); refine box_event ?hg (N := 2) ?hd (cs := #[.int .i64 a0_0, .slice A0_1 l0_1.length c0_1]) (t := 30) ?hr ?_; (case hd => rfl); (case hg => rfl); (case hr => first | (go_simp; done) | (go_simp; rfl)); intro gb hg wa hbox hb; have HXa := zz31 hbox; have HBa := zz31 (zz4 (w := w) (by repeat (first | exact Below.refl _ _ | apply zz0 | apply below_drew | apply zz2)) hb); have HCa := zz31 (Kd.C_below HC.out HBa.out); have f1 := zz9 HXa.out 0; have f2 := zz9 HXa.out 1; simp only [List.getElem?_toArray, List.getElem?_cons_zero, List.getElem?_cons_succ] at f1 f2; clear hbox hb hg) | (go_at_call 35; (with_reducible refine (impl_IsParty.calls k a0_0 A0_1 c0_1 l0_1 true wa HCa.out HCC.out HOK.out).mono ?_); rintro e wb ⟨rfl, hb⟩; have HBb := zz31 (zz4 HBa.out hb); have HXb := zz31 (zz11 HXa.out hb); have HCb := zz31 (Kd.C_below HCa.out hb); have HDb := zz31 (Kd.C_below HD.out HBb.out); clear hb f1 f2; have f1 := zz9 HXb.out 0; have f2 := zz9 HXb.out 1; simp only [List.getElem?_toArray, List.getElem?_cons_zero, List.getElem?_cons_succ] at f1 f2) | (go_at_call 55; (with_reducible refine (impl_isPermutation.calls k A1 c1 l1 a0_0 false wb HDb.out HDD.out HPM.out).mono ?_); rintro e wc ⟨rfl, hb⟩; have HBc := zz31 (zz4 HBb.out hb); clear hb) | (fail "no arm"))
   refine bodyPost_ret (results_tmp2 rfl _ _ _) rfl ?_
   exact ⟨_,rfl,Kd.R_nil _ _ _ _ _,by repeat first | exact HBc.out | apply zz0 | apply below_drew⟩
  | true =>
   rw [if_pos rfl] at h
   replace h:=zz30.1 h
   obtain ⟨t,ht,h⟩:=h
   replace h:=zz30.1 h
   obtain ⟨X0,hX0,h⟩:=h
   replace h:=zz30.1 h
   obtain ⟨out,hout,h⟩:=h
   simp only [Option.some.injEq,Prod.mk.injEq] at h
   obtain ⟨rfl,rfl⟩:=h
   have HTT:=zz31 ht
   have HX0:=zz31 hX0
   have HOUT:=zz31 hout
   clear ht hX0 hout
   go_enter Tryd.func28,Tryd.ntmps28
   go_wp2_with (first | ((with_reducible refine gate_dst (N := 2) rfl ?_); refine box_event ?hg (N := 2) ?hd (cs := #[.int .i64 a0_0, .slice A0_1 l0_1.length c0_1]) (t := 30) ?hr ?_; (case hd => rfl); (case hg => rfl); (case hr => first | (go_simp; done) | (go_simp; rfl)); intro gb hg wa hbox hb; have HXa := zz31 hbox; have HBa := zz31 (zz4 (w := w) (by repeat (first | exact Below.refl _ _ | apply zz0 | apply below_drew | apply zz2)) hb); have HCa := zz31 (Kd.C_below HC.out HBa.out); have f1 := zz9 HXa.out 0; have f2 := zz9 HXa.out 1; simp only [List.getElem?_toArray, List.getElem?_cons_zero, List.getElem?_cons_succ] at f1 f2; clear hbox hb hg) | (go_at_call 35; (with_reducible refine (impl_IsParty.calls k a0_0 A0_1 c0_1 l0_1 true wa HCa.out HCC.out HOK.out).mono ?_); rintro e wb ⟨rfl, hb⟩; have HBb := zz31 (zz4 HBa.out hb); have HXb := zz31 (zz11 HXa.out hb); have HCb := zz31 (Kd.C_below HCa.out hb); have HDb := zz31 (Kd.C_below HD.out HBb.out); clear hb f1 f2; have f1 := zz9 HXb.out 0; have f2 := zz9 HXb.out 1; simp only [List.getElem?_toArray, List.getElem?_cons_zero, List.getElem?_cons_succ] at f1 f2) | (go_at_call 55; (with_reducible refine (impl_isPermutation.calls k A1 c1 l1 a0_0 true wb HDb.out HDD.out HPM.out).mono ?_); rintro e wc ⟨rfl, hb⟩; have HBc := zz31 (zz4 HBb.out hb); have HXc := zz31 (zz11 HXb.out hb); have HCc := zz31 (Kd.C_below HCb.out hb); clear hb f1 f2; have f1 := zz9 HXc.out 0; have f2 := zz9 HXc.out 1; simp only [List.getElem?_toArray, List.getElem?_cons_zero, List.getElem?_cons_succ] at f1 f2) | (fail "no arm"))
   have EG:=zz31 eg
   clear hu eg
   have hX0:=HX0.out
   unfold slices_Repeat_int_int.f at hX0
   by_cases hn12:([-1]:List Int).length=1∧0≤a0_0∧a0_0≤12
   case neg=>rw [if_neg hn12] at hX0;exact absurd hX0 (by simp)
   clear hX0
   go_upto_region 3 with (fail)
   go_cut [6,7] from 11 (fun v6 v7 wq=>∃ (At Ao:Option Addr) (ct co bo bt lim:Nat),v6=.slice At t.length ct∧v7=.pointer (some ⟨bo,0,none⟩)∧Aside0 (StG w wq lim bo bt At ct t Ao co X0))
   case first =>
    have HGB:=zz31 (blk_lt HXc.out)
    go_region_held3 (fun w' => w'.cell? ⟨gb, 0, none⟩ = some (.int .i64 a0_0) ∧ w'.cell? ⟨gb, 1, none⟩ = some (.slice A0_1 l0_1.length c0_1)) (first | go_keep | exact ⟨zz9 HXe.out 0, zz9 HXe.out 1⟩ | exact ⟨zz9 HXd.out 0, zz9 HXd.out 1⟩ | exact ⟨zz9 (zz8 HXe.out _) 0, zz9 (zz8 HXe.out _) 1⟩ | exact ⟨zz9 (blk_far HXe.out (by have := HGB.out; have := HSd.out; dsimp only; omega) _) 0, zz9 (blk_far HXe.out (by have := HGB.out; have := HSd.out; dsimp only; omega) _) 1⟩) (first | (go_at_call 37; refine (impl_Party_table.calls k a0_0 A0_1 c0_1 l0_1 t _ ?_ HCC.out HTT.out).mono ?_; (repeat (first | exact HCc.out | (with_reducible refine zz18 ?_ _) | (with_reducible refine zz19 ?_ _) | (with_reducible refine zz20 ?_))); rintro e wd ⟨vd, rfl, ho, hb⟩; obtain ⟨At, ct, rfl⟩ := Kd.R_slice ho; have HOd := zz31 ho; have HBd := zz31 (zz4 (w := w) (by repeat (first | exact HBc.out | apply zz0 | apply below_drew | apply zz2)) hb); have HSd := zz31 (show wc.heap.size ≤ wd.heap.size from by first | exact hb.size | (have h9 := hb.size; simp at h9; omega)); have HPd := zz31 (fun (g : Nat) (o : Obj) (hg : _) => zz11 (g := g) (o := o) hg hb); have HXd := zz31 (HPd.out gb (.cells #[.int .i64 a0_0, .slice A0_1 l0_1.length c0_1] 30) (by (with_reducible repeat (first | refine zz6 ?_ _ | refine zz7 ?_ | refine zz8 ?_ _)); exact HXc.out)); (first | (have HM := zz31 (HPd.out wc.heap.size (.cells #[.slice none 0 0] 34) (by (with_reducible repeat (first | refine zz6 ?_ _ | refine zz7 ?_)); first | first | exact blk_new _ _ | exact blk_new2 _ _ _ | (refine zz8 ?_ _; (with_reducible repeat (first | refine zz6 ?_ _ | refine zz7 ?_)); first | exact blk_new _ _ | exact blk_new2 _ _ _)))) | (have HM := zz31 (HPd.out (wc.heap.size + 1) (.cells #[.slice none 0 0] 34) (by (with_reducible repeat (first | refine zz6 ?_ _ | refine zz7 ?_)); first | first | exact blk_new _ _ | exact blk_new2 _ _ _ | (refine zz8 ?_ _; (with_reducible repeat (first | refine zz6 ?_ _ | refine zz7 ?_)); first | exact blk_new _ _ | exact blk_new2 _ _ _)))) | skip); clear ho hb) | (go_at_call 56; refine (slices_Repeat_int_int.calls _ 1 [-1] a0_0 X0 _ (C_one (by (with_reducible repeat (first | refine zz6 ?_ _ | refine zz7 ?_)); first | first | exact blk_new _ _ | exact blk_new2 _ _ _ | (refine zz8 ?_ _; (with_reducible repeat (first | refine zz6 ?_ _ | refine zz7 ?_)); first | exact blk_new _ _ | exact blk_new2 _ _ _) | exact HPd.out _ _ (by (with_reducible repeat (first | refine zz6 ?_ _ | refine zz7 ?_)); first | first | exact blk_new _ _ | exact blk_new2 _ _ _ | (refine zz8 ?_ _; (with_reducible repeat (first | refine zz6 ?_ _ | refine zz7 ?_)); first | exact blk_new _ _ | exact blk_new2 _ _ _)) | (refine zz8 ?_ _; (with_reducible repeat (first | refine zz6 ?_ _ | refine zz7 ?_)); exact HPd.out _ _ (by (with_reducible repeat (first | refine zz6 ?_ _ | refine zz7 ?_)); first | first | exact blk_new _ _ | exact blk_new2 _ _ _ | (refine zz8 ?_ _; (with_reducible repeat (first | refine zz6 ?_ _ | refine zz7 ?_)); first | exact blk_new _ _ | exact blk_new2 _ _ _))))) (Nat.le_refl _) HX0.out).mono ?_; rintro e we ⟨ve, rfl, ho, hb⟩; obtain ⟨Ae, ce, rfl⟩ := Kd.R_slice ho; have HOe := zz31 (Kd.R_lower ho (show wd.heap.size ≤ _ from (by first | exact Nat.le_refl _ | (simp; done) | (simp; omega))));  have HDe := zz31 (zz4 (w := wd) (by repeat (first | exact Below.refl _ _ | apply zz0 | apply below_drew | apply zz2)) hb); have HPe := (fun (g : Nat) (o : Obj) (hg : _) => zz11 (g := g) (o := o) hg hb); have HXe := zz31 (HPe gb (.cells #[.int .i64 a0_0, .slice A0_1 l0_1.length c0_1] 30) (by (with_reducible repeat (first | refine zz6 ?_ _ | refine zz7 ?_ | refine zz8 ?_ _)); exact HXd.out)); (first | (have HN := HPe wd.heap.size (.cells #[.slice none 0 0] 34) (by (with_reducible repeat (first | refine zz6 ?_ _ | refine zz7 ?_)); first | first | exact blk_new _ _ | exact blk_new2 _ _ _ | (refine zz8 ?_ _; (with_reducible repeat (first | refine zz6 ?_ _ | refine zz7 ?_)); first | exact blk_new _ _ | exact blk_new2 _ _ _)); have g6 := zz9 HN 0; have g7 := zz10 HN 0; simp only [List.getElem?_toArray, List.getElem?_cons_zero] at g6; replace HN := zz31 HN) | (have HN := HPe (wd.heap.size + 1) (.cells #[.slice none 0 0] 34) (by (with_reducible repeat (first | refine zz6 ?_ _ | refine zz7 ?_)); first | first | exact blk_new _ _ | exact blk_new2 _ _ _ | (refine zz8 ?_ _; (with_reducible repeat (first | refine zz6 ?_ _ | refine zz7 ?_)); first | exact blk_new _ _ | exact blk_new2 _ _ _)); have g6 := zz9 HN 0; have g7 := zz10 HN 0; simp only [List.getElem?_toArray, List.getElem?_cons_zero] at g6; replace HN := zz31 HN) | (have HN := HPe wc.heap.size (.cells #[.slice none 0 0] 34) (by (with_reducible repeat (first | refine zz6 ?_ _ | refine zz7 ?_ | refine zz8 ?_ _)); exact HM.out); have g6 := zz9 HN 0; have g7 := zz10 HN 0; simp only [List.getElem?_toArray, List.getElem?_cons_zero] at g6; replace HN := zz31 HN) | (have HN := HPe (wc.heap.size + 1) (.cells #[.slice none 0 0] 34) (by (with_reducible repeat (first | refine zz6 ?_ _ | refine zz7 ?_ | refine zz8 ?_ _)); exact HM.out); have g6 := zz9 HN 0; have g7 := zz10 HN 0; simp only [List.getElem?_toArray, List.getElem?_cons_zero] at g6; replace HN := zz31 HN) | skip); clear ho hb HPe) | (fail "no arm"))
    all_goals
     go_wp2_with fail
     go_meet
     case rel=>first | exact ⟨At,Ae,ct,ce,_,_,_,rfl,rfl,⟨StG.start HN.out HOd.out HOe.out HDe.out HBd.out (by first | exact HBc.out.size | (simp;have:=HBc.out.size;omega)) (by have:=HBc.out.size;have:=HBd.out.size;omega)⟩⟩ | exact ⟨At,Ae,ct,ce,_,_,_,rfl,rfl,⟨StG.start2 HOd.out HOe.out HDe.out HBd.out (by first | exact HBc.out.size | (simp;have:=HBc.out.size;omega))⟩⟩
   case rest =>
    obtain ⟨At,Ao,ct,co,bo,bt,lim0,rfl,rfl,HS0⟩:=hcut
    have hl1:=HD.out.2.1
    clear f1 f2 HXb HXc HCb HCc HDb HBb HBc HBa HCa HXa HX0 HTT
    go_wp2
    go_loopg [29] l1.length (fun gg v29 wr=>∃ (j lim:Nat) (X:List Int),j≤l1.length∧l1.length - j≤gg∧v29=.int .i64 j∧Aside0 (grd t (l1.drop j) X=some out)∧Aside0 (StG w wr lim bo bt At ct t Ao co X))
    case atStart=>exact ⟨0,_,_,Nat.zero_le _,Nat.le_refl _,rfl,⟨by rw [List.drop_zero];exact HOUT.out⟩,HS0⟩
    case round =>
     clear HOUT HS0
     obtain ⟨j,lim,X,hj,hgg,rfl,HG,HSt⟩:=hrel
     by_cases hlt:j < l1.length
     ·have hltz:(j:Int) < (l1.length:Int):=by omega
      obtain ⟨ad1,e1,hx1⟩:=Kd.at_int (Kd.C_below HD.out HSt.out.bel) (j:Int) (by omega) hltz
      subst e1
      rw [Int.toNat_natCast] at hx1
      obtain ⟨a,ha⟩:∃ a,a=rd l1 (j:Int):=⟨_,rfl⟩
      have hdr:l1.drop j=a :: l1.drop (j+1):=by
       rw [List.drop_eq_getElem_cons hlt,ha]
       unfold rd
       rw [Int.toNat_natCast,List.getD_eq_getElem?_getD,List.getElem?_eq_getElem hlt];rfl
      have hg:=HG.out
      rw [hdr,grd] at hg
      by_cases hc:0≤a∧a < (t.length:Int)∧a < (X.length:Int)
      case neg=>rw [if_neg hc] at hg;exact absurd hg (by simp)
      rw [if_pos hc] at hg
      replace hg:=zz30.1 hg
      obtain ⟨L,hL,hg⟩:=hg
      by_cases hall:(L.all fun b=>decide (0≤b) && decide (b < (X.length:Int)))=true
      case neg=>rw [if_neg hall] at hg;exact absurd hg (by simp)
      rw [if_pos hall] at hg
      replace hg:=zz30.1 hg
      obtain ⟨c,hfr,hg⟩:=hg
      rw [← ha] at hx1
      obtain ⟨hc0,hc1,hc2⟩:=hc
      have HIN:=zz31 (show ∀ x ∈ L,0≤x∧x < (X.length:Int) from fun x hx=>by
       have:=List.all_eq_true.1 hall x hx
       simpa using this)
      have HL:=zz31 hL
      have HFR:=zz31 hfr
      have HNX:=zz31 hg
      clear hall hL hfr hg ha hdr HG
      have hsz:lim≤wr.heap.size:=HSt.out.hlt
      have HS1:=zz31 ((HSt.out.relim hsz (Nat.le_refl _)).below (zz2 (Below.refl _ _) (.cells #[.int .i64 0] 3)))
      have HC1:=zz31 (blk_new wr (.cells #[.int .i64 0] 3))
      clear HSt hsz
      go_wp2
      obtain ⟨wo,hwo⟩:∃ wo:World,wo=wr:=⟨_,rfl⟩
      subst hwo
      go_loopg [] 41 (fun gg wi=>∃ e cc:Nat,e≤gg∧e+cc=40∧Aside0 (frc L X e (cc:Int)=some c)∧Aside0 (wi.heap[wo.heap.size]?=some (.cells #[.int .i64 cc] 3 (0,0)))∧Aside0 (StG w wi wo.heap.size bo bt At ct t Ao co X))
      case atStart=>exact ⟨40,0,by omega,rfl,HFR,HC1,HS1⟩
      case round =>
       clear HFR HC1 HS1
       obtain ⟨e,cc,he,hec,HFR,HCc,HSi⟩:=hrel
       cases e with
       | zero=>exact absurd HFR.out (by simp [frc])
       | succ e =>
        have hfr:=HFR.out
        rw [frc] at hfr
        obtain ⟨b,hb⟩:∃ b,b=L.any fun x=>rd X x == (cc:Int):=⟨_,rfl⟩
        rw [← hb] at hfr
        have HF2:=zz31 hfr
        have HBE:=zz31 hb
        clear hfr hb HFR
        obtain ⟨adt,e2,hx2⟩:=Kd.at_int (Kd.R_reads' HSi.out.tab).2.2 a hc0 hc1
        subst e2
        cases b with
        | true =>
         go_wp2_with (first | (go_at_call 58; refine (impl_listed.calls 20 (rd t a) L wr HL.out (HTZ.out.below HSi.out.bel)).mono ?_; rintro e' w5 ⟨v5, rfl, ho, hb5⟩; obtain ⟨A5, c5, rfl⟩ := Kd.R_slice ho; have HR5 := zz31 (Kd.R_reads' ho).2.2; have HS5 := zz31 (HSi.out.below hb5); have HC5 := zz31 (zz11 HCc.out hb5); clear ho hb5) | (go_at_call 57; refine (hasG_with (fun x => rd X x == (cc : Int)) 59 #[.pointer (some ⟨bo, 0, none⟩), .pointer (some ⟨wo.heap.size, 0, none⟩)] EG.out A5 c5 L w5 (greedy_pred bo wo.heap.size Ao X.length co X (cc : Int) w5 HS5.out.box HC5.out (Kd.R_reads' HS5.out.row).2.2 L HIN.out) HR5.out).mono ?_; rintro e' w' ⟨rfl, q, rfl⟩; rw [← HBE.out]; have f3 := zz9 (zz6 HC5.out q) 0; have f4 := zz10 (zz6 HC5.out q) 0; have f5 := zz9 (zz6 HS5.out.box q) 0; simp only [List.getElem?_toArray, List.getElem?_cons_zero] at f3 f5) | (fail "no arm"))
         go_roundg e
         case measure=>omega
         case rel=>exact ⟨e,cc+1,Nat.le_refl _,by omega,⟨by simpa using HF2.out⟩,⟨blk_set (zz6 HC5.out q) 0 _⟩,⟨(HS5.out.below (zz0 (Below.refl _ _) q)).far wo.heap.size 0 (Nat.le_refl _) _⟩⟩
        | false =>
         have h9:=HF2.out
         simp only [Bool.false_eq_true,if_false] at h9
         injection h9 with h9
         subst h9
         obtain ⟨g,cap,eV,gb1,gl1,_⟩:=Kd.R_form HSi.out.row (by omega)
         injection eV with eA
         subst eA
         clear gb1 gl1
         go_wp2_with (first | (go_at_call 58; refine (impl_listed.calls 20 (rd t a) L wr HL.out (HTZ.out.below HSi.out.bel)).mono ?_; rintro e' w5 ⟨v5, rfl, ho, hb5⟩; obtain ⟨A5, c5, rfl⟩ := Kd.R_slice ho; have HR5 := zz31 (Kd.R_reads' ho).2.2; have HS5 := zz31 (HSi.out.below hb5); have HC5 := zz31 (zz11 HCc.out hb5); clear ho hb5) | (go_at_call 57; refine (hasG_with (fun x => rd X x == (cc : Int)) 59 #[.pointer (some ⟨bo, 0, none⟩), .pointer (some ⟨wo.heap.size, 0, none⟩)] EG.out A5 c5 L w5 (greedy_pred bo wo.heap.size (some ⟨g, 0, none⟩) X.length co X (cc : Int) w5 HS5.out.box HC5.out (Kd.R_reads' HS5.out.row).2.2 L HIN.out) HR5.out).mono ?_; rintro e' w' ⟨rfl, q, rfl⟩; rw [← HBE.out]; have f3 := zz9 (zz6 HC5.out q) 0; have f4 := zz10 (zz6 HC5.out q) 0; have f5 := zz9 (zz6 HS5.out.box q) 0; simp only [List.getElem?_toArray, List.getElem?_cons_zero] at f3 f5; have hrc := Kd.R_celln (0 : Int) (Kd.R_below HS5.out.row (zz0 (Below.refl _ _) q)) a hc0 hc2; obtain ⟨f6, f7⟩ := hrc) | (fail "no arm"))
         have HS6:=zz31 ((HS5.out.below (zz0 (Below.refl _ _) q)).put a (cc:Int))
         go_roundg (l1.length - (j+1))
         case measure=>omega
         case rel=>exact ⟨j+1,_,_,by omega,by omega,by go_num,HNX,HS6⟩
     ·have hltz:¬ (j:Int) < (l1.length:Int):=by omega
      obtain rfl:j=l1.length:=by omega
      have hg:=HG.out
      rw [List.drop_length,grd] at hg
      injection hg with hg
      subst hg
      have f1:=zz9 HSt.out.box 0
      simp only [List.getElem?_toArray,List.getElem?_cons_zero] at f1
      go_wp2
      refine bodyPost_ret (results_tmp2 rfl _ _ _) rfl ?_
      exact ⟨_,rfl,Kd.R_mono (Kd.R_lower HSt.out.row HSt.out.hbt) (fun _ _=>trivial),HSt.out.bel⟩

end Go.Proofs.YtifkaefccghgdaaDoor.P
