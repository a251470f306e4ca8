-- PRINTED by print.py (a twelfth state) out of the translation. Not trusted: Lean checks it.
import Derived.Test.YtifkaefccghgdaaPx0
import Derived.Test.YtifkaefccghgdaaPx1
import Derived.Test.YtifkaefccghgdaaPx3
import Derived.Test.YtifkaefccghgdaaPx4
import Derived.Test.YtifkaefccghgdaaPx5
namespace Go.Proofs.Ytifkaefccghgdaa.P
open Go.RowKit Go.Proofs.YtifkaefccghgdaaW.PrintWords Go.Proofs.YtifkaefccghgdaaW.PrintLast Go.Proofs.YtifkaefccghgdaaW.PrintMore
attribute [local go_sem] max2_int min2_int max_two min_two max_three min_three max_four min_four   -- for this text's walks alone
set_option linter.unusedVariables false
set_option linter.unusedSimpArgs false

/-! ### spec_l1Rising: function 60 -/
def spec_l1Rising.l0:Nat→List Int→Int→Int→List Int→Int→Int→Option (Bool)
 | 0,_,_,_,_,_,_=>none
 | k+1,x0,x1,x2,x9,x10,x11=>if x11 < x10 then (if 0≤x11 then (if x11 < (x9.length:Int) then ((spec_l1In.f (rd x9 x11) x1 x2).bind fun t132=>(if t132=true then (if x11 > 0 then (if 0≤(wrap64 (x11 - 1)) then (if (wrap64 (x11 - 1)) < (x0.length:Int) then (if (rd x0 (wrap64 (x11 - 1))) ≥ (rd x9 x11) then (some false) else (spec_l1Rising.l0 k x0 x1 x2 x9 x10 (wrap64 (x11+1)))) else (none)) else (none)) else (spec_l1Rising.l0 k x0 x1 x2 x9 x10 (wrap64 (x11+1)))) else (some false))) else (none)) else (none)) else (some true)
def spec_l1Rising.f (k:Nat) (l0:List Int) (a1:Int) (a2:Int):Option (Bool):=spec_l1Rising.l0 k l0 a1 a2 l0 (l0.length:Int) 0
theorem spec_l1Rising.mono_l:∀ k,(∀ y0 y1 y2 y3 y4 y5,LeO (spec_l1Rising.l0 k y0 y1 y2 y3 y4 y5) (spec_l1Rising.l0 (k+1) y0 y1 y2 y3 y4 y5))
 | 0=>fun _ _ _ _ _ _ r h=>by simp [spec_l1Rising.l0] at h
 | k+1=>by
  have ih0:=spec_l1Rising.mono_l k
  ·intro y0 y1 y2 y3 y4 y5
   unfold spec_l1Rising.l0
   repeat' first
   | (with_reducible exact ih0 _ _ _ _ _ _)
   | (with_reducible exact LeO.refl _)
   | (with_reducible exact LeO.none _)
   | (with_reducible refine LeO.ite ?_ ?_)
   | (with_reducible refine LeO.bind ?_ (fun _=>?_))
   | exact ih0 _ _ _ _ _ _
   | exact LeO.none _
   | refine LeO.ite ?_ ?_
   | refine LeO.bind ?_ (fun _=>?_)
theorem spec_l1Rising.mono:∀ a0 a1 a2 k,LeO (spec_l1Rising.f k a0 a1 a2) (spec_l1Rising.f (k+1) a0 a1 a2):=by
 intro a0 a1 a2 k
 have ih0:=spec_l1Rising.mono_l k
 unfold spec_l1Rising.f
 repeat' first
   | (with_reducible exact ih0 _ _ _ _ _ _)
   | (with_reducible exact LeO.refl _)
   | (with_reducible exact LeO.none _)
   | (with_reducible refine LeO.ite ?_ ?_)
   | (with_reducible refine LeO.bind ?_ (fun _=>?_))
   | exact ih0 _ _ _ _ _ _
   | exact LeO.none _
   | refine LeO.ite ?_ ?_
   | refine LeO.bind ?_ (fun _=>?_)
set_option maxHeartbeats 8000000 in
set_option maxRecDepth 100000 in
theorem spec_l1Rising.calls (k:Nat) (A0:Option Addr) (c0:Nat) (l0:List Int) (a1:Int) (a2:Int) (r:Bool) (w:World) (hr0:Kd.C (Kd.int .i64) w A0 l0.length l0) (hc0:l0.length≤c0) (h:spec_l1Rising.f k l0 a1 a2=some r) :
  Calls Try.prog 60 #[.slice A0 l0.length c0,.int .i64 a1,.int .i64 a2] w fun e w'=>e=.returned (.bool r)∧Drawn0 w w':=by
 have HR0:=zz31 hr0
 have HC0:=zz31 hc0
 clear hr0 hc0
 have H:(spec_l1Rising.l0 k l0 a1 a2 l0 (l0.length:Int) 0)=some r:=h
 clear h
 have H':=zz31 H
 clear H
 go_enter Try.func60,Try.ntmps60
 go_wp2
 go_loopg [11] k (fun kq v11 w'=>∃ (x11_1:Int),v11=.int .i64 x11_1∧Aside0 (spec_l1Rising.l0 kq l0 a1 a2 l0 (l0.length:Int) x11_1=some r)∧Aside0 (kq≤k)∧Drawn0 w w')
 case atStart=>exact ⟨(0),(by first | rfl | (simp;done) | (simp [*];done)),H',⟨Nat.le_refl _⟩,by repeat (first | exact Drawn0.refl _ | apply Drawn0.step)⟩
 case round =>
  clear H'
  try clear p2
  obtain ⟨x11_1,rfl,HA,HK1,⟨m1,rfl⟩⟩:=hrel
  cases gk with
  | zero=>exact absurd HA.out (by simp [spec_l1Rising.l0])
  | succ k1 =>
   have H:=HA.out
   clear HA
   simp only [spec_l1Rising.l0] at H
   by_cases c4:x11_1 < (l0.length:Int)
   ·rw [if_pos c4] at H
    have c4b0:decide (x11_1 < (l0.length:Int))=true:=decide_eq_true c4
    clear c4
    by_cases c5:0≤x11_1
    ·rw [if_pos c5] at H
     have c5b0:decide (0≤x11_1)=true:=decide_eq_true c5
     clear c5
     by_cases c6:x11_1 < (l0.length:Int)
     ·rw [if_pos c6] at H
      have c6b0:decide (x11_1 < (l0.length:Int))=true:=decide_eq_true c6
      clear c6
      replace H:=zz30.mp H
      obtain ⟨t132,A70,H⟩:=H
      replace H:(if t132=true then (if x11_1 > 0 then (if 0≤(wrap64 (x11_1 - 1)) then (if (wrap64 (x11_1 - 1)) < (l0.length:Int) then (if (rd l0 (wrap64 (x11_1 - 1))) ≥ (rd l0 x11_1) then (some false) else (spec_l1Rising.l0 k1 l0 a1 a2 l0 (l0.length:Int) (wrap64 (x11_1+1)))) else (none)) else (none)) else (spec_l1Rising.l0 k1 l0 a1 a2 l0 (l0.length:Int) (wrap64 (x11_1+1)))) else (some false))=some r:=H
      have A7:=zz31 A70
      clear A70
      by_cases c8:t132=true
      ·subst c8
       have H1:(if x11_1 > 0 then (if 0≤(wrap64 (x11_1 - 1)) then (if (wrap64 (x11_1 - 1)) < (l0.length:Int) then (if (rd l0 (wrap64 (x11_1 - 1))) ≥ (rd l0 x11_1) then (some false) else (spec_l1Rising.l0 k1 l0 a1 a2 l0 (l0.length:Int) (wrap64 (x11_1+1)))) else (none)) else (none)) else (spec_l1Rising.l0 k1 l0 a1 a2 l0 (l0.length:Int) (wrap64 (x11_1+1))))=some r:=by rw [if_pos rfl] at H;exact H
       clear H
       have H:=H1
       clear H1
       by_cases c9:x11_1 > 0
       ·rw [if_pos c9] at H
        have c9b0:decide (0 < x11_1)=true:=decide_eq_true c9
        clear c9
        obtain ⟨ji10,hji10⟩:∃ j_:Int,(wrap64 (x11_1 - 1))=j_:=⟨_,rfl⟩
        replace H:(if 0≤(ji10) then (if (ji10) < (l0.length:Int) then (if (rd l0 (ji10)) ≥ (rd l0 x11_1) then (some false) else (spec_l1Rising.l0 k1 l0 a1 a2 l0 (l0.length:Int) (wrap64 (x11_1+1)))) else (none)) else (none))=some r:=by first | (rw [hji10] at H;exact H) | (simp only [hji10] at H ⊢;exact H)
        (try rw [hji10] at A7)
        have hji10w:(IntKind.i64.wrap (x11_1 - 1))=ji10:=(i64_w _).trans hji10
        by_cases c11:0≤(ji10)
        ·rw [if_pos c11] at H
         have c11b0:decide (0≤(ji10))=true:=decide_eq_true c11
         clear c11
         by_cases c12:(ji10) < (l0.length:Int)
         ·rw [if_pos c12] at H
          have c12b0:decide ((ji10) < (l0.length:Int))=true:=decide_eq_true c12
          clear c12
          by_cases c13:(rd l0 (ji10)) ≥ (rd l0 x11_1)
          ·rw [if_pos c13] at H
           have c13b0:decide ((rd l0 x11_1)≤(rd l0 (ji10)))=true:=decide_eq_true c13
           clear c13
           obtain rfl:=Option.some.inj H
           have p131:0≤(x11_1:Int):=zz29 (by first | (with_reducible assumption) | assumption)
           have q131:x11_1 < (l0.length:Int):=zz29 (by first | (with_reducible assumption) | assumption)
           obtain ⟨ad131,e131,hx131_0⟩:=Kd.at_int HR0.out x11_1 p131 q131
           cases e131
           replace p131:=eq_true p131
           replace q131:=eq_true q131
           go_wp2_with (first | ((with_reducible refine gate_callee (f:=49) rfl ?_);refine goesL_ (some 19) rfl rfl Try.func49 (by kernel_rfl) rfl #[.int .i64 (rd l0 x11_1),.int .i64 a1,.int .i64 a2] rfl (by (try simp only [zz26,zz27,zz28]);first | done | rfl | (simp only [zz24,zz25];rfl)) ?_;(with_reducible refine (spec_l1In.calls (rd l0 x11_1) a1 a2 true _ A7.out).mono ?_);rintro e w' ⟨rfl,⟨nd,rfl⟩⟩;refine ⟨_,rfl,?_⟩;have p133:0≤((ji10):Int):=zz29 (by first | (with_reducible assumption) | assumption);have q133:(ji10) < (l0.length:Int):=zz29 (by first | (with_reducible assumption) | assumption);obtain ⟨ad133,e133,hx133_0⟩:=Kd.at_int HR0.out (ji10) p133 q133;obtain rfl:ad131=ad133:=(by injection e133);replace p133:=eq_true p133;replace q133:=eq_true q133))
           go_ret
           exact ⟨by first | rfl | (simp;done) | (simp only [← hji10] <;> (first | rfl | simp)) | (simp [*];done),by repeat (first | exact Drawn0.refl _ | apply Drawn0.step)⟩
          ·rw [if_neg c13] at H
           have c13b0:decide ((rd l0 x11_1)≤(rd l0 (ji10)))=false:=decide_eq_false c13
           clear c13
           have H':=zz31 H
           clear H
           have p131:0≤(x11_1:Int):=zz29 (by first | (with_reducible assumption) | assumption)
           have q131:x11_1 < (l0.length:Int):=zz29 (by first | (with_reducible assumption) | assumption)
           obtain ⟨ad131,e131,hx131_0⟩:=Kd.at_int HR0.out x11_1 p131 q131
           cases e131
           replace p131:=eq_true p131
           replace q131:=eq_true q131
           go_wp2_with (first | ((with_reducible refine gate_callee (f:=49) rfl ?_);refine goesL_ (some 19) rfl rfl Try.func49 (by kernel_rfl) rfl #[.int .i64 (rd l0 x11_1),.int .i64 a1,.int .i64 a2] rfl (by (try simp only [zz26,zz27,zz28]);first | done | rfl | (simp only [zz24,zz25];rfl)) ?_;(with_reducible refine (spec_l1In.calls (rd l0 x11_1) a1 a2 true _ A7.out).mono ?_);rintro e w' ⟨rfl,⟨nd,rfl⟩⟩;refine ⟨_,rfl,?_⟩;have p133:0≤((ji10):Int):=zz29 (by first | (with_reducible assumption) | assumption);have q133:(ji10) < (l0.length:Int):=zz29 (by first | (with_reducible assumption) | assumption);obtain ⟨ad133,e133,hx133_0⟩:=Kd.at_int HR0.out (ji10) p133 q133;obtain rfl:ad131=ad133:=(by injection e133);replace p133:=eq_true p133;replace q133:=eq_true q133))
           go_roundg k1
           case measure=>have:=HK1.out;omega
           case rel=>exact ⟨(wrap64 (x11_1+1)),(by first | rfl | (simp;done) | (simp [*];done)),H',⟨by have:=HK1.out;omega⟩,by repeat (first | exact Drawn0.refl _ | apply Drawn0.step)⟩
         ·rw [if_neg c12] at H
          exact absurd H (by simp)
        ·rw [if_neg c11] at H
         exact absurd H (by simp)
       ·rw [if_neg c9] at H
        have c9b0:decide (0 < x11_1)=false:=decide_eq_false c9
        clear c9
        have H':=zz31 H
        clear H
        have p131:0≤(x11_1:Int):=zz29 (by first | (with_reducible assumption) | assumption)
        have q131:x11_1 < (l0.length:Int):=zz29 (by first | (with_reducible assumption) | assumption)
        obtain ⟨ad131,e131,hx131_0⟩:=Kd.at_int HR0.out x11_1 p131 q131
        cases e131
        replace p131:=eq_true p131
        replace q131:=eq_true q131
        go_wp2_with (first | ((with_reducible refine gate_callee (f:=49) rfl ?_);refine goesL_ (some 19) rfl rfl Try.func49 (by kernel_rfl) rfl #[.int .i64 (rd l0 x11_1),.int .i64 a1,.int .i64 a2] rfl (by (try simp only [zz26,zz27,zz28]);first | done | rfl | (simp only [zz24,zz25];rfl)) ?_;(with_reducible refine (spec_l1In.calls (rd l0 x11_1) a1 a2 true _ A7.out).mono ?_);rintro e w' ⟨rfl,⟨nd,rfl⟩⟩;refine ⟨_,rfl,?_⟩))
        go_roundg k1
        case measure=>have:=HK1.out;omega
        case rel=>exact ⟨(wrap64 (x11_1+1)),(by first | rfl | (simp;done) | (simp [*];done)),H',⟨by have:=HK1.out;omega⟩,by repeat (first | exact Drawn0.refl _ | apply Drawn0.step)⟩
      ·replace c8:=Bool.eq_false_iff.mpr c8
       subst c8
       have H1:(some false)=some r:=by rw [if_neg (show ¬ (false=true) by decide)] at H;exact H
       clear H
       have H:=H1
       clear H1
       obtain rfl:=Option.some.inj H
       have p131:0≤(x11_1:Int):=zz29 (by first | (with_reducible assumption) | assumption)
       have q131:x11_1 < (l0.length:Int):=zz29 (by first | (with_reducible assumption) | assumption)
       obtain ⟨ad131,e131,hx131_0⟩:=Kd.at_int HR0.out x11_1 p131 q131
       cases e131
       replace p131:=eq_true p131
       replace q131:=eq_true q131
       go_wp2_with (first | ((with_reducible refine gate_callee (f:=49) rfl ?_);refine goesL_ (some 19) rfl rfl Try.func49 (by kernel_rfl) rfl #[.int .i64 (rd l0 x11_1),.int .i64 a1,.int .i64 a2] rfl (by (try simp only [zz26,zz27,zz28]);first | done | rfl | (simp only [zz24,zz25];rfl)) ?_;(with_reducible refine (spec_l1In.calls (rd l0 x11_1) a1 a2 false _ A7.out).mono ?_);rintro e w' ⟨rfl,⟨nd,rfl⟩⟩;refine ⟨_,rfl,?_⟩))
       go_ret
       exact ⟨by first | rfl | (simp;done) | (simp [*];done),by repeat (first | exact Drawn0.refl _ | apply Drawn0.step)⟩
     ·rw [if_neg c6] at H
      exact absurd H (by simp)
    ·rw [if_neg c5] at H
     exact absurd H (by simp)
   ·rw [if_neg c4] at H
    have c4b0:decide (x11_1 < (l0.length:Int))=false:=decide_eq_false c4
    clear c4
    obtain rfl:=Option.some.inj H
    go_wp2
    go_ret
    exact ⟨by first | rfl | (simp;done) | (simp [*];done),by repeat (first | exact Drawn0.refl _ | apply Drawn0.step)⟩

/-! ### spec_grIs: function 61 -/
mutual
def spec_grIs.l0:Nat→List (List Bool)→List Int→List Int→Int→Int→Option (Bool)
 | 0,_,_,_,_,_=>none
 | k+1,x0,x1,x9,x10,x11=>if x11 < x10 then (if 0≤x11 then (if x11 < (x9.length:Int) then (if x11≤(x1.length:Int) then (spec_grIs.l1 k x0 x1 (rd x9 x11) x9 x10 x11 (x1.take (x11:Int).toNat) ((x1.take (x11:Int).toNat).length:Int) 0) else (none)) else (none)) else (none)) else (some true)
def spec_grIs.l1:Nat→List (List Bool)→List Int→Int→List Int→Int→Int→List Int→Int→Int→Option (Bool)
 | 0,_,_,_,_,_,_,_,_,_=>none
 | k+1,x0,x1,x6,x9,x10,x11,x18,x19,x20=>if x20 < x19 then (if 0≤x20 then (if x20 < (x18.length:Int) then (if 0≤x6 then (if x6 < (x0.length:Int) then (if 0≤(rd x18 x20) then (if (rd x18 x20) < ((rd_L4 x0 x6).length:Int) then (if (rdOf false (rd_L4 x0 x6) (rd x18 x20)=true) then (spec_grIs.l1 k x0 x1 x6 x9 x10 x11 x18 x19 (wrap64 (x20+1))) else (some false)) else (none)) else (none)) else (none)) else (none)) else (none)) else (none)) else (spec_grIs.l0 k x0 x1 x9 x10 (wrap64 (x11+1)))
end
def spec_grIs.f (k:Nat) (l0:List (List Bool)) (l1:List Int):Option (Bool):=spec_grIs.l0 k l0 l1 l1 (l1.length:Int) 0
theorem spec_grIs.mono_l:∀ k,(∀ y0 y1 y2 y3 y4,LeO (spec_grIs.l0 k y0 y1 y2 y3 y4) (spec_grIs.l0 (k+1) y0 y1 y2 y3 y4))∧(∀ y0 y1 y2 y3 y4 y5 y6 y7 y8,LeO (spec_grIs.l1 k y0 y1 y2 y3 y4 y5 y6 y7 y8) (spec_grIs.l1 (k+1) y0 y1 y2 y3 y4 y5 y6 y7 y8))
 | 0=>⟨fun _ _ _ _ _ r h=>by simp [spec_grIs.l0] at h,fun _ _ _ _ _ _ _ _ _ r h=>by simp [spec_grIs.l1] at h⟩
 | k+1=>by
  obtain ⟨ih0,ih1⟩:=spec_grIs.mono_l k
  refine ⟨?_,?_⟩
  ·intro y0 y1 y2 y3 y4
   unfold spec_grIs.l0
   repeat' first
   | (with_reducible exact ih0 _ _ _ _ _)
   | (with_reducible exact ih1 _ _ _ _ _ _ _ _ _)
   | (with_reducible exact LeO.refl _)
   | (with_reducible exact LeO.none _)
   | (with_reducible refine LeO.ite ?_ ?_)
   | (with_reducible refine LeO.bind ?_ (fun _=>?_))
   | exact ih0 _ _ _ _ _
   | exact ih1 _ _ _ _ _ _ _ _ _
   | exact LeO.none _
   | refine LeO.ite ?_ ?_
   | refine LeO.bind ?_ (fun _=>?_)
  ·intro y0 y1 y2 y3 y4 y5 y6 y7 y8
   unfold spec_grIs.l1
   repeat' first
   | (with_reducible exact ih0 _ _ _ _ _)
   | (with_reducible exact ih1 _ _ _ _ _ _ _ _ _)
   | (with_reducible exact LeO.refl _)
   | (with_reducible exact LeO.none _)
   | (with_reducible refine LeO.ite ?_ ?_)
   | (with_reducible refine LeO.bind ?_ (fun _=>?_))
   | exact ih0 _ _ _ _ _
   | exact ih1 _ _ _ _ _ _ _ _ _
   | exact LeO.none _
   | refine LeO.ite ?_ ?_
   | refine LeO.bind ?_ (fun _=>?_)
theorem spec_grIs.mono:∀ a0 a1 k,LeO (spec_grIs.f k a0 a1) (spec_grIs.f (k+1) a0 a1):=by
 intro a0 a1 k
 obtain ⟨ih0,ih1⟩:=spec_grIs.mono_l k
 unfold spec_grIs.f
 repeat' first
   | (with_reducible exact ih0 _ _ _ _ _)
   | (with_reducible exact ih1 _ _ _ _ _ _ _ _ _)
   | (with_reducible exact LeO.refl _)
   | (with_reducible exact LeO.none _)
   | (with_reducible refine LeO.ite ?_ ?_)
   | (with_reducible refine LeO.bind ?_ (fun _=>?_))
   | exact ih0 _ _ _ _ _
   | exact ih1 _ _ _ _ _ _ _ _ _
   | exact LeO.none _
   | refine LeO.ite ?_ ?_
   | refine LeO.bind ?_ (fun _=>?_)
set_option maxHeartbeats 8000000 in
set_option maxRecDepth 100000 in
theorem spec_grIs.calls (k:Nat) (A0:Option Addr) (c0:Nat) (l0:List (List Bool)) (A1:Option Addr) (c1:Nat) (l1:List Int) (r:Bool) (w:World) (hr0:Kd.C (Kd.slice 4 Kd.bool) w A0 l0.length l0) (hc0:l0.length≤c0) (hr1:Kd.C (Kd.int .i64) w A1 l1.length l1) (hc1:l1.length≤c1) (h:spec_grIs.f k l0 l1=some r) :
  Calls Try.prog 61 #[.slice A0 l0.length c0,.slice A1 l1.length c1] w fun e w'=>e=.returned (.bool r)∧Drawn0 w w':=by
 have HR0:=zz31 hr0
 have HC0:=zz31 hc0
 clear hr0 hc0
 have HR1:=zz31 hr1
 have HC1:=zz31 hc1
 clear hr1 hc1
 have H:(spec_grIs.l0 k l0 l1 l1 (l1.length:Int) 0)=some r:=h
 clear h
 have H':=zz31 H
 clear H
 go_enter Try.func61,Try.ntmps61
 go_wp2
 go_loopg [11] k (fun kq v11 w'=>∃ (x11_1:Int),v11=.int .i64 x11_1∧Aside0 (spec_grIs.l0 kq l0 l1 l1 (l1.length:Int) x11_1=some r)∧Aside0 (kq≤k)∧Drawn0 w w')
 case atStart=>exact ⟨(0),(by first | rfl | (simp;done) | (simp [*];done)),H',⟨Nat.le_refl _⟩,by repeat (first | exact Drawn0.refl _ | apply Drawn0.step)⟩
 case round =>
  clear H'
  try clear c1
  try clear p2
  obtain ⟨x11_1,rfl,HA,HK1,⟨m1,rfl⟩⟩:=hrel
  cases gk with
  | zero=>exact absurd HA.out (by simp [spec_grIs.l0])
  | succ k1 =>
   have H:=HA.out
   clear HA
   simp only [spec_grIs.l0] at H
   by_cases c3:x11_1 < (l1.length:Int)
   ·rw [if_pos c3] at H
    have c3b0:decide (x11_1 < (l1.length:Int))=true:=decide_eq_true c3
    clear c3
    by_cases c4:0≤x11_1
    ·rw [if_pos c4] at H
     have c4b0:decide (0≤x11_1)=true:=decide_eq_true c4
     clear c4
     by_cases c5:x11_1 < (l1.length:Int)
     ·rw [if_pos c5] at H
      have c5b0:decide (x11_1 < (l1.length:Int))=true:=decide_eq_true c5
      clear c5
      have c6b0:=eq_true (zz29 (by first | (with_reducible assumption) | assumption):0≤x11_1)
      by_cases c7:x11_1≤(l1.length:Int)
      ·rw [if_pos c7] at H
       have c7b0:=eq_true c7
       have c7b1:decide (x11_1≤(l1.length:Int))=true:=decide_eq_true c7
       clear c7
       have H':=zz31 H
       clear H
       have p134:0≤(x11_1:Int):=zz29 (by first | (with_reducible assumption) | assumption)
       have q134:x11_1 < (l1.length:Int):=zz29 (by first | (with_reducible assumption) | assumption)
       obtain ⟨ad134,e134,hx134_0⟩:=Kd.at_int HR1.out x11_1 p134 q134
       cases e134
       replace p134:=eq_true p134
       replace q134:=eq_true q134
       obtain ⟨i08,hi08,_,hsz8,_⟩:=info_parts info3
       obtain ⟨hcut8,hA8,hC8⟩:=print_take_of (P:=Try.prog) (Value.int .i64) 0 25 3 .i64 Try.underlying25 hi08 hsz8 (some ad134) c1 l1 x11_1 (zz29 (by first | (with_reducible assumption) | assumption)) (zz29 (by first | (with_reducible assumption) | assumption)) HC1.out
       have HL8:=zz31 (show ((l1.take (x11_1:Int).toNat).length:Int)=max x11_1 0 from by (have e1:x11_1≤(l1.length:Int):=zz29 (by first | (with_reducible assumption) | assumption));rw [zz25];omega)
       have HR135:=zz31 (Kd.C_of_reads (h1:=fun _=>rfl) (hA8 _ (Kd.reads_of_C HR1.out)))
       have HC135:=zz31 hC8
       clear hA8 hC8 hi08 hsz8
       go_wp2
       go_loopg [20] k1 (fun kq v20 w'=>∃ (x20_2:Int),v20=.int .i64 x20_2∧Aside0 (spec_grIs.l1 kq l0 l1 (rd l1 x11_1) l1 (l1.length:Int) x11_1 (l1.take (x11_1:Int).toNat) ((l1.take (x11_1:Int).toNat).length:Int) x20_2=some r)∧Aside0 (kq≤k1)∧Drawn0 w w')
       case atStart=>exact ⟨(0),(by first | rfl | (simp;done) | (simp [*];done)),H',⟨Nat.le_refl _⟩,by repeat (first | exact Drawn0.refl _ | apply Drawn0.step)⟩
       case round =>
        clear H'
        try clear c1
        try clear p1
        try clear q1
        try clear hx1
        try clear p2
        try clear c3
        try clear c3b0
        try clear c4
        try clear c4b0
        try clear c5
        try clear c5b0
        try clear c6
        try clear c6b0
        try clear c7
        try clear c7b0
        try clear c7b1
        try clear hx134_0
        try clear p134
        try clear p2
        try clear q134
        obtain ⟨x20_2,rfl,HA,HK2,⟨m2,rfl⟩⟩:=hrel
        cases gk with
        | zero=>exact absurd HA.out (by simp [spec_grIs.l1])
        | succ k2 =>
         have H:=HA.out
         clear HA
         simp only [spec_grIs.l1] at H
         by_cases c9:x20_2 < ((l1.take (x11_1:Int).toNat).length:Int)
         ·rw [if_pos c9] at H
          have c9b0:decide (x20_2 < ((l1.take (x11_1:Int).toNat).length:Int))=true:=decide_eq_true c9
          have c9b0z:decide (x20_2 < max x11_1 0)=true:=by rw [← HL8.out];exact c9b0
          clear c9
          by_cases c10:0≤x20_2
          ·rw [if_pos c10] at H
           have c10b0:decide (0≤x20_2)=true:=decide_eq_true c10
           clear c10
           by_cases c11:x20_2 < ((l1.take (x11_1:Int).toNat).length:Int)
           ·rw [if_pos c11] at H
            have c11b0:decide (x20_2 < ((l1.take (x11_1:Int).toNat).length:Int))=true:=decide_eq_true c11
            have c11b0z:decide (x20_2 < max x11_1 0)=true:=by rw [← HL8.out];exact c11b0
            clear c11
            by_cases c12:0≤(rd l1 x11_1)
            ·rw [if_pos c12] at H
             have c12b0:decide (0≤(rd l1 x11_1))=true:=decide_eq_true c12
             clear c12
             by_cases c13:(rd l1 x11_1) < (l0.length:Int)
             ·rw [if_pos c13] at H
              have c13b0:decide ((rd l1 x11_1) < (l0.length:Int))=true:=decide_eq_true c13
              clear c13
              by_cases c14:0≤(rd (l1.take (x11_1:Int).toNat) x20_2)
              ·rw [if_pos c14] at H
               have c14b0:decide (0≤(rd (l1.take (x11_1:Int).toNat) x20_2))=true:=decide_eq_true c14
               clear c14
               by_cases c15:(rd (l1.take (x11_1:Int).toNat) x20_2) < ((rd_L4 l0 (rd l1 x11_1)).length:Int)
               ·rw [if_pos c15] at H
                have c15b0:decide ((rd (l1.take (x11_1:Int).toNat) x20_2) < ((rd_L4 l0 (rd l1 x11_1)).length:Int))=true:=decide_eq_true c15
                clear c15
                obtain ⟨bq16,hbq16⟩:∃ b_:Bool,b_=(rdOf false (rd_L4 l0 (rd l1 x11_1)) (rd (l1.take (x11_1:Int).toNat) x20_2)):=⟨_,rfl⟩
                replace H:(if (bq16=true) then (spec_grIs.l1 k2 l0 l1 (rd l1 x11_1) l1 (l1.length:Int) x11_1 (l1.take (x11_1:Int).toNat) ((l1.take (x11_1:Int).toNat).length:Int) (wrap64 (x20_2+1))) else (some false))=some r:=by rw [← hbq16] at H;exact H
                have Nbq16:=zz31 hbq16
                clear hbq16
                by_cases c17:(bq16=true)
                ·subst c17
                 have H1:(spec_grIs.l1 k2 l0 l1 (rd l1 x11_1) l1 (l1.length:Int) x11_1 (l1.take (x11_1:Int).toNat) ((l1.take (x11_1:Int).toNat).length:Int) (wrap64 (x20_2+1)))=some r:=by rw [if_pos rfl] at H;exact H
                 clear H
                 have H:=H1
                 clear H1
                 have H':=zz31 H
                 clear H
                 have p136:0≤(x20_2:Int):=zz29 (by first | (with_reducible assumption) | assumption)
                 have q136:x20_2 < ((l1.take (x11_1:Int).toNat).length:Int):=zz29 (by first | (with_reducible assumption) | assumption)
                 have q136z:=eq_true (show x20_2 < max x11_1 0 from by rw [← HL8.out];exact q136)
                 obtain ⟨ad136,e136,hx136_0⟩:=Kd.at_int HR135.out x20_2 p136 q136
                 obtain rfl:ad134=ad136:=(by injection e136)
                 replace p136:=eq_true p136
                 replace q136:=eq_true q136
                 have p137:0≤((rd l1 x11_1):Int):=zz29 (by first | (with_reducible assumption) | assumption)
                 have q137:(rd l1 x11_1) < (l0.length:Int):=zz29 (by first | (with_reducible assumption) | assumption)
                 obtain ⟨ad137,A137_0,c137_0,e137,hx137_0,hl137_0,hi137_0⟩:=at_L4 HR0.out (rd l1 x11_1) p137 q137
                 cases e137
                 have HR137_0:=zz31 hi137_0
                 have HC137_0:=zz31 hl137_0
                 clear hi137_0 hl137_0
                 replace p137:=eq_true p137
                 replace q137:=eq_true q137
                 have p138:0≤((rd (l1.take (x11_1:Int).toNat) x20_2):Int):=zz29 (by first | (with_reducible assumption) | assumption)
                 have q138:(rd (l1.take (x11_1:Int).toNat) x20_2) < ((rd_L4 l0 (rd l1 x11_1)).length:Int):=zz29 (by first | (with_reducible assumption) | assumption)
                 obtain ⟨ad138,e138,hx138_0⟩:=Kd.at_bool HR137_0.out (rd (l1.take (x11_1:Int).toNat) x20_2) p138 q138
                 (try rw [← Nbq16.out] at hx138_0)
                 cases e138
                 replace p138:=eq_true p138
                 replace q138:=eq_true q138
                 go_wp2
                 go_roundg k2
                 case measure=>have:=HK1.out;have:=HK2.out;omega
                 case rel=>exact ⟨(wrap64 (x20_2+1)),(by first | rfl | (simp;done) | (simp [*];done)),H',⟨by have:=HK1.out;have:=HK2.out;omega⟩,by repeat (first | exact Drawn0.refl _ | apply Drawn0.step)⟩
                ·replace c17:=Bool.eq_false_iff.mpr c17
                 subst c17
                 have H1:(some false)=some r:=by rw [if_neg (show ¬ (false=true) by decide)] at H;exact H
                 clear H
                 have H:=H1
                 clear H1
                 obtain rfl:=Option.some.inj H
                 have p136:0≤(x20_2:Int):=zz29 (by first | (with_reducible assumption) | assumption)
                 have q136:x20_2 < ((l1.take (x11_1:Int).toNat).length:Int):=zz29 (by first | (with_reducible assumption) | assumption)
                 have q136z:=eq_true (show x20_2 < max x11_1 0 from by rw [← HL8.out];exact q136)
                 obtain ⟨ad136,e136,hx136_0⟩:=Kd.at_int HR135.out x20_2 p136 q136
                 obtain rfl:ad134=ad136:=(by injection e136)
                 replace p136:=eq_true p136
                 replace q136:=eq_true q136
                 have p137:0≤((rd l1 x11_1):Int):=zz29 (by first | (with_reducible assumption) | assumption)
                 have q137:(rd l1 x11_1) < (l0.length:Int):=zz29 (by first | (with_reducible assumption) | assumption)
                 obtain ⟨ad137,A137_0,c137_0,e137,hx137_0,hl137_0,hi137_0⟩:=at_L4 HR0.out (rd l1 x11_1) p137 q137
                 cases e137
                 have HR137_0:=zz31 hi137_0
                 have HC137_0:=zz31 hl137_0
                 clear hi137_0 hl137_0
                 replace p137:=eq_true p137
                 replace q137:=eq_true q137
                 have p138:0≤((rd (l1.take (x11_1:Int).toNat) x20_2):Int):=zz29 (by first | (with_reducible assumption) | assumption)
                 have q138:(rd (l1.take (x11_1:Int).toNat) x20_2) < ((rd_L4 l0 (rd l1 x11_1)).length:Int):=zz29 (by first | (with_reducible assumption) | assumption)
                 obtain ⟨ad138,e138,hx138_0⟩:=Kd.at_bool HR137_0.out (rd (l1.take (x11_1:Int).toNat) x20_2) p138 q138
                 (try rw [← Nbq16.out] at hx138_0)
                 cases e138
                 replace p138:=eq_true p138
                 replace q138:=eq_true q138
                 go_wp2
                 go_ret
                 exact ⟨by first | rfl | (simp;done) | (simp [*];done),by repeat (first | exact Drawn0.refl _ | apply Drawn0.step)⟩
               ·rw [if_neg c15] at H
                exact absurd H (by simp)
              ·rw [if_neg c14] at H
               exact absurd H (by simp)
             ·rw [if_neg c13] at H
              exact absurd H (by simp)
            ·rw [if_neg c12] at H
             exact absurd H (by simp)
           ·rw [if_neg c11] at H
            exact absurd H (by simp)
          ·rw [if_neg c10] at H
           exact absurd H (by simp)
         ·rw [if_neg c9] at H
          have c9b0:decide (x20_2 < ((l1.take (x11_1:Int).toNat).length:Int))=false:=decide_eq_false c9
          have c9b0z:decide (x20_2 < max x11_1 0)=false:=by rw [← HL8.out];exact c9b0
          clear c9
          have H':=zz31 H
          clear H
          go_wp2
          go_roundg k2
          case measure=>have:=HK1.out;have:=HK2.out;omega
          case rel=>exact ⟨(wrap64 (x11_1+1)),(by first | rfl | (simp;done) | (simp [*];done)),H',⟨by have:=HK1.out;have:=HK2.out;omega⟩,by repeat (first | exact Drawn0.refl _ | apply Drawn0.step)⟩
      ·rw [if_neg c7] at H
       exact absurd H (by simp)
     ·rw [if_neg c5] at H
      exact absurd H (by simp)
    ·rw [if_neg c4] at H
     exact absurd H (by simp)
   ·rw [if_neg c3] at H
    have c3b0:decide (x11_1 < (l1.length:Int))=false:=decide_eq_false c3
    clear c3
    obtain rfl:=Option.some.inj H
    go_wp2
    go_ret
    exact ⟨by first | rfl | (simp;done) | (simp [*];done),by repeat (first | exact Drawn0.refl _ | apply Drawn0.step)⟩

/-! ### spec_grGroup: function 33 -/
def spec_grGroup.f (k:Nat) (a0_0:Int) (l0_1:List (S79)) (l1:List Int):Option (Bool):=(spec_paGood.f k a0_0 l0_1).bind fun t140=>(if t140=true then ((spec_l1Rising.f k l1 0 (wrap64 (a0_0 - 1))).bind fun t141=>(if t141=true then ((spec_paTable.f k a0_0 l0_1).bind fun t142=>((spec_grIs.f k t142 l1).bind fun t145=>(some t145))) else (some false))) else (some false))
theorem spec_grGroup.mono:∀ a0 a1 a2 k,LeO (spec_grGroup.f k a0 a1 a2) (spec_grGroup.f (k+1) a0 a1 a2):=by
 intro a0 a1 a2 k
 unfold spec_grGroup.f
 repeat' first
   | (with_reducible exact spec_grIs.mono _ _ _)
   | (with_reducible exact spec_l1Rising.mono _ _ _ _)
   | (with_reducible exact spec_paGood.mono _ _ _)
   | (with_reducible exact spec_paTable.mono _ _ _)
   | (with_reducible exact LeO.refl _)
   | (with_reducible exact LeO.none _)
   | (with_reducible refine LeO.ite ?_ ?_)
   | (with_reducible refine LeO.bind ?_ (fun _=>?_))
   | exact spec_grIs.mono _ _ _
   | exact spec_l1Rising.mono _ _ _ _
   | exact spec_paGood.mono _ _ _
   | exact spec_paTable.mono _ _ _
   | exact LeO.none _
   | refine LeO.ite ?_ ?_
   | refine LeO.bind ?_ (fun _=>?_)
set_option maxHeartbeats 8000000 in
set_option maxRecDepth 100000 in
theorem spec_grGroup.calls (k:Nat) (a0_0:Int) (A0_1:Option Addr) (c0_1:Nat) (l0_1:List (S79)) (A1:Option Addr) (c1:Nat) (l1:List Int) (r:Bool) (w:World) (hr0_1:Kd.C k79 w A0_1 l0_1.length l0_1) (hc0_1:l0_1.length≤c0_1) (hr1:Kd.C (Kd.int .i64) w A1 l1.length l1) (hc1:l1.length≤c1) (h:spec_grGroup.f k a0_0 l0_1 l1=some r) :
  Calls Try.prog 33 #[.agg #[.int .i64 a0_0,.slice A0_1 l0_1.length c0_1],.slice A1 l1.length c1] w fun e w'=>e=.returned (.bool r)∧Below w.heap.size w w':=by
 have hu31:=Try.underlying31
 have HR0_1:=zz31 hr0_1
 have HC0_1:=zz31 hc0_1
 clear hr0_1 hc0_1
 have HR1:=zz31 hr1
 have HC1:=zz31 hc1
 clear hr1 hc1
 have HB:=zz31 (Below.refl w.heap.size w)
 have H:((spec_paGood.f k a0_0 l0_1).bind fun t140=>(if t140=true then ((spec_l1Rising.f k l1 0 (wrap64 (a0_0 - 1))).bind fun t141=>(if t141=true then ((spec_paTable.f k a0_0 l0_1).bind fun t142=>((spec_grIs.f k t142 l1).bind fun t145=>(some t145))) else (some false))) else (some false)))=some r:=h
 clear h
 replace H:=zz30.mp H
 obtain ⟨t140,A30,H⟩:=H
 replace H:(if t140=true then ((spec_l1Rising.f k l1 0 (wrap64 (a0_0 - 1))).bind fun t141=>(if t141=true then ((spec_paTable.f k a0_0 l0_1).bind fun t142=>((spec_grIs.f k t142 l1).bind fun t145=>(some t145))) else (some false))) else (some false))=some r:=H
 have A3:=zz31 A30
 clear A30
 by_cases c4:t140=true
 ·subst c4
  have H1:((spec_l1Rising.f k l1 0 (wrap64 (a0_0 - 1))).bind fun t141=>(if t141=true then ((spec_paTable.f k a0_0 l0_1).bind fun t142=>((spec_grIs.f k t142 l1).bind fun t145=>(some t145))) else (some false)))=some r:=by rw [if_pos rfl] at H;exact H
  clear H
  have H:=H1
  clear H1
  replace H:=zz30.mp H
  obtain ⟨t141,A50,H⟩:=H
  replace H:(if t141=true then ((spec_paTable.f k a0_0 l0_1).bind fun t142=>((spec_grIs.f k t142 l1).bind fun t145=>(some t145))) else (some false))=some r:=H
  have A5:=zz31 A50
  clear A50
  by_cases c6:t141=true
  ·subst c6
   have H1:((spec_paTable.f k a0_0 l0_1).bind fun t142=>((spec_grIs.f k t142 l1).bind fun t145=>(some t145)))=some r:=by rw [if_pos rfl] at H;exact H
   clear H
   have H:=H1
   clear H1
   replace H:=zz30.mp H
   obtain ⟨t142,A70,H⟩:=H
   replace H:((spec_grIs.f k t142 l1).bind fun t145=>(some t145))=some r:=H
   have A7:=zz31 A70
   clear A70
   replace H:=zz30.mp H
   obtain ⟨t145,A80,H⟩:=H
   replace H:(some t145)=some r:=H
   have A8:=zz31 A80
   clear A80
   obtain rfl:=Option.some.inj H
   go_enter Try.func33,Try.ntmps33
   go_wp2_with (first | ((with_reducible refine gate_dst (N:=2) rfl ?_);refine box_event ?hg (N:=2) ?hd (cs:=#[.int .i64 a0_0,.slice A0_1 l0_1.length c0_1]) (t:=31) ?hr ?_;(case hd=>rfl);(case hg=>rfl);(case hr=>first | (go_simp;done) | (go_simp;rfl));intro gb139 hg w9 hbox hb;have n0_:=zz31 (zz4 (by repeat first | exact HB.out | apply zz2 | apply zz0 | apply zz1) hb);have n1_:=zz31 (hbox);have n2_:=zz31 ((by rw [hg];exact (zz5 (by repeat first | exact HB.out | apply zz2 | apply zz0 | apply zz1)):w.heap.size≤gb139));have n3_:=zz31 ((by rw [hg];exact (zz5 (by repeat first | exact HB.out | apply zz2 | apply zz0 | apply zz1)):w.heap.size≤gb139));clear HB;have HB:=n0_;have BK139:=n1_;have GW139:=n2_;have GE139:=n3_;clear n0_ n1_ n2_ n3_;clear hb hbox hg;have hcz10_0:w9.cell? ⟨gb139,0,none⟩=some (.int .i64 a0_0):=(zz9 BK139.out 0).trans rfl;have hcz10_1:w9.cell? ⟨gb139,1,none⟩=some (.slice A0_1 l0_1.length c0_1):=(zz9 BK139.out 1).trans rfl;have hfz10_0:=zz10 BK139.out 0;have hfz10_1:=zz10 BK139.out 1) | ((with_reducible refine gate_callee (f:=59) rfl ?_);refine goesL_ (some 6) rfl rfl Try.func59 (by kernel_rfl) rfl #[.agg #[.int .i64 a0_0,.slice A0_1 l0_1.length c0_1]] rfl (by (try simp only [zz26,zz27,zz28]);first | done | rfl | (simp only [zz24,zz25];rfl)) ?_;(with_reducible refine (spec_paGood.calls k a0_0 _ _ l0_1 true _ ?side1 ?side2 A3.out).mono ?_);(case side1=>repeat (first | exact (Kd.C_below HR0_1.out HB.out) | (with_reducible refine zz18 ?_ _) | (with_reducible refine zz19 ?_ _) | (with_reducible refine zz20 ?_)));(case side2=>exact HC0_1.out);rintro e w11 ⟨rfl,hb⟩;refine ⟨_,rfl,?_⟩;have n0_:=zz31 (zz11 (g:=gb139) (o:=.cells #[.int .i64 a0_0,.slice A0_1 l0_1.length c0_1] 31 (0,0)) (by (with_reducible repeat (first | refine zz6 ?_ _ | refine zz7 ?_ | refine zz8 ?_ _));exact BK139.out) hb);have n1_:=zz31 (zz4 (by repeat first | exact HB.out | apply zz2 | apply zz0 | apply zz1 | refine zz3 ?_ GE139.out) hb);clear BK139;clear HB;have BK139:=n0_;have HB:=n1_;clear n0_ n1_;(try clear hb);(try clear hb2);(try clear hk);(try clear hi);have hcz12_0:w11.cell? ⟨gb139,0,none⟩=some (.int .i64 a0_0):=(zz9 BK139.out 0).trans rfl;have hcz12_1:w11.cell? ⟨gb139,1,none⟩=some (.slice A0_1 l0_1.length c0_1):=(zz9 BK139.out 1).trans rfl;have hfz12_0:=zz10 BK139.out 0;have hfz12_1:=zz10 BK139.out 1) | (go_at_call 60;(with_reducible refine (spec_l1Rising.calls k _ _ l1 0 (wrap64 (a0_0 - 1)) true _ ?side1 ?side2 A5.out).mono ?_);(case side1=>repeat (first | exact (Kd.C_below HR1.out HB.out) | (with_reducible refine zz18 ?_ _) | (with_reducible refine zz19 ?_ _) | (with_reducible refine zz20 ?_)));(case side2=>exact HC1.out);rintro e w' ⟨rfl,⟨nd,rfl⟩⟩) | (go_at_call 34;(with_reducible refine (spec_paTable.calls k a0_0 _ _ l0_1 t142 _ ?side1 ?side2 A7.out).mono ?_);(case side1=>repeat (first | exact (Kd.C_below HR0_1.out (by repeat first | exact HB.out | apply zz2 | apply zz0 | apply zz1 | refine zz3 ?_ GE139.out)) | (with_reducible refine zz18 ?_ _) | (with_reducible refine zz19 ?_ _) | (with_reducible refine zz20 ?_)));(case side2=>exact HC0_1.out);rintro e w13 ⟨v143,rfl,ho0,hb⟩;have n0_:=zz31 (Kd.S_lower ho0 (zz5 (by repeat first | exact HB.out | apply zz2 | apply zz0 | apply zz1 | refine zz3 ?_ GE139.out)));have n1_:=zz31 (zz11 (g:=gb139) (o:=.cells #[.int .i64 a0_0,.slice A0_1 l0_1.length c0_1] 31 (0,0)) (by (with_reducible repeat (first | refine zz6 ?_ _ | refine zz7 ?_ | refine zz8 ?_ _));exact BK139.out) hb);have n2_:=zz31 (zz4 (by repeat first | exact HB.out | apply zz2 | apply zz0 | apply zz1 | refine zz3 ?_ GE139.out) hb);clear BK139;clear HB;have HO144:=n0_;have BK139:=n1_;have HB:=n2_;clear n0_ n1_ n2_;(try clear hb);(try clear hb2);(try clear hk);(try clear hi);(try clear ho0);obtain ⟨Ao14,co14,eo14⟩:=Kd.S_slice HO144.out;subst eo14) | (go_at_call 61;(with_reducible refine (spec_grIs.calls k _ _ t142 _ _ l1 t145 _ ?side1 ?side2 ?side3 ?side4 A8.out).mono ?_);(case side1=>repeat (first | exact (Kd.S_reads' HO144.out).2.2 | (with_reducible refine zz18 ?_ _) | (with_reducible refine zz19 ?_ _) | (with_reducible refine zz20 ?_)));(case side2=>exact (Kd.S_reads' HO144.out).2.1);(case side3=>repeat (first | exact (Kd.C_below HR1.out HB.out) | (with_reducible refine zz18 ?_ _) | (with_reducible refine zz19 ?_ _) | (with_reducible refine zz20 ?_)));(case side4=>exact HC1.out);rintro e w' ⟨rfl,⟨nd,rfl⟩⟩))
   go_ret
   exact ⟨by first | rfl | (simp [errW_none,errW_some] <;> rfl) | (simp [*,errW_none,errW_some] <;> rfl),by repeat first | exact HB.out | apply zz2 | apply zz0 | apply zz1 | refine zz3 ?_ GE139.out⟩
  ·replace c6:=Bool.eq_false_iff.mpr c6
   subst c6
   have H1:(some false)=some r:=by rw [if_neg (show ¬ (false=true) by decide)] at H;exact H
   clear H
   have H:=H1
   clear H1
   obtain rfl:=Option.some.inj H
   go_enter Try.func33,Try.ntmps33
   go_wp2_with (first | ((with_reducible refine gate_dst (N:=2) rfl ?_);refine box_event ?hg (N:=2) ?hd (cs:=#[.int .i64 a0_0,.slice A0_1 l0_1.length c0_1]) (t:=31) ?hr ?_;(case hd=>rfl);(case hg=>rfl);(case hr=>first | (go_simp;done) | (go_simp;rfl));intro gb139 hg w15 hbox hb;have n0_:=zz31 (zz4 (by repeat first | exact HB.out | apply zz2 | apply zz0 | apply zz1) hb);have n1_:=zz31 (hbox);have n2_:=zz31 ((by rw [hg];exact (zz5 (by repeat first | exact HB.out | apply zz2 | apply zz0 | apply zz1)):w.heap.size≤gb139));have n3_:=zz31 ((by rw [hg];exact (zz5 (by repeat first | exact HB.out | apply zz2 | apply zz0 | apply zz1)):w.heap.size≤gb139));clear HB;have HB:=n0_;have BK139:=n1_;have GW139:=n2_;have GE139:=n3_;clear n0_ n1_ n2_ n3_;clear hb hbox hg;have hcz16_0:w15.cell? ⟨gb139,0,none⟩=some (.int .i64 a0_0):=(zz9 BK139.out 0).trans rfl;have hcz16_1:w15.cell? ⟨gb139,1,none⟩=some (.slice A0_1 l0_1.length c0_1):=(zz9 BK139.out 1).trans rfl;have hfz16_0:=zz10 BK139.out 0;have hfz16_1:=zz10 BK139.out 1) | ((with_reducible refine gate_callee (f:=59) rfl ?_);refine goesL_ (some 6) rfl rfl Try.func59 (by kernel_rfl) rfl #[.agg #[.int .i64 a0_0,.slice A0_1 l0_1.length c0_1]] rfl (by (try simp only [zz26,zz27,zz28]);first | done | rfl | (simp only [zz24,zz25];rfl)) ?_;(with_reducible refine (spec_paGood.calls k a0_0 _ _ l0_1 true _ ?side1 ?side2 A3.out).mono ?_);(case side1=>repeat (first | exact (Kd.C_below HR0_1.out HB.out) | (with_reducible refine zz18 ?_ _) | (with_reducible refine zz19 ?_ _) | (with_reducible refine zz20 ?_)));(case side2=>exact HC0_1.out);rintro e w17 ⟨rfl,hb⟩;refine ⟨_,rfl,?_⟩;have n0_:=zz31 (zz11 (g:=gb139) (o:=.cells #[.int .i64 a0_0,.slice A0_1 l0_1.length c0_1] 31 (0,0)) (by (with_reducible repeat (first | refine zz6 ?_ _ | refine zz7 ?_ | refine zz8 ?_ _));exact BK139.out) hb);have n1_:=zz31 (zz4 (by repeat first | exact HB.out | apply zz2 | apply zz0 | apply zz1 | refine zz3 ?_ GE139.out) hb);clear BK139;clear HB;have BK139:=n0_;have HB:=n1_;clear n0_ n1_;(try clear hb);(try clear hb2);(try clear hk);(try clear hi);have hcz18_0:w17.cell? ⟨gb139,0,none⟩=some (.int .i64 a0_0):=(zz9 BK139.out 0).trans rfl;have hcz18_1:w17.cell? ⟨gb139,1,none⟩=some (.slice A0_1 l0_1.length c0_1):=(zz9 BK139.out 1).trans rfl;have hfz18_0:=zz10 BK139.out 0;have hfz18_1:=zz10 BK139.out 1) | (go_at_call 60;(with_reducible refine (spec_l1Rising.calls k _ _ l1 0 (wrap64 (a0_0 - 1)) false _ ?side1 ?side2 A5.out).mono ?_);(case side1=>repeat (first | exact (Kd.C_below HR1.out HB.out) | (with_reducible refine zz18 ?_ _) | (with_reducible refine zz19 ?_ _) | (with_reducible refine zz20 ?_)));(case side2=>exact HC1.out);rintro e w' ⟨rfl,⟨nd,rfl⟩⟩))
   go_ret
   exact ⟨by first | rfl | (simp [errW_none,errW_some] <;> rfl) | (simp [*,errW_none,errW_some] <;> rfl),by repeat first | exact HB.out | apply zz2 | apply zz0 | apply zz1 | refine zz3 ?_ GE139.out⟩
 ·replace c4:=Bool.eq_false_iff.mpr c4
  subst c4
  have H1:(some false)=some r:=by rw [if_neg (show ¬ (false=true) by decide)] at H;exact H
  clear H
  have H:=H1
  clear H1
  obtain rfl:=Option.some.inj H
  go_enter Try.func33,Try.ntmps33
  go_wp2_with (first | ((with_reducible refine gate_dst (N:=2) rfl ?_);refine box_event ?hg (N:=2) ?hd (cs:=#[.int .i64 a0_0,.slice A0_1 l0_1.length c0_1]) (t:=31) ?hr ?_;(case hd=>rfl);(case hg=>rfl);(case hr=>first | (go_simp;done) | (go_simp;rfl));intro gb139 hg w19 hbox hb;have n0_:=zz31 (zz4 (by repeat first | exact HB.out | apply zz2 | apply zz0 | apply zz1) hb);have n1_:=zz31 (hbox);have n2_:=zz31 ((by rw [hg];exact (zz5 (by repeat first | exact HB.out | apply zz2 | apply zz0 | apply zz1)):w.heap.size≤gb139));have n3_:=zz31 ((by rw [hg];exact (zz5 (by repeat first | exact HB.out | apply zz2 | apply zz0 | apply zz1)):w.heap.size≤gb139));clear HB;have HB:=n0_;have BK139:=n1_;have GW139:=n2_;have GE139:=n3_;clear n0_ n1_ n2_ n3_;clear hb hbox hg;have hcz20_0:w19.cell? ⟨gb139,0,none⟩=some (.int .i64 a0_0):=(zz9 BK139.out 0).trans rfl;have hcz20_1:w19.cell? ⟨gb139,1,none⟩=some (.slice A0_1 l0_1.length c0_1):=(zz9 BK139.out 1).trans rfl;have hfz20_0:=zz10 BK139.out 0;have hfz20_1:=zz10 BK139.out 1) | ((with_reducible refine gate_callee (f:=59) rfl ?_);refine goesL_ (some 6) rfl rfl Try.func59 (by kernel_rfl) rfl #[.agg #[.int .i64 a0_0,.slice A0_1 l0_1.length c0_1]] rfl (by (try simp only [zz26,zz27,zz28]);first | done | rfl | (simp only [zz24,zz25];rfl)) ?_;(with_reducible refine (spec_paGood.calls k a0_0 _ _ l0_1 false _ ?side1 ?side2 A3.out).mono ?_);(case side1=>repeat (first | exact (Kd.C_below HR0_1.out HB.out) | (with_reducible refine zz18 ?_ _) | (with_reducible refine zz19 ?_ _) | (with_reducible refine zz20 ?_)));(case side2=>exact HC0_1.out);rintro e w21 ⟨rfl,hb⟩;refine ⟨_,rfl,?_⟩;have n0_:=zz31 (zz11 (g:=gb139) (o:=.cells #[.int .i64 a0_0,.slice A0_1 l0_1.length c0_1] 31 (0,0)) (by (with_reducible repeat (first | refine zz6 ?_ _ | refine zz7 ?_ | refine zz8 ?_ _));exact BK139.out) hb);have n1_:=zz31 (zz4 (by repeat first | exact HB.out | apply zz2 | apply zz0 | apply zz1 | refine zz3 ?_ GE139.out) hb);clear BK139;clear HB;have BK139:=n0_;have HB:=n1_;clear n0_ n1_;(try clear hb);(try clear hb2);(try clear hk);(try clear hi)))
  go_ret
  exact ⟨by first | rfl | (simp [errW_none,errW_some] <;> rfl) | (simp [*,errW_none,errW_some] <;> rfl),by repeat first | exact HB.out | apply zz2 | apply zz0 | apply zz1 | refine zz3 ?_ GE139.out⟩

/-! ### spec_grJoins: function 37 -/
def spec_grJoins.l0:Nat→List (List Bool)→Int→List Int→Int→Int→Option (Bool)
 | 0,_,_,_,_,_=>none
 | k+1,x0,x2,x9,x10,x11=>if x11 < x10 then (if 0≤x11 then (if x11 < (x9.length:Int) then (if 0≤x2 then (if x2 < (x0.length:Int) then (if 0≤(rd x9 x11) then (if (rd x9 x11) < ((rd_L4 x0 x2).length:Int) then (if (rdOf false (rd_L4 x0 x2) (rd x9 x11)=true) then (spec_grJoins.l0 k x0 x2 x9 x10 (wrap64 (x11+1))) else (some false)) else (none)) else (none)) else (none)) else (none)) else (none)) else (none)) else (some true)
def spec_grJoins.f (k:Nat) (l0:List (List Bool)) (l1:List Int) (a2:Int):Option (Bool):=spec_grJoins.l0 k l0 a2 l1 (l1.length:Int) 0
theorem spec_grJoins.mono_l:∀ k,(∀ y0 y1 y2 y3 y4,LeO (spec_grJoins.l0 k y0 y1 y2 y3 y4) (spec_grJoins.l0 (k+1) y0 y1 y2 y3 y4))
 | 0=>fun _ _ _ _ _ r h=>by simp [spec_grJoins.l0] at h
 | k+1=>by
  have ih0:=spec_grJoins.mono_l k
  ·intro y0 y1 y2 y3 y4
   unfold spec_grJoins.l0
   repeat' first
   | (with_reducible exact ih0 _ _ _ _ _)
   | (with_reducible exact LeO.refl _)
   | (with_reducible exact LeO.none _)
   | (with_reducible refine LeO.ite ?_ ?_)
   | (with_reducible refine LeO.bind ?_ (fun _=>?_))
   | exact ih0 _ _ _ _ _
   | exact LeO.none _
   | refine LeO.ite ?_ ?_
   | refine LeO.bind ?_ (fun _=>?_)
theorem spec_grJoins.mono:∀ a0 a1 a2 k,LeO (spec_grJoins.f k a0 a1 a2) (spec_grJoins.f (k+1) a0 a1 a2):=by
 intro a0 a1 a2 k
 have ih0:=spec_grJoins.mono_l k
 unfold spec_grJoins.f
 repeat' first
   | (with_reducible exact ih0 _ _ _ _ _)
   | (with_reducible exact LeO.refl _)
   | (with_reducible exact LeO.none _)
   | (with_reducible refine LeO.ite ?_ ?_)
   | (with_reducible refine LeO.bind ?_ (fun _=>?_))
   | exact ih0 _ _ _ _ _
   | exact LeO.none _
   | refine LeO.ite ?_ ?_
   | refine LeO.bind ?_ (fun _=>?_)
set_option maxHeartbeats 8000000 in
set_option maxRecDepth 100000 in
theorem spec_grJoins.calls (k:Nat) (A0:Option Addr) (c0:Nat) (l0:List (List Bool)) (A1:Option Addr) (c1:Nat) (l1:List Int) (a2:Int) (r:Bool) (w:World) (hr0:Kd.C (Kd.slice 4 Kd.bool) w A0 l0.length l0) (hc0:l0.length≤c0) (hr1:Kd.C (Kd.int .i64) w A1 l1.length l1) (hc1:l1.length≤c1) (h:spec_grJoins.f k l0 l1 a2=some r) :
  Calls Try.prog 37 #[.slice A0 l0.length c0,.slice A1 l1.length c1,.int .i64 a2] w fun e w'=>e=.returned (.bool r)∧Drawn0 w w':=by
 have HR0:=zz31 hr0
 have HC0:=zz31 hc0
 clear hr0 hc0
 have HR1:=zz31 hr1
 have HC1:=zz31 hc1
 clear hr1 hc1
 have H:(spec_grJoins.l0 k l0 a2 l1 (l1.length:Int) 0)=some r:=h
 clear h
 have H':=zz31 H
 clear H
 go_enter Try.func37,Try.ntmps37
 go_wp2
 go_loopg [11] k (fun kq v11 w'=>∃ (x11_1:Int),v11=.int .i64 x11_1∧Aside0 (spec_grJoins.l0 kq l0 a2 l1 (l1.length:Int) x11_1=some r)∧Aside0 (kq≤k)∧Drawn0 w w')
 case atStart=>exact ⟨(0),(by first | rfl | (simp;done) | (simp [*];done)),H',⟨Nat.le_refl _⟩,by repeat (first | exact Drawn0.refl _ | apply Drawn0.step)⟩
 case round =>
  clear H'
  try clear c1
  try clear p2
  try clear c3
  obtain ⟨x11_1,rfl,HA,HK1,⟨m1,rfl⟩⟩:=hrel
  cases gk with
  | zero=>exact absurd HA.out (by simp [spec_grJoins.l0])
  | succ k1 =>
   have H:=HA.out
   clear HA
   simp only [spec_grJoins.l0] at H
   by_cases c4:x11_1 < (l1.length:Int)
   ·rw [if_pos c4] at H
    have c4b0:decide (x11_1 < (l1.length:Int))=true:=decide_eq_true c4
    clear c4
    by_cases c5:0≤x11_1
    ·rw [if_pos c5] at H
     have c5b0:decide (0≤x11_1)=true:=decide_eq_true c5
     clear c5
     by_cases c6:x11_1 < (l1.length:Int)
     ·rw [if_pos c6] at H
      have c6b0:decide (x11_1 < (l1.length:Int))=true:=decide_eq_true c6
      clear c6
      by_cases c7:0≤a2
      ·rw [if_pos c7] at H
       have c7b0:decide (0≤a2)=true:=decide_eq_true c7
       clear c7
       by_cases c8:a2 < (l0.length:Int)
       ·rw [if_pos c8] at H
        have c8b0:decide (a2 < (l0.length:Int))=true:=decide_eq_true c8
        clear c8
        by_cases c9:0≤(rd l1 x11_1)
        ·rw [if_pos c9] at H
         have c9b0:decide (0≤(rd l1 x11_1))=true:=decide_eq_true c9
         clear c9
         by_cases c10:(rd l1 x11_1) < ((rd_L4 l0 a2).length:Int)
         ·rw [if_pos c10] at H
          have c10b0:decide ((rd l1 x11_1) < ((rd_L4 l0 a2).length:Int))=true:=decide_eq_true c10
          clear c10
          obtain ⟨bq11,hbq11⟩:∃ b_:Bool,b_=(rdOf false (rd_L4 l0 a2) (rd l1 x11_1)):=⟨_,rfl⟩
          replace H:(if (bq11=true) then (spec_grJoins.l0 k1 l0 a2 l1 (l1.length:Int) (wrap64 (x11_1+1))) else (some false))=some r:=by rw [← hbq11] at H;exact H
          have Nbq11:=zz31 hbq11
          clear hbq11
          by_cases c12:(bq11=true)
          ·subst c12
           have H1:(spec_grJoins.l0 k1 l0 a2 l1 (l1.length:Int) (wrap64 (x11_1+1)))=some r:=by rw [if_pos rfl] at H;exact H
           clear H
           have H:=H1
           clear H1
           have H':=zz31 H
           clear H
           have p153:0≤(x11_1:Int):=zz29 (by first | (with_reducible assumption) | assumption)
           have q153:x11_1 < (l1.length:Int):=zz29 (by first | (with_reducible assumption) | assumption)
           obtain ⟨ad153,e153,hx153_0⟩:=Kd.at_int HR1.out x11_1 p153 q153
           cases e153
           replace p153:=eq_true p153
           replace q153:=eq_true q153
           have p154:0≤(a2:Int):=zz29 (by first | (with_reducible assumption) | assumption)
           have q154:a2 < (l0.length:Int):=zz29 (by first | (with_reducible assumption) | assumption)
           obtain ⟨ad154,A154_0,c154_0,e154,hx154_0,hl154_0,hi154_0⟩:=at_L4 HR0.out a2 p154 q154
           cases e154
           have HR154_0:=zz31 hi154_0
           have HC154_0:=zz31 hl154_0
           clear hi154_0 hl154_0
           replace p154:=eq_true p154
           replace q154:=eq_true q154
           have p155:0≤((rd l1 x11_1):Int):=zz29 (by first | (with_reducible assumption) | assumption)
           have q155:(rd l1 x11_1) < ((rd_L4 l0 a2).length:Int):=zz29 (by first | (with_reducible assumption) | assumption)
           obtain ⟨ad155,e155,hx155_0⟩:=Kd.at_bool HR154_0.out (rd l1 x11_1) p155 q155
           (try rw [← Nbq11.out] at hx155_0)
           cases e155
           replace p155:=eq_true p155
           replace q155:=eq_true q155
           go_wp2
           go_roundg k1
           case measure=>have:=HK1.out;omega
           case rel=>exact ⟨(wrap64 (x11_1+1)),(by first | rfl | (simp;done) | (simp [*];done)),H',⟨by have:=HK1.out;omega⟩,by repeat (first | exact Drawn0.refl _ | apply Drawn0.step)⟩
          ·replace c12:=Bool.eq_false_iff.mpr c12
           subst c12
           have H1:(some false)=some r:=by rw [if_neg (show ¬ (false=true) by decide)] at H;exact H
           clear H
           have H:=H1
           clear H1
           obtain rfl:=Option.some.inj H
           have p153:0≤(x11_1:Int):=zz29 (by first | (with_reducible assumption) | assumption)
           have q153:x11_1 < (l1.length:Int):=zz29 (by first | (with_reducible assumption) | assumption)
           obtain ⟨ad153,e153,hx153_0⟩:=Kd.at_int HR1.out x11_1 p153 q153
           cases e153
           replace p153:=eq_true p153
           replace q153:=eq_true q153
           have p154:0≤(a2:Int):=zz29 (by first | (with_reducible assumption) | assumption)
           have q154:a2 < (l0.length:Int):=zz29 (by first | (with_reducible assumption) | assumption)
           obtain ⟨ad154,A154_0,c154_0,e154,hx154_0,hl154_0,hi154_0⟩:=at_L4 HR0.out a2 p154 q154
           cases e154
           have HR154_0:=zz31 hi154_0
           have HC154_0:=zz31 hl154_0
           clear hi154_0 hl154_0
           replace p154:=eq_true p154
           replace q154:=eq_true q154
           have p155:0≤((rd l1 x11_1):Int):=zz29 (by first | (with_reducible assumption) | assumption)
           have q155:(rd l1 x11_1) < ((rd_L4 l0 a2).length:Int):=zz29 (by first | (with_reducible assumption) | assumption)
           obtain ⟨ad155,e155,hx155_0⟩:=Kd.at_bool HR154_0.out (rd l1 x11_1) p155 q155
           (try rw [← Nbq11.out] at hx155_0)
           cases e155
           replace p155:=eq_true p155
           replace q155:=eq_true q155
           go_wp2
           go_ret
           exact ⟨by first | rfl | (simp;done) | (simp [*];done),by repeat (first | exact Drawn0.refl _ | apply Drawn0.step)⟩
         ·rw [if_neg c10] at H
          exact absurd H (by simp)
        ·rw [if_neg c9] at H
         exact absurd H (by simp)
       ·rw [if_neg c8] at H
        exact absurd H (by simp)
      ·rw [if_neg c7] at H
       exact absurd H (by simp)
     ·rw [if_neg c6] at H
      exact absurd H (by simp)
    ·rw [if_neg c5] at H
     exact absurd H (by simp)
   ·rw [if_neg c4] at H
    have c4b0:decide (x11_1 < (l1.length:Int))=false:=decide_eq_false c4
    clear c4
    obtain rfl:=Option.some.inj H
    go_wp2
    go_ret
    exact ⟨by first | rfl | (simp;done) | (simp [*];done),by repeat (first | exact Drawn0.refl _ | apply Drawn0.step)⟩

/-! ### spec_l1Put: function 38 -/
def spec_l1Put.l0:Nat→List Int→Int→Int→Option (List Int)
 | 0,_,_,_=>none
 | k+1,x0,x1,x5=>if x5 < (x0.length:Int) then (if 0≤x5 then (if (rd x0 x5) < x1 then (spec_l1Put.l0 k x0 x1 (wrap64 (x5+1))) else (if (rd x0 x5)=x1 then (some x0) else ((some (([]:List Int):List Int)).bind fun y158=>(if x5≤(x0.length:Int) then ((some (x0.take (x5:Int).toNat:List Int)).bind fun y161=>(if y158.length+y161.length < 17592186044416 then ((some (y158 ++ y161:List Int)).bind fun y165=>(if y165.length < 17592186044416 then ((some (y165 ++ [x1]:List Int)).bind fun y168=>((some (x0.drop (x5:Int).toNat:List Int)).bind fun y171=>(if y168.length+y171.length < 17592186044416 then (some (y168 ++ y171)) else (none)))) else (none))) else (none))) else (none))))) else (none)) else ((some (([]:List Int):List Int)).bind fun y178=>(if 0≤x5 then (if x5≤(x0.length:Int) then ((some (x0.take (x5:Int).toNat:List Int)).bind fun y181=>(if y178.length+y181.length < 17592186044416 then ((some (y178 ++ y181:List Int)).bind fun y185=>(if y185.length < 17592186044416 then ((some (y185 ++ [x1]:List Int)).bind fun y188=>((some (x0.drop (x5:Int).toNat:List Int)).bind fun y191=>(if y188.length+y191.length < 17592186044416 then (some (y188 ++ y191)) else (none)))) else (none))) else (none))) else (none)) else (none)))
def spec_l1Put.f (k:Nat) (l0:List Int) (a1:Int):Option (List Int):=spec_l1Put.l0 k l0 a1 0
theorem spec_l1Put.mono_l:∀ k,(∀ y0 y1 y2,LeO (spec_l1Put.l0 k y0 y1 y2) (spec_l1Put.l0 (k+1) y0 y1 y2))
 | 0=>fun _ _ _ r h=>by simp [spec_l1Put.l0] at h
 | k+1=>by
  have ih0:=spec_l1Put.mono_l k
  ·intro y0 y1 y2
   unfold spec_l1Put.l0
   repeat' first
   | (with_reducible exact ih0 _ _ _)
   | (with_reducible exact LeO.refl _)
   | (with_reducible exact LeO.none _)
   | (with_reducible refine LeO.ite ?_ ?_)
   | (with_reducible refine LeO.bind ?_ (fun _=>?_))
   | exact ih0 _ _ _
   | exact LeO.none _
   | refine LeO.ite ?_ ?_
   | refine LeO.bind ?_ (fun _=>?_)
theorem spec_l1Put.mono:∀ a0 a1 k,LeO (spec_l1Put.f k a0 a1) (spec_l1Put.f (k+1) a0 a1):=by
 intro a0 a1 k
 have ih0:=spec_l1Put.mono_l k
 unfold spec_l1Put.f
 repeat' first
   | (with_reducible exact ih0 _ _ _)
   | (with_reducible exact LeO.refl _)
   | (with_reducible exact LeO.none _)
   | (with_reducible refine LeO.ite ?_ ?_)
   | (with_reducible refine LeO.bind ?_ (fun _=>?_))
   | exact ih0 _ _ _
   | exact LeO.none _
   | refine LeO.ite ?_ ?_
   | refine LeO.bind ?_ (fun _=>?_)
set_option maxHeartbeats 8000000 in
set_option maxRecDepth 100000 in
theorem spec_l1Put.calls (k:Nat) (P0_:Nat→Prop) (u9000_:Value) (l0:List Int) (a1:Int) (r:List Int) (w0 w:World) (hB:Below w0.heap.size w0 w) (ho0:Kd.R (Kd.int .i64) 3 w w0.heap.size P0_ u9000_ l0) (h:spec_l1Put.f k l0 a1=some r) :
  Calls Try.prog 38 #[u9000_,.int .i64 a1] w fun e w'=>∃ v0_:Value,e=.returned (v0_)∧Kd.R (Kd.int .i64) 3 w' w0.heap.size (fun k_=>(P0_ k_ ∨ w.heap.size≤k_)) v0_ r∧Below w0.heap.size w0 w'∧Kept w w' (fun k_=>P0_ k_):=by
 have HO0:=zz31 (show Kd.R (Kd.int .i64) 3 w w0.heap.size (fun k_=>(P0_ k_ ∨ w.heap.size≤k_)) u9000_ l0 from Kd.R_mono ho0 (fun k_ hk=>(.inl hk)))
 have HK:=zz31 (Kept.refl w (fun k_=>P0_ k_))
 have HW0:=zz31 hB.size
 have HB:=zz31 hB
 clear hB
 have H:(spec_l1Put.l0 k l0 a1 0)=some r:=h
 clear h
 have H':=zz31 H
 clear H
 go_enter Try.func38,Try.ntmps38
 go_wp2
 go_loopg [5] k (fun kq v5 w'=>∃ (x5_1:Int),v5=.int .i64 x5_1∧Aside0 (spec_l1Put.l0 kq l0 a1 x5_1=some r)∧Aside0 (kq≤k)∧Aside0 (Kd.R (Kd.int .i64) 3 w' w0.heap.size (fun k_=>(P0_ k_ ∨ w.heap.size≤k_)) u9000_ l0)∧Aside0 (Kept w w' (fun k_=>P0_ k_))∧Aside0 (Below w0.heap.size w0 w'))
 case atStart=>exact ⟨(0),(by first | rfl | (simp;done) | (simp [*];done)),H',⟨Nat.le_refl _⟩,⟨by (with_reducible repeat (first | apply zz12 | apply zz13 | apply zz14));exact HO0.out⟩,⟨by repeat (first | (with_reducible first | exact HK.out | apply Kept.alloc | apply Kept.drewN | apply Kept.drew) | exact HK.out)⟩,⟨by repeat first | exact HB.out | apply zz2 | apply zz0 | apply zz1⟩⟩
 case round =>
  clear H'
  try clear p2
  obtain ⟨x5_1,rfl,HA,HK1,HO_0,HK,HB⟩:=hrel
  cases gk with
  | zero=>exact absurd HA.out (by simp [spec_l1Put.l0])
  | succ k1 =>
   have H:=HA.out
   clear HA
   simp only [spec_l1Put.l0] at H
   by_cases c3:x5_1 < (l0.length:Int)
   ·rw [if_pos c3] at H
    have c3b0:decide (x5_1 < (l0.length:Int))=true:=decide_eq_true c3
    clear c3
    by_cases c4:0≤x5_1
    ·rw [if_pos c4] at H
     have c4b0:decide (0≤x5_1)=true:=decide_eq_true c4
     clear c4
     by_cases c5:(rd l0 x5_1) < a1
     ·rw [if_pos c5] at H
      have c5b0:decide ((rd l0 x5_1) < a1)=true:=decide_eq_true c5
      clear c5
      have H':=zz31 H
      clear H
      obtain ⟨Ao6,co6,eo6⟩:=Kd.R_slice HO_0.out
      subst eo6
      have p156:0≤(x5_1:Int):=zz29 (by first | (with_reducible assumption) | assumption)
      have q156:x5_1 < (l0.length:Int):=zz29 (by first | (with_reducible assumption) | assumption)
      obtain ⟨ad156,e156,hx156_0⟩:=Kd.at_int (Kd.R_reads' HO_0.out).2.2 x5_1 p156 q156
      cases e156
      replace p156:=eq_true p156
      replace q156:=eq_true q156
      go_wp2
      go_roundg k1
      case measure=>have:=HK1.out;omega
      case rel=>exact ⟨(wrap64 (x5_1+1)),(by first | rfl | (simp;done) | (simp [*];done)),H',⟨by have:=HK1.out;omega⟩,⟨by (with_reducible repeat (first | apply zz12 | apply zz13 | apply zz14));exact HO_0.out⟩,⟨by repeat (first | (with_reducible first | exact HK.out | apply Kept.alloc | apply Kept.drewN | apply Kept.drew) | exact HK.out)⟩,⟨by repeat first | exact HB.out | apply zz2 | apply zz0 | apply zz1⟩⟩
     ·rw [if_neg c5] at H
      have c5b0:decide ((rd l0 x5_1) < a1)=false:=decide_eq_false c5
      clear c5
      by_cases c7:(rd l0 x5_1)=a1
      ·rw [if_pos c7] at H
       have c7b0:((rd l0 x5_1) == a1)=true:=beq_iff_eq.mpr c7
       have c7b1:((rd l0 x5_1) != a1)=false:=bne_eq_false_iff_eq.mpr c7
       clear c7
       obtain rfl:=Option.some.inj H
       obtain ⟨Ao8,co8,eo8⟩:=Kd.R_slice HO_0.out
       subst eo8
       have p156:0≤(x5_1:Int):=zz29 (by first | (with_reducible assumption) | assumption)
       have q156:x5_1 < (l0.length:Int):=zz29 (by first | (with_reducible assumption) | assumption)
       obtain ⟨ad156,e156,hx156_0⟩:=Kd.at_int (Kd.R_reads' HO_0.out).2.2 x5_1 p156 q156
       cases e156
       replace p156:=eq_true p156
       replace q156:=eq_true q156
       have p157:0≤(x5_1:Int):=zz29 (by first | (with_reducible assumption) | assumption)
       have q157:x5_1 < (l0.length:Int):=zz29 (by first | (with_reducible assumption) | assumption)
       obtain ⟨ad157,e157,hx157_0⟩:=Kd.at_int (Kd.R_reads' HO_0.out).2.2 x5_1 p157 q157
       obtain rfl:ad156=ad157:=(by injection e157)
       replace p157:=eq_true p157
       replace q157:=eq_true q157
       go_wp2
       go_ret
       exact ⟨_,by first | rfl | (simp [errW_none,errW_some] <;> rfl) | (simp [*,errW_none,errW_some] <;> rfl),by (with_reducible repeat (first | apply zz12 | apply zz13 | apply zz14));exact HO_0.out,by repeat first | exact HB.out | apply zz2 | apply zz0 | apply zz1,by repeat (first | (with_reducible first | exact HK.out | apply Kept.alloc | apply Kept.drewN | apply Kept.drew) | exact HK.out)⟩
      ·rw [if_neg c7] at H
       have c7b0:((rd l0 x5_1) == a1)=false:=beq_eq_false_iff_ne.mpr c7
       have c7b1:((rd l0 x5_1) != a1)=true:=bne_iff_ne.mpr c7
       obtain ⟨y158,hy158⟩:∃ y_:List Int,y_=(([]:List Int)):=⟨_,rfl⟩
       replace H:(if x5_1≤(l0.length:Int) then ((some (l0.take (x5_1:Int).toNat:List Int)).bind fun y161=>(if y158.length+y161.length < 17592186044416 then ((some (y158 ++ y161:List Int)).bind fun y165=>(if y165.length < 17592186044416 then ((some (y165 ++ [a1]:List Int)).bind fun y168=>((some (l0.drop (x5_1:Int).toNat:List Int)).bind fun y171=>(if y168.length+y171.length < 17592186044416 then (some (y168 ++ y171)) else (none)))) else (none))) else (none))) else (none))=some r:=by first | (rw [hy158];with_reducible exact H) | (have H2_:=(Option.bind_some _ _).symm.trans H;rw [hy158];with_reducible exact H2_) | (have H2_:=(Option.bind_some _ _).symm.trans H;with_reducible exact H2_) | with_reducible exact H | (rw [hy158];exact H) | exact H
       have Ny158:=zz31 hy158
       clear hy158
       have c9b0:=eq_true (zz29 (by first | (with_reducible assumption) | assumption):0≤x5_1)
       by_cases c10:x5_1≤(l0.length:Int)
       ·rw [if_pos c10] at H
        have c10b0:=eq_true c10
        have c10b1:decide (x5_1≤(l0.length:Int))=true:=decide_eq_true c10
        clear c10
        obtain ⟨y161,hy161⟩:∃ y_:List Int,y_=(l0.take (x5_1:Int).toNat):=⟨_,rfl⟩
        replace H:(if y158.length+y161.length < 17592186044416 then ((some (y158 ++ y161:List Int)).bind fun y165=>(if y165.length < 17592186044416 then ((some (y165 ++ [a1]:List Int)).bind fun y168=>((some (l0.drop (x5_1:Int).toNat:List Int)).bind fun y171=>(if y168.length+y171.length < 17592186044416 then (some (y168 ++ y171)) else (none)))) else (none))) else (none))=some r:=by first | (rw [hy161];with_reducible exact H) | (have H2_:=(Option.bind_some _ _).symm.trans H;rw [hy161];with_reducible exact H2_) | (have H2_:=(Option.bind_some _ _).symm.trans H;with_reducible exact H2_) | with_reducible exact H | (rw [hy161];exact H) | exact H
        have Ny161:=zz31 hy161
        clear hy161
        by_cases c11:y158.length+y161.length < 17592186044416
        ·rw [if_pos c11] at H
         have LMc11:=zz31 c11
         clear c11
         obtain ⟨y165,hy165⟩:∃ y_:List Int,y_=(y158 ++ y161):=⟨_,rfl⟩
         replace H:(if y165.length < 17592186044416 then ((some (y165 ++ [a1]:List Int)).bind fun y168=>((some (l0.drop (x5_1:Int).toNat:List Int)).bind fun y171=>(if y168.length+y171.length < 17592186044416 then (some (y168 ++ y171)) else (none)))) else (none))=some r:=by first | (rw [hy165];with_reducible exact H) | (have H2_:=(Option.bind_some _ _).symm.trans H;rw [hy165];with_reducible exact H2_) | (have H2_:=(Option.bind_some _ _).symm.trans H;with_reducible exact H2_) | with_reducible exact H | (rw [hy165];exact H) | exact H
         have Ny165:=zz31 hy165
         clear hy165
         by_cases c12:y165.length < 17592186044416
         ·rw [if_pos c12] at H
          have LMc12:=zz31 c12
          clear c12
          obtain ⟨y168,hy168⟩:∃ y_:List Int,y_=(y165 ++ [a1]):=⟨_,rfl⟩
          replace H:((some (l0.drop (x5_1:Int).toNat:List Int)).bind fun y171=>(if y168.length+y171.length < 17592186044416 then (some (y168 ++ y171)) else (none)))=some r:=by first | (rw [hy168];with_reducible exact H) | (have H2_:=(Option.bind_some _ _).symm.trans H;rw [hy168];with_reducible exact H2_) | (have H2_:=(Option.bind_some _ _).symm.trans H;with_reducible exact H2_) | with_reducible exact H | (rw [hy168];exact H) | exact H
          have Ny168:=zz31 hy168
          clear hy168
          have c13b0:=eq_true (zz29 (by first | (with_reducible assumption) | assumption):0≤x5_1)
          have c14b0:=eq_true (zz29 (by first | (with_reducible assumption) | assumption):x5_1≤(l0.length:Int))
          obtain ⟨y171,hy171⟩:∃ y_:List Int,y_=(l0.drop (x5_1:Int).toNat):=⟨_,rfl⟩
          replace H:(if y168.length+y171.length < 17592186044416 then (some (y168 ++ y171)) else (none))=some r:=by first | (rw [hy171];with_reducible exact H) | (have H2_:=(Option.bind_some _ _).symm.trans H;rw [hy171];with_reducible exact H2_) | (have H2_:=(Option.bind_some _ _).symm.trans H;with_reducible exact H2_) | with_reducible exact H | (rw [hy171];exact H) | exact H
          have Ny171:=zz31 hy171
          clear hy171
          by_cases c15:y168.length+y171.length < 17592186044416
          ·rw [if_pos c15] at H
           have LMc15:=zz31 c15
           clear c15
           obtain ⟨y175,hy175⟩:∃ y_:List Int,y_=(y168 ++ y171):=⟨_,rfl⟩
           replace H:(some y175)=some r:=by first | (rw [hy175];with_reducible exact H) | (have H2_:=(Option.bind_some _ _).symm.trans H;rw [hy175];with_reducible exact H2_) | (have H2_:=(Option.bind_some _ _).symm.trans H;with_reducible exact H2_) | with_reducible exact H | (rw [hy175];exact H) | exact H
           have Ny175:=zz31 hy175
           clear hy175
           obtain rfl:=Option.some.inj H
           obtain ⟨Ao16,co16,eo16⟩:=Kd.R_slice HO_0.out
           subst eo16
           have p156:0≤(x5_1:Int):=zz29 (by first | (with_reducible assumption) | assumption)
           have q156:x5_1 < (l0.length:Int):=zz29 (by first | (with_reducible assumption) | assumption)
           obtain ⟨ad156,e156,hx156_0⟩:=Kd.at_int (Kd.R_reads' HO_0.out).2.2 x5_1 p156 q156
           cases e156
           replace p156:=eq_true p156
           replace q156:=eq_true q156
           have p157:0≤(x5_1:Int):=zz29 (by first | (with_reducible assumption) | assumption)
           have q157:x5_1 < (l0.length:Int):=zz29 (by first | (with_reducible assumption) | assumption)
           obtain ⟨ad157,e157,hx157_0⟩:=Kd.at_int (Kd.R_reads' HO_0.out).2.2 x5_1 p157 q157
           obtain rfl:ad156=ad157:=(by injection e157)
           replace p157:=eq_true p157
           replace q157:=eq_true q157
           go_wp2_with (first | ((with_reducible refine gate_dst (N:=34) rfl ?_);refine Kd.R_lit (Kd.int .i64) _ 3 ?hg (N:=34) ?hd (xs:=([]:List Int)) (inner:=[]) (ok:=fun _=>True) (okp:=fun _=>True) ?hr ?hp (fun _ hk=>hk) trivial (Below.refl _ _) (Nat.le_refl _) (by simp) ?_;(case hd=>rfl);(case hg=>rfl);(case hr=>first | (go_simp;done) | (go_simp;rfl));(case hp=>exact (Reps.none _ _));intro v159 w17 ho18 hb hg_ hnew_;clear hg_ hnew_;(first | rw [← Ny158.out] at ho18 | (simp only [Int.reduceToNat] at ho18;rw [← Ny158.out] at ho18));have n0_:=zz31 (Kd.R_elder' (by (with_reducible repeat (first | apply zz12 | apply zz13 | apply zz14));exact HO_0.out) (Kd.R_base ho18) hb);have n1_:=zz31 (Kd.R_lower (Kd.R_new' (Kd.R_newM (M:=fun k_=>(P0_ k_ ∨ w.heap.size≤k_)) ho18 (by first | exact HK.out.1 | exact (show Kept w _ (fun k_=>P0_ k_) from by repeat (first | (with_reducible first | exact HK.out | apply Kept.alloc | apply Kept.drewN | apply Kept.drew) | exact HK.out)).1) (fun k_ h_=>.inr h_)) (Kd.R_lt (by (with_reducible repeat (first | apply zz12 | apply zz13 | apply zz14));exact HO_0.out))) (zz5 (by repeat first | exact HB.out | apply zz2 | apply zz0 | apply zz1)));have n2_:=zz31 (Kept.below (S:=(fun k_=>P0_ k_)) (by repeat (first | (with_reducible first | exact HK.out | apply Kept.alloc | apply Kept.drewN | apply Kept.drew) | exact HK.out)) hb);have n3_:=zz31 (zz4 (by repeat first | exact HB.out | apply zz2 | apply zz0 | apply zz1) hb);clear HO_0;clear HK;clear HB;have HO_0:=n0_;have HO160:=n1_;have HK:=n2_;have HB:=n3_;clear n0_ n1_ n2_ n3_;clear hb ho18;have q19:(x5_1:Int)≤((l0.length:Int):Int):=zz29 (by first | (with_reducible assumption) | assumption);obtain ⟨i019,hi019,_,hsz19,_⟩:=info_parts info3;have hroom19:l0.length≤co16:=(Kd.R_reads' HO_0.out).2.1;have hC19:Kd.C (Kd.int .i64) _ (some ad156) l0.length l0:=(Kd.R_reads' HO_0.out).2.2;have hcut19:=cut_to (P:=Try.prog) 25 3 .i64 Try.underlying25 hi019 (some ad156) l0.length co16 x5_1 (zz29 (by first | (with_reducible assumption) | assumption)) q19 hroom19;have hr19:=Kd.C_take (m:=(x5_1:Int).toNat) hC19 (by omega);have hy19:y161.length=(x5_1:Int).toNat:=(by rw [Ny161.out,zz25];omega);rw [← Ny161.out] at hr19;rw [← hy19] at hcut19;have HR164:=zz31 hr19;have HC164:=zz31 (show y161.length≤co16 from by omega);clear hr19 hC19 hroom19 hi019 hsz19;have KY19:=zz31 hy19;clear hy19;have KL19:=zz31 (show (x5_1:Int).toNat≤l0.length from by omega);replace q19:=eq_true q19) | ((with_reducible refine gate_builtin (b:=.append) (xs:=#[.tmp 34,.tmp 37]) rfl ?_);at_builtin;refine Kd.R_append_rows (Kd.int .i64) (w0:=w0) w0.heap.size rfl (.tmp 34) (.tmp 37) 25 3 (.int .i64 0) 8 rfl Try.underlying25 info3 rfl (by decide) (by omega) v159 y158 y161 _ _ _ (fun k_=>(P0_ k_ ∨ w.heap.size≤k_)∧some k_ ≠ (.slice (some ad156) l0.length co16:Value).ownBlock) (fun _=>False) rfl rfl ?aO ?aR (fun _ _ h=>h) (fun _ h=>h.elim) ?aF ?aB ?aS ?aL ?_;(case aR=>repeat (first | exact (by repeat (first | (with_reducible exact HR164.out) | (with_reducible refine zz18 ?_ _) | (with_reducible refine zz19 ?_ _) | (with_reducible refine zz20 ?_) | exact HR164.out)) | (with_reducible refine zz18 ?_ _) | (with_reducible refine zz19 ?_ _) | (with_reducible refine zz20 ?_)));(case aB=>exact (by repeat first | exact HB.out | apply zz2 | apply zz0 | apply zz1));(case aF=>exact (fun k_ hk=>⟨(.inr (Nat.le_trans (by first | exact HK.out.1 | exact (show Kept w _ (fun k_=>P0_ k_) from by repeat (first | (with_reducible first | exact HK.out | apply Kept.alloc | apply Kept.drewN | apply Kept.drew) | exact HK.out)).1) hk)),Kd.fresh' (Kd.R_lt (by (with_reducible repeat (first | apply zz12 | apply zz13 | apply zz14));exact HO_0.out)) k_ hk⟩));(case aO=>exact (by (with_reducible repeat (first | apply zz12 | apply zz13 | apply zz14));exact Kd.R_mono HO160.out (fun _ hk=>⟨hk.1.1,hk.2⟩)));(case aS=>exact (zz5 (by repeat first | exact HB.out | apply zz2 | apply zz0 | apply zz1)));(case aL=>have:=LMc11.out;omega);intro v166 w20 ho hb hg hat;rw [← Ny165.out] at ho;have n0_:=zz31 (Kd.R_after (ok:=(fun k_=>(P0_ k_ ∨ w.heap.size≤k_))) (by (with_reducible repeat (first | apply zz12 | apply zz13 | apply zz14));exact HO_0.out) hg hat);have n1_:=zz31 (hb);have n2_:=zz31 (Kept.of_grown (S:=(fun k_=>P0_ k_)) hg (by repeat (first | (with_reducible first | exact HK.out | apply Kept.alloc | apply Kept.drewN | apply Kept.drew) | exact HK.out)) (fun k_ e_=>(HO160.out.1 k_ e_).1.1));have n3_:=zz31 ((show Kd.C (Kd.int .i64) w20 (some ad156) y161.length y161 from by rw [Ny161.out];exact Kd.C_take (m:=(x5_1:Int).toNat) ((Kd.R_reads' (Kd.R_after (ok:=(fun k_=>(P0_ k_ ∨ w.heap.size≤k_))) (by (with_reducible repeat (first | apply zz12 | apply zz13 | apply zz14));exact HO_0.out) hg hat)).2.2) KL19.out));have n4_:=zz31 (ho);clear HO_0;clear HB;clear HK;clear HR164;clear HO160;have HO_0:=n0_;have HB:=n1_;have HK:=n2_;have HR164:=n3_;have HO167:=n4_;clear n0_ n1_ n2_ n3_ n4_;clear ho hb hg hat) | ((with_reducible refine gate_builtin (b:=.append) (xs:=#[.tmp 39,.tmp 41]) rfl ?_);at_builtin;refine Kd.R_append (Kd.int .i64) (w0:=w0) w0.heap.size rfl (.tmp 39) (.tmp 41) 25 3 (.int .i64 0) 8 rfl Try.underlying25 info3 rfl (by decide) (by omega) v166 y165 a1 [.int .i64 a1] (fun k_=>(P0_ k_ ∨ w.heap.size≤k_)∧some k_ ≠ (.slice (some ad156) l0.length co16:Value).ownBlock) (fun _=>False) rfl rfl ?aP (fun _ hk=>hk.elim) ?aF ?aO ?aB ?aS ?aL ?_;(case aP=>exact rfl);(case aB=>exact (by repeat first | exact HB.out | apply zz2 | apply zz0 | apply zz1));(case aF=>exact (fun k_ hk=>⟨(.inr (Nat.le_trans (by first | exact HK.out.1 | exact (show Kept w _ (fun k_=>P0_ k_) from by repeat (first | (with_reducible first | exact HK.out | apply Kept.alloc | apply Kept.drewN | apply Kept.drew) | exact HK.out)).1) hk)),Kd.fresh' (Kd.R_lt (by (with_reducible repeat (first | apply zz12 | apply zz13 | apply zz14));exact HO_0.out)) k_ hk⟩));(case aO=>exact (by (with_reducible repeat (first | apply zz12 | apply zz13 | apply zz14));exact HO167.out));(case aS=>exact (zz5 (by repeat first | exact HB.out | apply zz2 | apply zz0 | apply zz1)));(case aL=>have:=LMc12.out;omega);intro v169 w21 ho hb hg hat;rw [← Ny168.out] at ho;have n0_:=zz31 (Kd.R_after (ok:=(fun k_=>(P0_ k_ ∨ w.heap.size≤k_))) (by (with_reducible repeat (first | apply zz12 | apply zz13 | apply zz14));exact HO_0.out) hg hat);have n1_:=zz31 (hb);have n2_:=zz31 (Kept.of_grown (S:=(fun k_=>P0_ k_)) hg (by repeat (first | (with_reducible first | exact HK.out | apply Kept.alloc | apply Kept.drewN | apply Kept.drew) | exact HK.out)) (fun k_ e_=>(HO167.out.1 k_ e_).1));have n3_:=zz31 ((show Kd.C (Kd.int .i64) w21 (some ad156) y161.length y161 from by rw [Ny161.out];exact Kd.C_take (m:=(x5_1:Int).toNat) ((Kd.R_reads' (Kd.R_after (ok:=(fun k_=>(P0_ k_ ∨ w.heap.size≤k_))) (by (with_reducible repeat (first | apply zz12 | apply zz13 | apply zz14));exact HO_0.out) hg hat)).2.2) KL19.out));have n4_:=zz31 (ho);clear HO_0;clear HB;clear HK;clear HR164;clear HO167;have HO_0:=n0_;have HB:=n1_;have HK:=n2_;have HR164:=n3_;have HO170:=n4_;clear n0_ n1_ n2_ n3_ n4_;clear ho hb hg hat;have q22:(x5_1:Int)≤((l0.length:Int):Int):=zz29 (by first | (with_reducible assumption) | assumption);obtain ⟨i022,hi022,_,hsz22,_⟩:=info_parts info3;have hroom22:l0.length≤co16:=(Kd.R_reads' HO_0.out).2.1;have hC22:Kd.C (Kd.int .i64) _ (some ad156) l0.length l0:=(Kd.R_reads' HO_0.out).2.2;have q022:(0:Int)≤(x5_1:Int):=zz29 (by first | (with_reducible assumption) | assumption);have hcut22:=cut_from (P:=Try.prog) 25 3 .i64 Try.underlying25 hi022 1 hsz22 (some ad156) l0.length co16 x5_1 q022 q22;have hr22:=Kd.C_drop (m:=(x5_1:Int).toNat) (c:=co16) hC22 (by omega) hroom22;obtain ⟨A22,hA22⟩:∃ A1,A1=(if co16=(x5_1:Int).toNat then (some ad156) else ((some ad156):Option Addr).map (·.add ((x5_1:Int).toNat * 1))):=⟨_,rfl⟩;obtain ⟨c22,hc22⟩:∃ c1,c1=co16 - (x5_1:Int).toNat:=⟨_,rfl⟩;have hy22:y171.length=l0.length - (x5_1:Int).toNat:=(by rw [Ny171.out,zz24] <;> omega);rw [show (l0).drop (x5_1:Int).toNat=y171 from Ny171.out.symm] at hr22;replace hr22:Kd.C (Kd.int .i64) _ A22 y171.length y171:=(by rw [hA22];exact hr22);rw [← hy22,← hA22,← hc22] at hcut22;have HR174:=zz31 hr22;have HC174:=zz31 (show y171.length≤c22 from by rw [hy22,hc22];exact Nat.sub_le_sub_right hroom22 _);clear hr22 hC22 hroom22 hi022 hsz22 hc22;have KY22:=zz31 hy22;have KA22:=zz31 hA22;clear hy22 hA22;have KL22:=zz31 (show (x5_1:Int).toNat≤l0.length from by omega);replace q22:=eq_true q22) | ((with_reducible refine gate_builtin (b:=.append) (xs:=#[.tmp 43,.tmp 46]) rfl ?_);at_builtin;refine Kd.R_append_rows (Kd.int .i64) (w0:=w0) w0.heap.size rfl (.tmp 43) (.tmp 46) 25 3 (.int .i64 0) 8 rfl Try.underlying25 info3 rfl (by decide) (by omega) v169 y168 y171 _ _ _ (fun k_=>(P0_ k_ ∨ w.heap.size≤k_)∧some k_ ≠ (.slice (some ad156) l0.length co16:Value).ownBlock) (fun _=>False) rfl rfl ?aO ?aR (fun _ _ h=>h) (fun _ h=>h.elim) ?aF ?aB ?aS ?aL ?_;(case aR=>repeat (first | exact (by repeat (first | (with_reducible exact HR174.out) | (with_reducible refine zz18 ?_ _) | (with_reducible refine zz19 ?_ _) | (with_reducible refine zz20 ?_) | exact HR174.out)) | (with_reducible refine zz18 ?_ _) | (with_reducible refine zz19 ?_ _) | (with_reducible refine zz20 ?_)));(case aB=>exact (by repeat first | exact HB.out | apply zz2 | apply zz0 | apply zz1));(case aF=>exact (fun k_ hk=>⟨(.inr (Nat.le_trans (by first | exact HK.out.1 | exact (show Kept w _ (fun k_=>P0_ k_) from by repeat (first | (with_reducible first | exact HK.out | apply Kept.alloc | apply Kept.drewN | apply Kept.drew) | exact HK.out)).1) hk)),Kd.fresh' (Kd.R_lt (by (with_reducible repeat (first | apply zz12 | apply zz13 | apply zz14));exact HO_0.out)) k_ hk⟩));(case aO=>exact (by (with_reducible repeat (first | apply zz12 | apply zz13 | apply zz14));exact HO170.out));(case aS=>exact (zz5 (by repeat first | exact HB.out | apply zz2 | apply zz0 | apply zz1)));(case aL=>have:=LMc15.out;omega);intro v176 w23 ho hb hg hat;rw [← Ny175.out] at ho;have n0_:=zz31 (Kd.R_after (ok:=(fun k_=>(P0_ k_ ∨ w.heap.size≤k_))) (by (with_reducible repeat (first | apply zz12 | apply zz13 | apply zz14));exact HO_0.out) hg hat);have n1_:=zz31 (hb);have n2_:=zz31 (Kept.of_grown (S:=(fun k_=>P0_ k_)) hg (by repeat (first | (with_reducible first | exact HK.out | apply Kept.alloc | apply Kept.drewN | apply Kept.drew) | exact HK.out)) (fun k_ e_=>(HO170.out.1 k_ e_).1));have n3_:=zz31 ((show Kd.C (Kd.int .i64) w23 (some ad156) y161.length y161 from by rw [Ny161.out];exact Kd.C_take (m:=(x5_1:Int).toNat) ((Kd.R_reads' (Kd.R_after (ok:=(fun k_=>(P0_ k_ ∨ w.heap.size≤k_))) (by (with_reducible repeat (first | apply zz12 | apply zz13 | apply zz14));exact HO_0.out) hg hat)).2.2) KL19.out));have n4_:=zz31 ((show Kd.C (Kd.int .i64) w23 A22 y171.length y171 from by rw [Ny171.out,KA22.out];exact Kd.C_drop (m:=(x5_1:Int).toNat) (c:=co16) ((Kd.R_reads' (Kd.R_after (ok:=(fun k_=>(P0_ k_ ∨ w.heap.size≤k_))) (by (with_reducible repeat (first | apply zz12 | apply zz13 | apply zz14));exact HO_0.out) hg hat)).2.2) KL22.out ((Kd.R_reads' (Kd.R_after (ok:=(fun k_=>(P0_ k_ ∨ w.heap.size≤k_))) (by (with_reducible repeat (first | apply zz12 | apply zz13 | apply zz14));exact HO_0.out) hg hat)).2.1)));have n5_:=zz31 (ho);clear HO_0;clear HB;clear HK;clear HR164;clear HR174;clear HO170;have HO_0:=n0_;have HB:=n1_;have HK:=n2_;have HR164:=n3_;have HR174:=n4_;have HO177:=n5_;clear n0_ n1_ n2_ n3_ n4_ n5_;clear ho hb hg hat))
           go_ret
           exact ⟨_,by first | rfl | (simp [errW_none,errW_some] <;> rfl) | (simp [*,errW_none,errW_some] <;> rfl),by (with_reducible repeat (first | apply zz12 | apply zz13 | apply zz14));exact Kd.R_mono HO177.out (fun _ hk=>hk.1),by repeat first | exact HB.out | apply zz2 | apply zz0 | apply zz1,by repeat (first | (with_reducible first | exact HK.out | apply Kept.alloc | apply Kept.drewN | apply Kept.drew) | exact HK.out)⟩
          ·rw [if_neg c15] at H
           exact absurd H (by simp)
         ·rw [if_neg c12] at H
          exact absurd H (by simp)
        ·rw [if_neg c11] at H
         exact absurd H (by simp)
       ·rw [if_neg c10] at H
        exact absurd H (by simp)
    ·rw [if_neg c4] at H
     exact absurd H (by simp)
   ·rw [if_neg c3] at H
    have c3b0:decide (x5_1 < (l0.length:Int))=false:=decide_eq_false c3
    clear c3
    obtain ⟨y178,hy178⟩:∃ y_:List Int,y_=(([]:List Int)):=⟨_,rfl⟩
    replace H:(if 0≤x5_1 then (if x5_1≤(l0.length:Int) then ((some (l0.take (x5_1:Int).toNat:List Int)).bind fun y181=>(if y178.length+y181.length < 17592186044416 then ((some (y178 ++ y181:List Int)).bind fun y185=>(if y185.length < 17592186044416 then ((some (y185 ++ [a1]:List Int)).bind fun y188=>((some (l0.drop (x5_1:Int).toNat:List Int)).bind fun y191=>(if y188.length+y191.length < 17592186044416 then (some (y188 ++ y191)) else (none)))) else (none))) else (none))) else (none)) else (none))=some r:=by first | (rw [hy178];with_reducible exact H) | (have H2_:=(Option.bind_some _ _).symm.trans H;rw [hy178];with_reducible exact H2_) | (have H2_:=(Option.bind_some _ _).symm.trans H;with_reducible exact H2_) | with_reducible exact H | (rw [hy178];exact H) | exact H
    have Ny178:=zz31 hy178
    clear hy178
    by_cases c24:0≤x5_1
    ·rw [if_pos c24] at H
     have c24b0:=eq_true c24
     have c24b1:decide (0≤x5_1)=true:=decide_eq_true c24
     clear c24
     by_cases c25:x5_1≤(l0.length:Int)
     ·rw [if_pos c25] at H
      have c25b0:=eq_true c25
      have c25b1:decide (x5_1≤(l0.length:Int))=true:=decide_eq_true c25
      clear c25
      obtain ⟨y181,hy181⟩:∃ y_:List Int,y_=(l0.take (x5_1:Int).toNat):=⟨_,rfl⟩
      replace H:(if y178.length+y181.length < 17592186044416 then ((some (y178 ++ y181:List Int)).bind fun y185=>(if y185.length < 17592186044416 then ((some (y185 ++ [a1]:List Int)).bind fun y188=>((some (l0.drop (x5_1:Int).toNat:List Int)).bind fun y191=>(if y188.length+y191.length < 17592186044416 then (some (y188 ++ y191)) else (none)))) else (none))) else (none))=some r:=by first | (rw [hy181];with_reducible exact H) | (have H2_:=(Option.bind_some _ _).symm.trans H;rw [hy181];with_reducible exact H2_) | (have H2_:=(Option.bind_some _ _).symm.trans H;with_reducible exact H2_) | with_reducible exact H | (rw [hy181];exact H) | exact H
      have Ny181:=zz31 hy181
      clear hy181
      by_cases c26:y178.length+y181.length < 17592186044416
      ·rw [if_pos c26] at H
       have LMc26:=zz31 c26
       clear c26
       obtain ⟨y185,hy185⟩:∃ y_:List Int,y_=(y178 ++ y181):=⟨_,rfl⟩
       replace H:(if y185.length < 17592186044416 then ((some (y185 ++ [a1]:List Int)).bind fun y188=>((some (l0.drop (x5_1:Int).toNat:List Int)).bind fun y191=>(if y188.length+y191.length < 17592186044416 then (some (y188 ++ y191)) else (none)))) else (none))=some r:=by first | (rw [hy185];with_reducible exact H) | (have H2_:=(Option.bind_some _ _).symm.trans H;rw [hy185];with_reducible exact H2_) | (have H2_:=(Option.bind_some _ _).symm.trans H;with_reducible exact H2_) | with_reducible exact H | (rw [hy185];exact H) | exact H
       have Ny185:=zz31 hy185
       clear hy185
       by_cases c27:y185.length < 17592186044416
       ·rw [if_pos c27] at H
        have LMc27:=zz31 c27
        clear c27
        obtain ⟨y188,hy188⟩:∃ y_:List Int,y_=(y185 ++ [a1]):=⟨_,rfl⟩
        replace H:((some (l0.drop (x5_1:Int).toNat:List Int)).bind fun y191=>(if y188.length+y191.length < 17592186044416 then (some (y188 ++ y191)) else (none)))=some r:=by first | (rw [hy188];with_reducible exact H) | (have H2_:=(Option.bind_some _ _).symm.trans H;rw [hy188];with_reducible exact H2_) | (have H2_:=(Option.bind_some _ _).symm.trans H;with_reducible exact H2_) | with_reducible exact H | (rw [hy188];exact H) | exact H
        have Ny188:=zz31 hy188
        clear hy188
        have c28b0:=eq_true (zz29 (by first | (with_reducible assumption) | assumption):0≤x5_1)
        have c29b0:=eq_true (zz29 (by first | (with_reducible assumption) | assumption):x5_1≤(l0.length:Int))
        obtain ⟨y191,hy191⟩:∃ y_:List Int,y_=(l0.drop (x5_1:Int).toNat):=⟨_,rfl⟩
        replace H:(if y188.length+y191.length < 17592186044416 then (some (y188 ++ y191)) else (none))=some r:=by first | (rw [hy191];with_reducible exact H) | (have H2_:=(Option.bind_some _ _).symm.trans H;rw [hy191];with_reducible exact H2_) | (have H2_:=(Option.bind_some _ _).symm.trans H;with_reducible exact H2_) | with_reducible exact H | (rw [hy191];exact H) | exact H
        have Ny191:=zz31 hy191
        clear hy191
        by_cases c30:y188.length+y191.length < 17592186044416
        ·rw [if_pos c30] at H
         have LMc30:=zz31 c30
         clear c30
         obtain ⟨y195,hy195⟩:∃ y_:List Int,y_=(y188 ++ y191):=⟨_,rfl⟩
         replace H:(some y195)=some r:=by first | (rw [hy195];with_reducible exact H) | (have H2_:=(Option.bind_some _ _).symm.trans H;rw [hy195];with_reducible exact H2_) | (have H2_:=(Option.bind_some _ _).symm.trans H;with_reducible exact H2_) | with_reducible exact H | (rw [hy195];exact H) | exact H
         have Ny195:=zz31 hy195
         clear hy195
         obtain rfl:=Option.some.inj H
         obtain ⟨Ao31,co31,eo31⟩:=Kd.R_slice HO_0.out
         subst eo31
         go_wp2_with (first | ((with_reducible refine gate_dst (N:=34) rfl ?_);refine Kd.R_lit (Kd.int .i64) _ 3 ?hg (N:=34) ?hd (xs:=([]:List Int)) (inner:=[]) (ok:=fun _=>True) (okp:=fun _=>True) ?hr ?hp (fun _ hk=>hk) trivial (Below.refl _ _) (Nat.le_refl _) (by simp) ?_;(case hd=>rfl);(case hg=>rfl);(case hr=>first | (go_simp;done) | (go_simp;rfl));(case hp=>exact (Reps.none _ _));intro v179 w32 ho33 hb hg_ hnew_;clear hg_ hnew_;(first | rw [← Ny178.out] at ho33 | (simp only [Int.reduceToNat] at ho33;rw [← Ny178.out] at ho33));have n0_:=zz31 (Kd.R_elder' (by (with_reducible repeat (first | apply zz12 | apply zz13 | apply zz14));exact HO_0.out) (Kd.R_base ho33) hb);have n1_:=zz31 (Kd.R_lower (Kd.R_new' (Kd.R_newM (M:=fun k_=>(P0_ k_ ∨ w.heap.size≤k_)) ho33 (by first | exact HK.out.1 | exact (show Kept w _ (fun k_=>P0_ k_) from by repeat (first | (with_reducible first | exact HK.out | apply Kept.alloc | apply Kept.drewN | apply Kept.drew) | exact HK.out)).1) (fun k_ h_=>.inr h_)) (Kd.R_lt (by (with_reducible repeat (first | apply zz12 | apply zz13 | apply zz14));exact HO_0.out))) (zz5 (by repeat first | exact HB.out | apply zz2 | apply zz0 | apply zz1)));have n2_:=zz31 (Kept.below (S:=(fun k_=>P0_ k_)) (by repeat (first | (with_reducible first | exact HK.out | apply Kept.alloc | apply Kept.drewN | apply Kept.drew) | exact HK.out)) hb);have n3_:=zz31 (zz4 (by repeat first | exact HB.out | apply zz2 | apply zz0 | apply zz1) hb);clear HO_0;clear HK;clear HB;have HO_0:=n0_;have HO180:=n1_;have HK:=n2_;have HB:=n3_;clear n0_ n1_ n2_ n3_;clear hb ho33;have q34:(x5_1:Int)≤((l0.length:Int):Int):=zz29 (by first | (with_reducible assumption) | assumption);obtain ⟨i034,hi034,_,hsz34,_⟩:=info_parts info3;have hroom34:l0.length≤co31:=(Kd.R_reads' HO_0.out).2.1;have hC34:Kd.C (Kd.int .i64) _ Ao31 l0.length l0:=(Kd.R_reads' HO_0.out).2.2;have hcut34:=cut_to (P:=Try.prog) 25 3 .i64 Try.underlying25 hi034 Ao31 l0.length co31 x5_1 (zz29 (by first | (with_reducible assumption) | assumption)) q34 hroom34;have hr34:=Kd.C_take (m:=(x5_1:Int).toNat) hC34 (by omega);have hy34:y181.length=(x5_1:Int).toNat:=(by rw [Ny181.out,zz25];omega);rw [← Ny181.out] at hr34;rw [← hy34] at hcut34;have HR184:=zz31 hr34;have HC184:=zz31 (show y181.length≤co31 from by omega);clear hr34 hC34 hroom34 hi034 hsz34;have KY34:=zz31 hy34;clear hy34;have KL34:=zz31 (show (x5_1:Int).toNat≤l0.length from by omega);replace q34:=eq_true q34) | ((with_reducible refine gate_builtin (b:=.append) (xs:=#[.tmp 34,.tmp 37]) rfl ?_);at_builtin;refine Kd.R_append_rows (Kd.int .i64) (w0:=w0) w0.heap.size rfl (.tmp 34) (.tmp 37) 25 3 (.int .i64 0) 8 rfl Try.underlying25 info3 rfl (by decide) (by omega) v179 y178 y181 _ _ _ (fun k_=>(P0_ k_ ∨ w.heap.size≤k_)∧some k_ ≠ (.slice Ao31 l0.length co31:Value).ownBlock) (fun _=>False) rfl rfl ?aO ?aR (fun _ _ h=>h) (fun _ h=>h.elim) ?aF ?aB ?aS ?aL ?_;(case aR=>repeat (first | exact (by repeat (first | (with_reducible exact HR184.out) | (with_reducible refine zz18 ?_ _) | (with_reducible refine zz19 ?_ _) | (with_reducible refine zz20 ?_) | exact HR184.out)) | (with_reducible refine zz18 ?_ _) | (with_reducible refine zz19 ?_ _) | (with_reducible refine zz20 ?_)));(case aB=>exact (by repeat first | exact HB.out | apply zz2 | apply zz0 | apply zz1));(case aF=>exact (fun k_ hk=>⟨(.inr (Nat.le_trans (by first | exact HK.out.1 | exact (show Kept w _ (fun k_=>P0_ k_) from by repeat (first | (with_reducible first | exact HK.out | apply Kept.alloc | apply Kept.drewN | apply Kept.drew) | exact HK.out)).1) hk)),Kd.fresh' (Kd.R_lt (by (with_reducible repeat (first | apply zz12 | apply zz13 | apply zz14));exact HO_0.out)) k_ hk⟩));(case aO=>exact (by (with_reducible repeat (first | apply zz12 | apply zz13 | apply zz14));exact Kd.R_mono HO180.out (fun _ hk=>⟨hk.1.1,hk.2⟩)));(case aS=>exact (zz5 (by repeat first | exact HB.out | apply zz2 | apply zz0 | apply zz1)));(case aL=>have:=LMc26.out;omega);intro v186 w35 ho hb hg hat;rw [← Ny185.out] at ho;have n0_:=zz31 (Kd.R_after (ok:=(fun k_=>(P0_ k_ ∨ w.heap.size≤k_))) (by (with_reducible repeat (first | apply zz12 | apply zz13 | apply zz14));exact HO_0.out) hg hat);have n1_:=zz31 (hb);have n2_:=zz31 (Kept.of_grown (S:=(fun k_=>P0_ k_)) hg (by repeat (first | (with_reducible first | exact HK.out | apply Kept.alloc | apply Kept.drewN | apply Kept.drew) | exact HK.out)) (fun k_ e_=>(HO180.out.1 k_ e_).1.1));have n3_:=zz31 ((show Kd.C (Kd.int .i64) w35 Ao31 y181.length y181 from by rw [Ny181.out];exact Kd.C_take (m:=(x5_1:Int).toNat) ((Kd.R_reads' (Kd.R_after (ok:=(fun k_=>(P0_ k_ ∨ w.heap.size≤k_))) (by (with_reducible repeat (first | apply zz12 | apply zz13 | apply zz14));exact HO_0.out) hg hat)).2.2) KL34.out));have n4_:=zz31 (ho);clear HO_0;clear HB;clear HK;clear HR184;clear HO180;have HO_0:=n0_;have HB:=n1_;have HK:=n2_;have HR184:=n3_;have HO187:=n4_;clear n0_ n1_ n2_ n3_ n4_;clear ho hb hg hat) | ((with_reducible refine gate_builtin (b:=.append) (xs:=#[.tmp 39,.tmp 41]) rfl ?_);at_builtin;refine Kd.R_append (Kd.int .i64) (w0:=w0) w0.heap.size rfl (.tmp 39) (.tmp 41) 25 3 (.int .i64 0) 8 rfl Try.underlying25 info3 rfl (by decide) (by omega) v186 y185 a1 [.int .i64 a1] (fun k_=>(P0_ k_ ∨ w.heap.size≤k_)∧some k_ ≠ (.slice Ao31 l0.length co31:Value).ownBlock) (fun _=>False) rfl rfl ?aP (fun _ hk=>hk.elim) ?aF ?aO ?aB ?aS ?aL ?_;(case aP=>exact rfl);(case aB=>exact (by repeat first | exact HB.out | apply zz2 | apply zz0 | apply zz1));(case aF=>exact (fun k_ hk=>⟨(.inr (Nat.le_trans (by first | exact HK.out.1 | exact (show Kept w _ (fun k_=>P0_ k_) from by repeat (first | (with_reducible first | exact HK.out | apply Kept.alloc | apply Kept.drewN | apply Kept.drew) | exact HK.out)).1) hk)),Kd.fresh' (Kd.R_lt (by (with_reducible repeat (first | apply zz12 | apply zz13 | apply zz14));exact HO_0.out)) k_ hk⟩));(case aO=>exact (by (with_reducible repeat (first | apply zz12 | apply zz13 | apply zz14));exact HO187.out));(case aS=>exact (zz5 (by repeat first | exact HB.out | apply zz2 | apply zz0 | apply zz1)));(case aL=>have:=LMc27.out;omega);intro v189 w36 ho hb hg hat;rw [← Ny188.out] at ho;have n0_:=zz31 (Kd.R_after (ok:=(fun k_=>(P0_ k_ ∨ w.heap.size≤k_))) (by (with_reducible repeat (first | apply zz12 | apply zz13 | apply zz14));exact HO_0.out) hg hat);have n1_:=zz31 (hb);have n2_:=zz31 (Kept.of_grown (S:=(fun k_=>P0_ k_)) hg (by repeat (first | (with_reducible first | exact HK.out | apply Kept.alloc | apply Kept.drewN | apply Kept.drew) | exact HK.out)) (fun k_ e_=>(HO187.out.1 k_ e_).1));have n3_:=zz31 ((show Kd.C (Kd.int .i64) w36 Ao31 y181.length y181 from by rw [Ny181.out];exact Kd.C_take (m:=(x5_1:Int).toNat) ((Kd.R_reads' (Kd.R_after (ok:=(fun k_=>(P0_ k_ ∨ w.heap.size≤k_))) (by (with_reducible repeat (first | apply zz12 | apply zz13 | apply zz14));exact HO_0.out) hg hat)).2.2) KL34.out));have n4_:=zz31 (ho);clear HO_0;clear HB;clear HK;clear HR184;clear HO187;have HO_0:=n0_;have HB:=n1_;have HK:=n2_;have HR184:=n3_;have HO190:=n4_;clear n0_ n1_ n2_ n3_ n4_;clear ho hb hg hat;have q37:(x5_1:Int)≤((l0.length:Int):Int):=zz29 (by first | (with_reducible assumption) | assumption);obtain ⟨i037,hi037,_,hsz37,_⟩:=info_parts info3;have hroom37:l0.length≤co31:=(Kd.R_reads' HO_0.out).2.1;have hC37:Kd.C (Kd.int .i64) _ Ao31 l0.length l0:=(Kd.R_reads' HO_0.out).2.2;have q037:(0:Int)≤(x5_1:Int):=zz29 (by first | (with_reducible assumption) | assumption);have hcut37:=cut_from (P:=Try.prog) 25 3 .i64 Try.underlying25 hi037 1 hsz37 Ao31 l0.length co31 x5_1 q037 q37;have hr37:=Kd.C_drop (m:=(x5_1:Int).toNat) (c:=co31) hC37 (by omega) hroom37;obtain ⟨A37,hA37⟩:∃ A1,A1=(if co31=(x5_1:Int).toNat then Ao31 else (Ao31:Option Addr).map (·.add ((x5_1:Int).toNat * 1))):=⟨_,rfl⟩;obtain ⟨c37,hc37⟩:∃ c1,c1=co31 - (x5_1:Int).toNat:=⟨_,rfl⟩;have hy37:y191.length=l0.length - (x5_1:Int).toNat:=(by rw [Ny191.out,zz24] <;> omega);rw [show (l0).drop (x5_1:Int).toNat=y191 from Ny191.out.symm] at hr37;replace hr37:Kd.C (Kd.int .i64) _ A37 y191.length y191:=(by rw [hA37];exact hr37);rw [← hy37,← hA37,← hc37] at hcut37;have HR194:=zz31 hr37;have HC194:=zz31 (show y191.length≤c37 from by rw [hy37,hc37];exact Nat.sub_le_sub_right hroom37 _);clear hr37 hC37 hroom37 hi037 hsz37 hc37;have KY37:=zz31 hy37;have KA37:=zz31 hA37;clear hy37 hA37;have KL37:=zz31 (show (x5_1:Int).toNat≤l0.length from by omega);replace q37:=eq_true q37) | ((with_reducible refine gate_builtin (b:=.append) (xs:=#[.tmp 43,.tmp 46]) rfl ?_);at_builtin;refine Kd.R_append_rows (Kd.int .i64) (w0:=w0) w0.heap.size rfl (.tmp 43) (.tmp 46) 25 3 (.int .i64 0) 8 rfl Try.underlying25 info3 rfl (by decide) (by omega) v189 y188 y191 _ _ _ (fun k_=>(P0_ k_ ∨ w.heap.size≤k_)∧some k_ ≠ (.slice Ao31 l0.length co31:Value).ownBlock) (fun _=>False) rfl rfl ?aO ?aR (fun _ _ h=>h) (fun _ h=>h.elim) ?aF ?aB ?aS ?aL ?_;(case aR=>repeat (first | exact (by repeat (first | (with_reducible exact HR194.out) | (with_reducible refine zz18 ?_ _) | (with_reducible refine zz19 ?_ _) | (with_reducible refine zz20 ?_) | exact HR194.out)) | (with_reducible refine zz18 ?_ _) | (with_reducible refine zz19 ?_ _) | (with_reducible refine zz20 ?_)));(case aB=>exact (by repeat first | exact HB.out | apply zz2 | apply zz0 | apply zz1));(case aF=>exact (fun k_ hk=>⟨(.inr (Nat.le_trans (by first | exact HK.out.1 | exact (show Kept w _ (fun k_=>P0_ k_) from by repeat (first | (with_reducible first | exact HK.out | apply Kept.alloc | apply Kept.drewN | apply Kept.drew) | exact HK.out)).1) hk)),Kd.fresh' (Kd.R_lt (by (with_reducible repeat (first | apply zz12 | apply zz13 | apply zz14));exact HO_0.out)) k_ hk⟩));(case aO=>exact (by (with_reducible repeat (first | apply zz12 | apply zz13 | apply zz14));exact HO190.out));(case aS=>exact (zz5 (by repeat first | exact HB.out | apply zz2 | apply zz0 | apply zz1)));(case aL=>have:=LMc30.out;omega);intro v196 w38 ho hb hg hat;rw [← Ny195.out] at ho;have n0_:=zz31 (Kd.R_after (ok:=(fun k_=>(P0_ k_ ∨ w.heap.size≤k_))) (by (with_reducible repeat (first | apply zz12 | apply zz13 | apply zz14));exact HO_0.out) hg hat);have n1_:=zz31 (hb);have n2_:=zz31 (Kept.of_grown (S:=(fun k_=>P0_ k_)) hg (by repeat (first | (with_reducible first | exact HK.out | apply Kept.alloc | apply Kept.drewN | apply Kept.drew) | exact HK.out)) (fun k_ e_=>(HO190.out.1 k_ e_).1));have n3_:=zz31 ((show Kd.C (Kd.int .i64) w38 Ao31 y181.length y181 from by rw [Ny181.out];exact Kd.C_take (m:=(x5_1:Int).toNat) ((Kd.R_reads' (Kd.R_after (ok:=(fun k_=>(P0_ k_ ∨ w.heap.size≤k_))) (by (with_reducible repeat (first | apply zz12 | apply zz13 | apply zz14));exact HO_0.out) hg hat)).2.2) KL34.out));have n4_:=zz31 ((show Kd.C (Kd.int .i64) w38 A37 y191.length y191 from by rw [Ny191.out,KA37.out];exact Kd.C_drop (m:=(x5_1:Int).toNat) (c:=co31) ((Kd.R_reads' (Kd.R_after (ok:=(fun k_=>(P0_ k_ ∨ w.heap.size≤k_))) (by (with_reducible repeat (first | apply zz12 | apply zz13 | apply zz14));exact HO_0.out) hg hat)).2.2) KL37.out ((Kd.R_reads' (Kd.R_after (ok:=(fun k_=>(P0_ k_ ∨ w.heap.size≤k_))) (by (with_reducible repeat (first | apply zz12 | apply zz13 | apply zz14));exact HO_0.out) hg hat)).2.1)));have n5_:=zz31 (ho);clear HO_0;clear HB;clear HK;clear HR184;clear HR194;clear HO190;have HO_0:=n0_;have HB:=n1_;have HK:=n2_;have HR184:=n3_;have HR194:=n4_;have HO197:=n5_;clear n0_ n1_ n2_ n3_ n4_ n5_;clear ho hb hg hat))
         go_ret
         exact ⟨_,by first | rfl | (simp [errW_none,errW_some] <;> rfl) | (simp [*,errW_none,errW_some] <;> rfl),by (with_reducible repeat (first | apply zz12 | apply zz13 | apply zz14));exact Kd.R_mono HO197.out (fun _ hk=>hk.1),by repeat first | exact HB.out | apply zz2 | apply zz0 | apply zz1,by repeat (first | (with_reducible first | exact HK.out | apply Kept.alloc | apply Kept.drewN | apply Kept.drew) | exact HK.out)⟩
        ·rw [if_neg c30] at H
         exact absurd H (by simp)
       ·rw [if_neg c27] at H
        exact absurd H (by simp)
      ·rw [if_neg c26] at H
       exact absurd H (by simp)
     ·rw [if_neg c25] at H
      exact absurd H (by simp)
    ·rw [if_neg c24] at H
     exact absurd H (by simp)

/-! ### spec_GrowGroup: function 10 -/
def spec_GrowGroup.l0:Nat→List (List Bool)→List Int→Int→Int→Option (List Int × Bool)
 | 0,_,_,_,_=>none
 | k+1,x6,x7,x18,x19=>if x19 < x18 then ((spec_l1Has.f k x7 x19).bind fun t206=>(if t206=true then (spec_GrowGroup.l0 k x6 x7 x18 (wrap64 (x19+1))) else ((spec_grJoins.f k x6 x7 x19).bind fun t207=>(if t207=true then ((spec_l1Put.f k x7 x19).bind fun t208=>(spec_GrowGroup.l0 k x6 t208 x18 (wrap64 (x19+1)))) else (spec_GrowGroup.l0 k x6 x7 x18 (wrap64 (x19+1))))))) else (some (x7,true))
def spec_GrowGroup.f (k:Nat) (a0_0:Int) (l0_1:List (S79)) (l1:List Int):Option (List Int × Bool):=(spec_grGroup.f k a0_0 l0_1 l1).bind fun t199=>(if t199=true then ((spec_paTable.f k a0_0 l0_1).bind fun t200=>((spec_l1Own.f l1).bind fun t203=>(spec_GrowGroup.l0 k t200 t203 (t200.length:Int) 0))) else (some (([]:List Int),false)))
theorem spec_GrowGroup.mono_l:∀ k,(∀ y0 y1 y2 y3,LeO (spec_GrowGroup.l0 k y0 y1 y2 y3) (spec_GrowGroup.l0 (k+1) y0 y1 y2 y3))
 | 0=>fun _ _ _ _ r h=>by simp [spec_GrowGroup.l0] at h
 | k+1=>by
  have ih0:=spec_GrowGroup.mono_l k
  ·intro y0 y1 y2 y3
   unfold spec_GrowGroup.l0
   repeat' first
   | (with_reducible exact ih0 _ _ _ _)
   | (with_reducible exact spec_grGroup.mono _ _ _ _)
   | (with_reducible exact spec_grJoins.mono _ _ _ _)
   | (with_reducible exact spec_l1Has.mono _ _ _)
   | (with_reducible exact spec_l1Put.mono _ _ _)
   | (with_reducible exact spec_paTable.mono _ _ _)
   | (with_reducible exact LeO.refl _)
   | (with_reducible exact LeO.none _)
   | (with_reducible refine LeO.ite ?_ ?_)
   | (with_reducible refine LeO.bind ?_ (fun _=>?_))
   | exact ih0 _ _ _ _
   | exact spec_grGroup.mono _ _ _ _
   | exact spec_grJoins.mono _ _ _ _
   | exact spec_l1Has.mono _ _ _
   | exact spec_l1Put.mono _ _ _
   | exact spec_paTable.mono _ _ _
   | exact LeO.none _
   | refine LeO.ite ?_ ?_
   | refine LeO.bind ?_ (fun _=>?_)
theorem spec_GrowGroup.mono:∀ a0 a1 a2 k,LeO (spec_GrowGroup.f k a0 a1 a2) (spec_GrowGroup.f (k+1) a0 a1 a2):=by
 intro a0 a1 a2 k
 have ih0:=spec_GrowGroup.mono_l k
 unfold spec_GrowGroup.f
 repeat' first
   | (with_reducible exact ih0 _ _ _ _)
   | (with_reducible exact spec_grGroup.mono _ _ _ _)
   | (with_reducible exact spec_grJoins.mono _ _ _ _)
   | (with_reducible exact spec_l1Has.mono _ _ _)
   | (with_reducible exact spec_l1Put.mono _ _ _)
   | (with_reducible exact spec_paTable.mono _ _ _)
   | (with_reducible exact LeO.refl _)
   | (with_reducible exact LeO.none _)
   | (with_reducible refine LeO.ite ?_ ?_)
   | (with_reducible refine LeO.bind ?_ (fun _=>?_))
   | exact ih0 _ _ _ _
   | exact spec_grGroup.mono _ _ _ _
   | exact spec_grJoins.mono _ _ _ _
   | exact spec_l1Has.mono _ _ _
   | exact spec_l1Put.mono _ _ _
   | exact spec_paTable.mono _ _ _
   | exact LeO.none _
   | refine LeO.ite ?_ ?_
   | refine LeO.bind ?_ (fun _=>?_)
set_option maxHeartbeats 8000000 in
set_option maxRecDepth 100000 in
theorem spec_GrowGroup.calls (k:Nat) (a0_0:Int) (A0_1:Option Addr) (c0_1:Nat) (l0_1:List (S79)) (A1:Option Addr) (c1:Nat) (l1:List Int) (r1:List Int) (r2:Bool) (w:World) (hr0_1:Kd.C k79 w A0_1 l0_1.length l0_1) (hc0_1:l0_1.length≤c0_1) (hr1:Kd.C (Kd.int .i64) w A1 l1.length l1) (hc1:l1.length≤c1) (h:spec_GrowGroup.f k a0_0 l0_1 l1=some (r1,r2)) :
  Calls Try.prog 10 #[.agg #[.int .i64 a0_0,.slice A0_1 l0_1.length c0_1],.slice A1 l1.length c1] w fun e w'=>∃ v0_:Value,e=.returned (.tuple #[v0_,.bool r2])∧Kd.R (Kd.int .i64) 3 w' w.heap.size (fun _=>True) v0_ r1∧Below w.heap.size w w':=by
 have hu31:=Try.underlying31
 have HR0_1:=zz31 hr0_1
 have HC0_1:=zz31 hc0_1
 clear hr0_1 hc0_1
 have HR1:=zz31 hr1
 have HC1:=zz31 hc1
 clear hr1 hc1
 have HB:=zz31 (Below.refl w.heap.size w)
 have H:((spec_grGroup.f k a0_0 l0_1 l1).bind fun t199=>(if t199=true then ((spec_paTable.f k a0_0 l0_1).bind fun t200=>((spec_l1Own.f l1).bind fun t203=>(spec_GrowGroup.l0 k t200 t203 (t200.length:Int) 0))) else (some (([]:List Int),false))))=some (r1,r2):=h
 clear h
 replace H:=zz30.mp H
 obtain ⟨t199,A30,H⟩:=H
 replace H:(if t199=true then ((spec_paTable.f k a0_0 l0_1).bind fun t200=>((spec_l1Own.f l1).bind fun t203=>(spec_GrowGroup.l0 k t200 t203 (t200.length:Int) 0))) else (some (([]:List Int),false)))=some (r1,r2):=H
 have A3:=zz31 A30
 clear A30
 by_cases c4:t199=true
 ·subst c4
  have H1:((spec_paTable.f k a0_0 l0_1).bind fun t200=>((spec_l1Own.f l1).bind fun t203=>(spec_GrowGroup.l0 k t200 t203 (t200.length:Int) 0)))=some (r1,r2):=by rw [if_pos rfl] at H;exact H
  clear H
  have H:=H1
  clear H1
  replace H:=zz30.mp H
  obtain ⟨t200,A50,H⟩:=H
  replace H:((spec_l1Own.f l1).bind fun t203=>(spec_GrowGroup.l0 k t200 t203 (t200.length:Int) 0))=some (r1,r2):=H
  have A5:=zz31 A50
  clear A50
  replace H:=zz30.mp H
  obtain ⟨t203,A60,H⟩:=H
  replace H:(spec_GrowGroup.l0 k t200 t203 (t200.length:Int) 0)=some (r1,r2):=H
  have A6:=zz31 A60
  clear A60
  have H':=zz31 H
  clear H
  go_enter Try.func10,Try.ntmps10
  go_wp2_with (first | ((with_reducible refine gate_dst (N:=2) rfl ?_);refine box_event ?hg (N:=2) ?hd (cs:=#[.int .i64 a0_0,.slice A0_1 l0_1.length c0_1]) (t:=31) ?hr ?_;(case hd=>rfl);(case hg=>rfl);(case hr=>first | (go_simp;done) | (go_simp;rfl));intro gb198 hg w7 hbox hb;have n0_:=zz31 (zz4 (by repeat first | exact HB.out | apply zz2 | apply zz0 | apply zz1) hb);have n1_:=zz31 (hbox);have n2_:=zz31 ((by rw [hg];exact (zz5 (by repeat first | exact HB.out | apply zz2 | apply zz0 | apply zz1)):w.heap.size≤gb198));have n3_:=zz31 ((by rw [hg];exact (zz5 (by repeat first | exact HB.out | apply zz2 | apply zz0 | apply zz1)):w.heap.size≤gb198));clear HB;have HB:=n0_;have BK198:=n1_;have GW198:=n2_;have GE198:=n3_;clear n0_ n1_ n2_ n3_;clear hb hbox hg;have hcz8_0:w7.cell? ⟨gb198,0,none⟩=some (.int .i64 a0_0):=(zz9 BK198.out 0).trans rfl;have hcz8_1:w7.cell? ⟨gb198,1,none⟩=some (.slice A0_1 l0_1.length c0_1):=(zz9 BK198.out 1).trans rfl;have hfz8_0:=zz10 BK198.out 0;have hfz8_1:=zz10 BK198.out 1) | ((with_reducible refine gate_callee (f:=33) rfl ?_);refine goesL_ (some 11) rfl rfl Try.func33 (by kernel_rfl) rfl #[.agg #[.int .i64 a0_0,.slice A0_1 l0_1.length c0_1],.slice A1 l1.length c1] rfl (by (try simp only [zz26,zz27,zz28]);first | done | rfl | (simp only [zz24,zz25];rfl)) ?_;(with_reducible refine (spec_grGroup.calls k a0_0 _ _ l0_1 _ _ l1 true _ ?side1 ?side2 ?side3 ?side4 A3.out).mono ?_);(case side1=>repeat (first | exact (Kd.C_below HR0_1.out HB.out) | (with_reducible refine zz18 ?_ _) | (with_reducible refine zz19 ?_ _) | (with_reducible refine zz20 ?_)));(case side2=>exact HC0_1.out);(case side3=>repeat (first | exact (Kd.C_below HR1.out HB.out) | (with_reducible refine zz18 ?_ _) | (with_reducible refine zz19 ?_ _) | (with_reducible refine zz20 ?_)));(case side4=>exact HC1.out);rintro e w9 ⟨rfl,hb⟩;refine ⟨_,rfl,?_⟩;have n0_:=zz31 (zz11 (g:=gb198) (o:=.cells #[.int .i64 a0_0,.slice A0_1 l0_1.length c0_1] 31 (0,0)) (by (with_reducible repeat (first | refine zz6 ?_ _ | refine zz7 ?_ | refine zz8 ?_ _));exact BK198.out) hb);have n1_:=zz31 (zz4 (by repeat first | exact HB.out | apply zz2 | apply zz0 | apply zz1 | refine zz3 ?_ GE198.out) hb);clear BK198;clear HB;have BK198:=n0_;have HB:=n1_;clear n0_ n1_;(try clear hb);(try clear hb2);(try clear hk);(try clear hi);have hcz10_0:w9.cell? ⟨gb198,0,none⟩=some (.int .i64 a0_0):=(zz9 BK198.out 0).trans rfl;have hcz10_1:w9.cell? ⟨gb198,1,none⟩=some (.slice A0_1 l0_1.length c0_1):=(zz9 BK198.out 1).trans rfl;have hfz10_0:=zz10 BK198.out 0;have hfz10_1:=zz10 BK198.out 1) | ((with_reducible refine gate_callee (f:=34) rfl ?_);refine goesL_ (some 14) rfl rfl Try.func34 (by kernel_rfl) rfl #[.agg #[.int .i64 a0_0,.slice A0_1 l0_1.length c0_1]] rfl (by (try simp only [zz26,zz27,zz28]);first | done | rfl | (simp only [zz24,zz25];rfl)) ?_;(with_reducible refine (spec_paTable.calls k a0_0 _ _ l0_1 t200 _ ?side1 ?side2 A5.out).mono ?_);(case side1=>repeat (first | exact (Kd.C_below HR0_1.out HB.out) | (with_reducible refine zz18 ?_ _) | (with_reducible refine zz19 ?_ _) | (with_reducible refine zz20 ?_)));(case side2=>exact HC0_1.out);rintro e w11 ⟨v201,rfl,ho0,hb⟩;refine ⟨_,rfl,?_⟩;have n0_:=zz31 (Kd.S_lower ho0 (zz5 (by repeat first | exact HB.out | apply zz2 | apply zz0 | apply zz1 | refine zz3 ?_ GE198.out)));have n1_:=zz31 (zz11 (g:=gb198) (o:=.cells #[.int .i64 a0_0,.slice A0_1 l0_1.length c0_1] 31 (0,0)) (by (with_reducible repeat (first | refine zz6 ?_ _ | refine zz7 ?_ | refine zz8 ?_ _));exact BK198.out) hb);have n2_:=zz31 (zz4 (by repeat first | exact HB.out | apply zz2 | apply zz0 | apply zz1 | refine zz3 ?_ GE198.out) hb);clear BK198;clear HB;have HO202:=n0_;have BK198:=n1_;have HB:=n2_;clear n0_ n1_ n2_;(try clear hb);(try clear hb2);(try clear hk);(try clear hi);(try clear ho0)) | ((with_reducible refine gate_callee (f:=35) rfl ?_);refine goesL_ (some 16) rfl rfl Try.func35 (by kernel_rfl) rfl #[.slice A1 l1.length c1] rfl (by (try simp only [zz26,zz27,zz28]);first | done | rfl | (simp only [zz24,zz25];rfl)) ?_;(with_reducible refine (spec_l1Own.calls _ _ l1 t203 _ ?side1 ?side2 A6.out).mono ?_);(case side1=>repeat (first | exact (Kd.C_below HR1.out HB.out) | (with_reducible refine zz18 ?_ _) | (with_reducible refine zz19 ?_ _) | (with_reducible refine zz20 ?_)));(case side2=>exact HC1.out);rintro e w12 ⟨v204,rfl,ho0,hb⟩;refine ⟨_,rfl,?_⟩;have n0_:=zz31 (Kd.S_below (by (with_reducible repeat (first | apply zz15 | apply zz16 | apply zz17));exact HO202.out) hb);have n1_:=zz31 (Kd.R_lower ho0 (zz5 (by repeat first | exact HB.out | apply zz2 | apply zz0 | apply zz1 | refine zz3 ?_ GE198.out)));have n2_:=zz31 (zz11 (g:=gb198) (o:=.cells #[.int .i64 a0_0,.slice A0_1 l0_1.length c0_1] 31 (0,0)) (by (with_reducible repeat (first | refine zz6 ?_ _ | refine zz7 ?_ | refine zz8 ?_ _));exact BK198.out) hb);have n3_:=zz31 (zz4 (by repeat first | exact HB.out | apply zz2 | apply zz0 | apply zz1 | refine zz3 ?_ GE198.out) hb);clear HO202;clear BK198;clear HB;have HO202:=n0_;have HO205:=n1_;have BK198:=n2_;have HB:=n3_;clear n0_ n1_ n2_ n3_;(try clear hb);(try clear hb2);(try clear hk);(try clear hi);(try clear ho0);obtain ⟨Ao13,co13,eo13⟩:=Kd.S_slice HO202.out;subst eo13))
  go_loopg [7,19] k (fun kq v7 v19 w'=>∃ (x7_1:List Int) (x19_1:Int),v19=.int .i64 x19_1∧Aside0 (spec_GrowGroup.l0 kq t200 x7_1 (t200.length:Int) x19_1=some (r1,r2))∧Aside0 (kq≤k)∧Aside0 (Kd.S (Kd.slice 4 Kd.bool) 77 w' w.heap.size (fun _=>True) (.slice Ao13 t200.length co13) t200)∧Aside0 (Kd.R (Kd.int .i64) 3 w' w.heap.size (fun _=>True) v7 x7_1)∧Aside0 (w'.heap[gb198]?=some (.cells #[.int .i64 a0_0,(.slice A0_1 l0_1.length c0_1)] 31 (0,0)))∧Aside0 (Below w.heap.size w w'))
  case atStart=>exact ⟨(t203),(0),(by first | rfl | (simp;done) | (simp [*];done)),H',⟨Nat.le_refl _⟩,⟨by (with_reducible repeat (first | apply zz15 | apply zz16 | apply zz17));exact HO202.out⟩,⟨by (with_reducible repeat (first | apply zz12 | apply zz13 | apply zz14));exact HO205.out⟩,⟨by (with_reducible repeat (first | refine zz6 ?_ _ | refine zz7 ?_ | refine zz8 ?_ _));exact BK198.out⟩,⟨by repeat first | exact HB.out | apply zz2 | apply zz0 | apply zz1 | refine zz3 ?_ GE198.out⟩⟩
  case round =>
   clear H'
   try clear c1
   try clear p2
   try clear c3
   try clear c4
   try clear c10
   try clear hcz10_0
   try clear hcz10_1
   try clear hcz8_0
   try clear hcz8_1
   try clear hfz10_0
   try clear hfz10_1
   try clear hfz8_0
   try clear hfz8_1
   obtain ⟨x7_1,x19_1,rfl,HA,HK1,HO_6,HO_7,BK198,HB⟩:=hrel
   cases gk with
   | zero=>exact absurd HA.out (by simp [spec_GrowGroup.l0])
   | succ k1 =>
    have H:=HA.out
    clear HA
    simp only [spec_GrowGroup.l0] at H
    by_cases c14:x19_1 < (t200.length:Int)
    ·rw [if_pos c14] at H
     have c14b0:decide (x19_1 < (t200.length:Int))=true:=decide_eq_true c14
     clear c14
     replace H:=zz30.mp H
     obtain ⟨t206,A150,H⟩:=H
     replace H:(if t206=true then (spec_GrowGroup.l0 k1 t200 x7_1 (t200.length:Int) (wrap64 (x19_1+1))) else ((spec_grJoins.f k1 t200 x7_1 x19_1).bind fun t207=>(if t207=true then ((spec_l1Put.f k1 x7_1 x19_1).bind fun t208=>(spec_GrowGroup.l0 k1 t200 t208 (t200.length:Int) (wrap64 (x19_1+1)))) else (spec_GrowGroup.l0 k1 t200 x7_1 (t200.length:Int) (wrap64 (x19_1+1))))))=some (r1,r2):=H
     have A15:=zz31 A150
     clear A150
     by_cases c16:t206=true
     ·subst c16
      have H1:(spec_GrowGroup.l0 k1 t200 x7_1 (t200.length:Int) (wrap64 (x19_1+1)))=some (r1,r2):=by rw [if_pos rfl] at H;exact H
      clear H
      have H:=H1
      clear H1
      have H':=zz31 H
      clear H
      obtain ⟨Ao17,co17,eo17⟩:=Kd.R_slice HO_7.out
      subst eo17
      go_wp2_with (first | ((with_reducible refine gate_callee (f:=36) rfl ?_);refine goesL_ (some 24) rfl rfl Try.func36 (by kernel_rfl) rfl #[.slice Ao17 x7_1.length co17,.int .i64 x19_1] rfl (by (try simp only [zz26,zz27,zz28]);first | done | rfl | (simp only [zz24,zz25];rfl)) ?_;(with_reducible refine (spec_l1Has.calls k1 _ _ x7_1 x19_1 true _ ?side1 ?side2 A15.out).mono ?_);(case side1=>repeat (first | exact (Kd.R_reads' HO_7.out).2.2 | (with_reducible refine zz18 ?_ _) | (with_reducible refine zz19 ?_ _) | (with_reducible refine zz20 ?_)));(case side2=>exact (Kd.R_reads' HO_7.out).2.1);rintro e w' ⟨rfl,⟨nd,rfl⟩⟩;refine ⟨_,rfl,?_⟩))
      go_roundg k1
      case measure=>have:=HK1.out;omega
      case rel=>exact ⟨(x7_1),(wrap64 (x19_1+1)),(by first | rfl | (simp;done) | (simp [*];done)),H',⟨by have:=HK1.out;omega⟩,⟨by (with_reducible repeat (first | apply zz15 | apply zz16 | apply zz17));exact HO_6.out⟩,⟨by (with_reducible repeat (first | apply zz12 | apply zz13 | apply zz14));exact HO_7.out⟩,⟨by (with_reducible repeat (first | refine zz6 ?_ _ | refine zz7 ?_ | refine zz8 ?_ _));exact BK198.out⟩,⟨by repeat first | exact HB.out | apply zz2 | apply zz0 | apply zz1 | refine zz3 ?_ GE198.out⟩⟩
     ·replace c16:=Bool.eq_false_iff.mpr c16
      subst c16
      have H1:((spec_grJoins.f k1 t200 x7_1 x19_1).bind fun t207=>(if t207=true then ((spec_l1Put.f k1 x7_1 x19_1).bind fun t208=>(spec_GrowGroup.l0 k1 t200 t208 (t200.length:Int) (wrap64 (x19_1+1)))) else (spec_GrowGroup.l0 k1 t200 x7_1 (t200.length:Int) (wrap64 (x19_1+1)))))=some (r1,r2):=by rw [if_neg (show ¬ (false=true) by decide)] at H;exact H
      clear H
      have H:=H1
      clear H1
      replace H:=zz30.mp H
      obtain ⟨t207,A180,H⟩:=H
      replace H:(if t207=true then ((spec_l1Put.f k1 x7_1 x19_1).bind fun t208=>(spec_GrowGroup.l0 k1 t200 t208 (t200.length:Int) (wrap64 (x19_1+1)))) else (spec_GrowGroup.l0 k1 t200 x7_1 (t200.length:Int) (wrap64 (x19_1+1))))=some (r1,r2):=H
      have A18:=zz31 A180
      clear A180
      by_cases c19:t207=true
      ·subst c19
       have H1:((spec_l1Put.f k1 x7_1 x19_1).bind fun t208=>(spec_GrowGroup.l0 k1 t200 t208 (t200.length:Int) (wrap64 (x19_1+1))))=some (r1,r2):=by rw [if_pos rfl] at H;exact H
       clear H
       have H:=H1
       clear H1
       replace H:=zz30.mp H
       obtain ⟨t208,A200,H⟩:=H
       replace H:(spec_GrowGroup.l0 k1 t200 t208 (t200.length:Int) (wrap64 (x19_1+1)))=some (r1,r2):=H
       have A20:=zz31 A200
       clear A200
       have H':=zz31 H
       clear H
       obtain ⟨Ao21,co21,eo21⟩:=Kd.R_slice HO_7.out
       subst eo21
       go_wp2_with (first | ((with_reducible refine gate_callee (f:=36) rfl ?_);refine goesL_ (some 24) rfl rfl Try.func36 (by kernel_rfl) rfl #[.slice Ao21 x7_1.length co21,.int .i64 x19_1] rfl (by (try simp only [zz26,zz27,zz28]);first | done | rfl | (simp only [zz24,zz25];rfl)) ?_;(with_reducible refine (spec_l1Has.calls k1 _ _ x7_1 x19_1 false _ ?side1 ?side2 A15.out).mono ?_);(case side1=>repeat (first | exact (Kd.R_reads' HO_7.out).2.2 | (with_reducible refine zz18 ?_ _) | (with_reducible refine zz19 ?_ _) | (with_reducible refine zz20 ?_)));(case side2=>exact (Kd.R_reads' HO_7.out).2.1);rintro e w' ⟨rfl,⟨nd,rfl⟩⟩;refine ⟨_,rfl,?_⟩) | (go_at_call 37;(with_reducible refine (spec_grJoins.calls k1 _ _ t200 _ _ x7_1 x19_1 true _ ?side1 ?side2 ?side3 ?side4 A18.out).mono ?_);(case side1=>repeat (first | exact (Kd.S_reads' HO_6.out).2.2 | (with_reducible refine zz18 ?_ _) | (with_reducible refine zz19 ?_ _) | (with_reducible refine zz20 ?_)));(case side2=>exact (Kd.S_reads' HO_6.out).2.1);(case side3=>repeat (first | exact (Kd.R_reads' HO_7.out).2.2 | (with_reducible refine zz18 ?_ _) | (with_reducible refine zz19 ?_ _) | (with_reducible refine zz20 ?_)));(case side4=>exact (Kd.R_reads' HO_7.out).2.1);rintro e w' ⟨rfl,⟨nd,rfl⟩⟩) | ((with_reducible refine gate_callee (f:=38) rfl ?_);refine goesL_ (some 34) rfl rfl Try.func38 (by kernel_rfl) rfl #[.slice Ao21 x7_1.length co21,.int .i64 x19_1] rfl (by (try simp only [zz26,zz27,zz28]);first | done | rfl | (simp only [zz24,zz25];rfl)) ?_;(with_reducible refine (spec_l1Put.calls k1 (fun k_=>some k_=(.slice Ao21 x7_1.length co21:Value).ownBlock) (.slice Ao21 x7_1.length co21) x7_1 x19_1 t208 w _ ?side1 ?side2 A20.out).mono ?_);(case side1=>repeat first | exact HB.out | apply zz2 | apply zz0 | apply zz1 | refine zz3 ?_ GE198.out);(case side2=>exact Kd.R_tight rfl HO_7.out);rintro e w22 ⟨v209,rfl,ho0,hb,hkp⟩;refine ⟨_,rfl,?_⟩;have n0_:=zz31 (Kd.S_mono (ok':=fun k_=>True) (Kd.S_keptB ((Kd.S_apart' HO_6.out (Kd.R_typed HO_7.out) (by decide))) hkp (fun k_ hk_ hs_=>(hk_.2) hs_)) (fun k_ hk_=>trivial));(first | have n1_:=zz31 (blk_kept BK198.out hkp (fun hs_=>(fun e_=>(Kd.R_ne HO_7.out BK198.out (by decide)) e_) hs_)) | have n1_:=zz31 (blk_kept (by (with_reducible repeat (first | refine zz6 ?_ _ | refine zz7 ?_ | refine zz8 ?_ _));exact BK198.out) hkp (fun hs_=>(fun e_=>(Kd.R_ne HO_7.out BK198.out (by decide)) e_) hs_)));have n2_:=zz31 (Kd.R_mono (ok':=fun k_=>True) ho0 (fun k_ hk_=>trivial));have n3_:=zz31 (hb);clear HO_6;clear BK198;clear HB;clear HO_7;have HO_6:=n0_;have BK198:=n1_;have HO210:=n2_;have HB:=n3_;clear n0_ n1_ n2_ n3_;(try clear hb);(try clear hkp);(try clear ho0)))
       go_roundg k1
       case measure=>have:=HK1.out;omega
       case rel=>exact ⟨(t208),(wrap64 (x19_1+1)),(by first | rfl | (simp;done) | (simp [*];done)),H',⟨by have:=HK1.out;omega⟩,⟨by (with_reducible repeat (first | apply zz15 | apply zz16 | apply zz17));exact HO_6.out⟩,⟨by (with_reducible repeat (first | apply zz12 | apply zz13 | apply zz14));exact HO210.out⟩,⟨by (with_reducible repeat (first | refine zz6 ?_ _ | refine zz7 ?_ | refine zz8 ?_ _));exact BK198.out⟩,⟨by repeat first | exact HB.out | apply zz2 | apply zz0 | apply zz1 | refine zz3 ?_ GE198.out⟩⟩
      ·replace c19:=Bool.eq_false_iff.mpr c19
       subst c19
       have H1:(spec_GrowGroup.l0 k1 t200 x7_1 (t200.length:Int) (wrap64 (x19_1+1)))=some (r1,r2):=by rw [if_neg (show ¬ (false=true) by decide)] at H;exact H
       clear H
       have H:=H1
       clear H1
       have H':=zz31 H
       clear H
       obtain ⟨Ao23,co23,eo23⟩:=Kd.R_slice HO_7.out
       subst eo23
       go_wp2_with (first | ((with_reducible refine gate_callee (f:=36) rfl ?_);refine goesL_ (some 24) rfl rfl Try.func36 (by kernel_rfl) rfl #[.slice Ao23 x7_1.length co23,.int .i64 x19_1] rfl (by (try simp only [zz26,zz27,zz28]);first | done | rfl | (simp only [zz24,zz25];rfl)) ?_;(with_reducible refine (spec_l1Has.calls k1 _ _ x7_1 x19_1 false _ ?side1 ?side2 A15.out).mono ?_);(case side1=>repeat (first | exact (Kd.R_reads' HO_7.out).2.2 | (with_reducible refine zz18 ?_ _) | (with_reducible refine zz19 ?_ _) | (with_reducible refine zz20 ?_)));(case side2=>exact (Kd.R_reads' HO_7.out).2.1);rintro e w' ⟨rfl,⟨nd,rfl⟩⟩;refine ⟨_,rfl,?_⟩) | (go_at_call 37;(with_reducible refine (spec_grJoins.calls k1 _ _ t200 _ _ x7_1 x19_1 false _ ?side1 ?side2 ?side3 ?side4 A18.out).mono ?_);(case side1=>repeat (first | exact (Kd.S_reads' HO_6.out).2.2 | (with_reducible refine zz18 ?_ _) | (with_reducible refine zz19 ?_ _) | (with_reducible refine zz20 ?_)));(case side2=>exact (Kd.S_reads' HO_6.out).2.1);(case side3=>repeat (first | exact (Kd.R_reads' HO_7.out).2.2 | (with_reducible refine zz18 ?_ _) | (with_reducible refine zz19 ?_ _) | (with_reducible refine zz20 ?_)));(case side4=>exact (Kd.R_reads' HO_7.out).2.1);rintro e w' ⟨rfl,⟨nd,rfl⟩⟩))
       go_roundg k1
       case measure=>have:=HK1.out;omega
       case rel=>exact ⟨(x7_1),(wrap64 (x19_1+1)),(by first | rfl | (simp;done) | (simp [*];done)),H',⟨by have:=HK1.out;omega⟩,⟨by (with_reducible repeat (first | apply zz15 | apply zz16 | apply zz17));exact HO_6.out⟩,⟨by (with_reducible repeat (first | apply zz12 | apply zz13 | apply zz14));exact HO_7.out⟩,⟨by (with_reducible repeat (first | refine zz6 ?_ _ | refine zz7 ?_ | refine zz8 ?_ _));exact BK198.out⟩,⟨by repeat first | exact HB.out | apply zz2 | apply zz0 | apply zz1 | refine zz3 ?_ GE198.out⟩⟩
    ·rw [if_neg c14] at H
     have c14b0:decide (x19_1 < (t200.length:Int))=false:=decide_eq_false c14
     clear c14
     simp only [Option.some.injEq,Prod.mk.injEq] at H
     obtain ⟨rfl,rfl⟩:=H
     go_wp2
     go_ret2
     exact ⟨_,by first | rfl | (simp [errW_none,errW_some] <;> rfl) | (simp [*,errW_none,errW_some] <;> rfl),by (with_reducible repeat (first | apply zz12 | apply zz13 | apply zz14));exact HO_7.out,by repeat first | exact HB.out | apply zz2 | apply zz0 | apply zz1 | refine zz3 ?_ GE198.out⟩
 ·replace c4:=Bool.eq_false_iff.mpr c4
  subst c4
  have H1:(some (([]:List Int),false))=some (r1,r2):=by rw [if_neg (show ¬ (false=true) by decide)] at H;exact H
  clear H
  have H:=H1
  clear H1
  simp only [Option.some.injEq,Prod.mk.injEq] at H
  obtain ⟨rfl,rfl⟩:=H
  go_enter Try.func10,Try.ntmps10
  go_wp2_with (first | ((with_reducible refine gate_dst (N:=2) rfl ?_);refine box_event ?hg (N:=2) ?hd (cs:=#[.int .i64 a0_0,.slice A0_1 l0_1.length c0_1]) (t:=31) ?hr ?_;(case hd=>rfl);(case hg=>rfl);(case hr=>first | (go_simp;done) | (go_simp;rfl));intro gb198 hg w24 hbox hb;have n0_:=zz31 (zz4 (by repeat first | exact HB.out | apply zz2 | apply zz0 | apply zz1) hb);have n1_:=zz31 (hbox);have n2_:=zz31 ((by rw [hg];exact (zz5 (by repeat first | exact HB.out | apply zz2 | apply zz0 | apply zz1)):w.heap.size≤gb198));have n3_:=zz31 ((by rw [hg];exact (zz5 (by repeat first | exact HB.out | apply zz2 | apply zz0 | apply zz1)):w.heap.size≤gb198));clear HB;have HB:=n0_;have BK198:=n1_;have GW198:=n2_;have GE198:=n3_;clear n0_ n1_ n2_ n3_;clear hb hbox hg;have hcz25_0:w24.cell? ⟨gb198,0,none⟩=some (.int .i64 a0_0):=(zz9 BK198.out 0).trans rfl;have hcz25_1:w24.cell? ⟨gb198,1,none⟩=some (.slice A0_1 l0_1.length c0_1):=(zz9 BK198.out 1).trans rfl;have hfz25_0:=zz10 BK198.out 0;have hfz25_1:=zz10 BK198.out 1) | ((with_reducible refine gate_callee (f:=33) rfl ?_);refine goesL_ (some 11) rfl rfl Try.func33 (by kernel_rfl) rfl #[.agg #[.int .i64 a0_0,.slice A0_1 l0_1.length c0_1],.slice A1 l1.length c1] rfl (by (try simp only [zz26,zz27,zz28]);first | done | rfl | (simp only [zz24,zz25];rfl)) ?_;(with_reducible refine (spec_grGroup.calls k a0_0 _ _ l0_1 _ _ l1 false _ ?side1 ?side2 ?side3 ?side4 A3.out).mono ?_);(case side1=>repeat (first | exact (Kd.C_below HR0_1.out HB.out) | (with_reducible refine zz18 ?_ _) | (with_reducible refine zz19 ?_ _) | (with_reducible refine zz20 ?_)));(case side2=>exact HC0_1.out);(case side3=>repeat (first | exact (Kd.C_below HR1.out HB.out) | (with_reducible refine zz18 ?_ _) | (with_reducible refine zz19 ?_ _) | (with_reducible refine zz20 ?_)));(case side4=>exact HC1.out);rintro e w26 ⟨rfl,hb⟩;refine ⟨_,rfl,?_⟩;have n0_:=zz31 (zz11 (g:=gb198) (o:=.cells #[.int .i64 a0_0,.slice A0_1 l0_1.length c0_1] 31 (0,0)) (by (with_reducible repeat (first | refine zz6 ?_ _ | refine zz7 ?_ | refine zz8 ?_ _));exact BK198.out) hb);have n1_:=zz31 (zz4 (by repeat first | exact HB.out | apply zz2 | apply zz0 | apply zz1 | refine zz3 ?_ GE198.out) hb);clear BK198;clear HB;have BK198:=n0_;have HB:=n1_;clear n0_ n1_;(try clear hb);(try clear hb2);(try clear hk);(try clear hi)))
  go_ret2
  exact ⟨_,by first | rfl | (simp [errW_none,errW_some] <;> rfl) | (simp [*,errW_none,errW_some] <;> rfl),by first | exact Kd.R_nil _ _ _ _ _ | exact Kd.N_nil _ _ _ _ _ | exact Kd.V_nil _ _ _ _ _ | exact Kd.Q_nil _ _ _ _ _ | exact Kd.S_nil _ _ _ _ _,by repeat first | exact HB.out | apply zz2 | apply zz0 | apply zz1 | refine zz3 ?_ GE198.out⟩

/-! ### laws_toIntS: function 12 -/
def laws_toIntS.l0:Nat→List Int→List Int→Int→Option (List Int)
 | 0,_,_,_=>none
 | k+1,x0,x3,x4=>if x4 < (x0.length:Int) then (if 0≤x4 then (if x4 < (x3.length:Int) then (laws_toIntS.l0 k x0 (x3.set (x4:Int).toNat (rd x0 x4)) (wrap64 (x4+1))) else (none)) else (none)) else (some x3)
def laws_toIntS.f (k:Nat) (l0:List Int):Option (List Int):=if 0≤(l0.length:Int) then (if ((l0.length:Int):Int).toNat≤35184372088832 then (laws_toIntS.l0 k l0 (List.replicate ((l0.length:Int):Int).toNat 0) 0) else (none)) else (none)
theorem laws_toIntS.mono_l:∀ k,(∀ y0 y1 y2,LeO (laws_toIntS.l0 k y0 y1 y2) (laws_toIntS.l0 (k+1) y0 y1 y2))
 | 0=>fun _ _ _ r h=>by simp [laws_toIntS.l0] at h
 | k+1=>by
  have ih0:=laws_toIntS.mono_l k
  ·intro y0 y1 y2
   unfold laws_toIntS.l0
   repeat' first
   | (with_reducible exact ih0 _ _ _)
   | (with_reducible exact LeO.refl _)
   | (with_reducible exact LeO.none _)
   | (with_reducible refine LeO.ite ?_ ?_)
   | (with_reducible refine LeO.bind ?_ (fun _=>?_))
   | exact ih0 _ _ _
   | exact LeO.none _
   | refine LeO.ite ?_ ?_
   | refine LeO.bind ?_ (fun _=>?_)
theorem laws_toIntS.mono:∀ a0 k,LeO (laws_toIntS.f k a0) (laws_toIntS.f (k+1) a0):=by
 intro a0 k
 have ih0:=laws_toIntS.mono_l k
 unfold laws_toIntS.f
 repeat' first
   | (with_reducible exact ih0 _ _ _)
   | (with_reducible exact LeO.refl _)
   | (with_reducible exact LeO.none _)
   | (with_reducible refine LeO.ite ?_ ?_)
   | (with_reducible refine LeO.bind ?_ (fun _=>?_))
   | exact ih0 _ _ _
   | exact LeO.none _
   | refine LeO.ite ?_ ?_
   | refine LeO.bind ?_ (fun _=>?_)
set_option maxHeartbeats 8000000 in
set_option maxRecDepth 100000 in
theorem laws_toIntS.calls (k:Nat) (A0:Option Addr) (c0:Nat) (l0:List Int) (r:List Int) (w:World) (hr0:Kd.C (Kd.int .i64) w A0 l0.length l0) (hc0:l0.length≤c0) (h:laws_toIntS.f k l0=some r) :
  Calls Try.prog 12 #[.slice A0 l0.length c0] w fun e w'=>∃ v0_:Value,e=.returned (v0_)∧Kd.R (Kd.int .i64) 3 w' w.heap.size (fun _=>True) v0_ r∧Below w.heap.size w w':=by
 have HR0:=zz31 hr0
 have HC0:=zz31 hc0
 clear hr0 hc0
 have HB:=zz31 (Below.refl w.heap.size w)
 have H:(if 0≤(l0.length:Int) then (if ((l0.length:Int):Int).toNat≤35184372088832 then (laws_toIntS.l0 k l0 (List.replicate ((l0.length:Int):Int).toNat 0) 0) else (none)) else (none))=some r:=h
 clear h
 by_cases c2:0≤(l0.length:Int)
 ·rw [if_pos c2] at H
  have c2b0:=eq_true c2
  have c2b1:decide (0≤(l0.length:Int))=true:=decide_eq_true c2
  clear c2
  by_cases c3:((l0.length:Int):Int).toNat≤35184372088832
  ·rw [if_pos c3] at H
   have c3b0:=eq_true c3
   have c3b1:decide (((l0.length:Int):Int).toNat≤35184372088832)=true:=decide_eq_true c3
   clear c3
   obtain ⟨y227,hy227⟩:∃ y_:List Int,y_=(List.replicate ((l0.length:Int):Int).toNat 0):=⟨_,rfl⟩
   replace H:(laws_toIntS.l0 k l0 y227 0)=some r:=by first | (rw [hy227];with_reducible exact H) | (have H2_:=(Option.bind_some _ _).symm.trans H;rw [hy227];with_reducible exact H2_) | (have H2_:=(Option.bind_some _ _).symm.trans H;with_reducible exact H2_) | with_reducible exact H | (rw [hy227];exact H) | exact H
   have Ny227:=zz31 hy227
   clear hy227
   have H':=zz31 H
   clear H
   go_enter Try.func12,Try.ntmps12
   go_wp2_with (first | ((with_reducible refine gate_dst (N:=7) rfl ?_);refine Kd.R_make (Kd.int .i64) _ 3 rfl (N:=7) rfl 25 _ _ rfl (l0.length:Int) rfl rfl Try.underlying25 (.int .i64 0) 8 info3 rfl (by decide) (by omega) 0 (ok:=fun _=>True) (okp:=fun _=>True) rfl (fun _ hk=>hk) trivial (zz29 (by first | (with_reducible assumption) | assumption)) (Nat.le_trans (Nat.mul_le_mul_right _ (zz29 (by first | (with_reducible assumption) | assumption):(l0.length:Int).toNat≤35184372088832)) (by omega)) (Below.refl _ _) (Nat.le_refl _) ?_;intro v228 w4 ho5 hb hg_ hnew_;clear hg_ hnew_;(first | rw [← Ny227.out] at ho5 | (simp only [Int.reduceToNat] at ho5;rw [← Ny227.out] at ho5));have n0_:=zz31 (Kd.R_lower ho5 (zz5 (by repeat first | exact HB.out | apply zz2 | apply zz0 | apply zz1)));have n1_:=zz31 (zz4 (by repeat first | exact HB.out | apply zz2 | apply zz0 | apply zz1) hb);clear HB;have HO229:=n0_;have HB:=n1_;clear n0_ n1_;clear hb ho5))
   go_loopg [4] k (fun kq v4 w'=>∃ (x3_1:List Int) (x4_1:Int),v4=.int .i64 x4_1∧Aside0 (laws_toIntS.l0 kq l0 x3_1 x4_1=some r)∧Aside0 (kq≤k)∧Aside0 (Kd.R (Kd.int .i64) 3 w' w.heap.size (fun _=>True) v228 x3_1)∧Aside0 (Below w.heap.size w w'))
   case atStart=>exact ⟨(y227),(0),(by first | rfl | (simp;done) | (simp [*];done)),H',⟨Nat.le_refl _⟩,⟨by (with_reducible repeat (first | apply zz12 | apply zz13 | apply zz14));exact HO229.out⟩,⟨by repeat first | exact HB.out | apply zz2 | apply zz0 | apply zz1⟩⟩
   case round =>
    clear H'
    try clear c1
    try clear c2
    try clear c2b0
    try clear c2b1
    try clear p2
    try clear c3
    try clear c3b0
    try clear c3b1
    obtain ⟨x3_1,x4_1,rfl,HA,HK1,HO_3,HB⟩:=hrel
    cases gk with
    | zero=>exact absurd HA.out (by simp [laws_toIntS.l0])
    | succ k1 =>
     have H:=HA.out
     clear HA
     simp only [laws_toIntS.l0] at H
     by_cases c6:x4_1 < (l0.length:Int)
     ·rw [if_pos c6] at H
      have c6b0:decide (x4_1 < (l0.length:Int))=true:=decide_eq_true c6
      clear c6
      by_cases c7:0≤x4_1
      ·rw [if_pos c7] at H
       have c7b0:decide (0≤x4_1)=true:=decide_eq_true c7
       clear c7
       by_cases c8:x4_1 < (x3_1.length:Int)
       ·rw [if_pos c8] at H
        have c8b0:decide (x4_1 < (x3_1.length:Int))=true:=decide_eq_true c8
        clear c8
        obtain ⟨y231,hy231⟩:∃ y_:List Int,y_=(x3_1.set (x4_1:Int).toNat (rd l0 x4_1)):=⟨_,rfl⟩
        replace H:(laws_toIntS.l0 k1 l0 y231 (wrap64 (x4_1+1)))=some r:=by first | (rw [hy231];with_reducible exact H) | (have H2_:=(Option.bind_some _ _).symm.trans H;rw [hy231];with_reducible exact H2_) | (have H2_:=(Option.bind_some _ _).symm.trans H;with_reducible exact H2_) | with_reducible exact H | (rw [hy231];exact H) | exact H
        have Ny231:=zz31 hy231
        clear hy231
        have H':=zz31 H
        clear H
        have p230:0≤(x4_1:Int):=zz29 (by first | (with_reducible assumption) | assumption)
        have q230:x4_1 < (l0.length:Int):=zz29 (by first | (with_reducible assumption) | assumption)
        obtain ⟨ad230,e230,hx230_0⟩:=Kd.at_int HR0.out x4_1 p230 q230
        cases e230
        try replace hx230_0:=(HB.out.cell (World.block_lt_of_cell? w _ hx230_0)).trans hx230_0
        replace p230:=eq_true p230
        replace q230:=eq_true q230
        have p9:0≤(x4_1:Int):=zz29 (by first | (with_reducible assumption) | assumption)
        have q9:(x4_1:Int) < ((x3_1.length:Int):Int):=zz29 (by first | (with_reducible assumption) | assumption)
        obtain ⟨go9,co9,eo9,gb9,gl9,cl9,HG9⟩:=Kd.R_form HO_3.out (by omega)
        (first | cases eo9 | (injection eo9 with ea_ en_ ec_;(first | subst ea_ | (injection ea_ with ea_;subst ea_));subst ec_;clear en_))
        have GB9:=zz31 gb9
        have GG9:=zz31 HG9
        clear gb9 gl9 HG9
        obtain ⟨hx9_0,hf9_0⟩:=Kd.R_celln 0 HO_3.out (x4_1:Int) p9 q9
        replace p9:=eq_true p9
        replace q9:=eq_true q9
        have HP10:=Kd.R_putg HO_3.out (x4_1:Int) (rd l0 x4_1)
        go_wp2_with (first | ((with_reducible refine gate_store (t:=3) (p:=20) rfl ?_);refine store_event (t:=3) (p:=20) (v:=?vo_w11) (w1:=(wr.setCell ⟨go9,(x4_1:Int).toNat,none⟩ (.int .i64 (rd l0 x4_1)))) ?hg ?ho ?hn ?hr ?_;(case ho=>rfl);(case hg=>rfl);(case hn=>rfl);(case hr=>first | (go_simp;done) | (go_simp;rfl));intro w11 hw;have hg:wr.grownBy w11 (some go9):=(by rw [hw];exact HP10.2);have hp_:Kd.R (Kd.int .i64) 3 w11 w.heap.size (fun _=>True) (.slice (some ⟨go9,0,none⟩) x3_1.length co9) y231:=(by rw [hw,Ny231.out];exact HP10.1);clear HP10;have n0_:=zz31 (hp_);have n1_:=zz31 ((by rw [hw];exact zz3 (HB.out) GB9.out:Below w.heap.size w w11));clear HO_3;clear HB;have HO_3:=n0_;have HB:=n1_;clear n0_ n1_;clear hg hw hp_))
        go_roundg k1
        case measure=>have:=HK1.out;omega
        case rel=>exact ⟨(y231),(wrap64 (x4_1+1)),(by first | rfl | (simp;done) | (simp [*];done)),H',⟨by have:=HK1.out;omega⟩,⟨by (with_reducible repeat (first | apply zz12 | apply zz13 | apply zz14));exact HO_3.out⟩,⟨by repeat first | exact HB.out | apply zz2 | apply zz0 | apply zz1⟩⟩
       ·rw [if_neg c8] at H
        exact absurd H (by simp)
      ·rw [if_neg c7] at H
       exact absurd H (by simp)
     ·rw [if_neg c6] at H
      have c6b0:decide (x4_1 < (l0.length:Int))=false:=decide_eq_false c6
      clear c6
      obtain rfl:=Option.some.inj H
      go_wp2
      go_ret
      exact ⟨_,by first | rfl | (simp [errW_none,errW_some] <;> rfl) | (simp [*,errW_none,errW_some] <;> rfl),by (with_reducible repeat (first | apply zz12 | apply zz13 | apply zz14));exact HO_3.out,by repeat first | exact HB.out | apply zz2 | apply zz0 | apply zz1⟩
  ·rw [if_neg c3] at H
   exact absurd H (by simp)
 ·rw [if_neg c2] at H
  exact absurd H (by simp)

/-! ### impl_table_has: function 67 -/
def impl_table_has.f (l0:List Int) (a1:Int) (a2:Int):Option (Bool):=if 0≤a1 then (if a1 < (l0.length:Int) then (if 0≤a2 then (some ((Go.bits .and .u16 (shr .u16 (rd l0 a1) a2) 1) == 1)) else (none)) else (none)) else (none)
set_option maxHeartbeats 8000000 in
set_option maxRecDepth 100000 in
theorem impl_table_has.calls (A0:Option Addr) (c0:Nat) (l0:List Int) (a1:Int) (a2:Int) (r:Bool) (w:World) (hr0:Kd.C (Kd.int .u16) w A0 l0.length l0) (hc0:l0.length≤c0) (h:impl_table_has.f l0 a1 a2=some r) :
  Calls Try.prog 67 #[.slice A0 l0.length c0,.int .i64 a1,.int .i64 a2] w fun e w'=>e=.returned (.bool r)∧Drawn0 w w':=by
 have HR0:=zz31 hr0
 have HC0:=zz31 hc0
 clear hr0 hc0
 have H:(if 0≤a1 then (if a1 < (l0.length:Int) then (if 0≤a2 then (some ((Go.bits .and .u16 (shr .u16 (rd l0 a1) a2) 1) == 1)) else (none)) else (none)) else (none))=some r:=h
 clear h
 by_cases c4:0≤a1
 ·rw [if_pos c4] at H
  have c4b0:decide (0≤a1)=true:=decide_eq_true c4
  clear c4
  by_cases c5:a1 < (l0.length:Int)
  ·rw [if_pos c5] at H
   have c5b0:decide (a1 < (l0.length:Int))=true:=decide_eq_true c5
   clear c5
   by_cases c6:0≤a2
   ·rw [if_pos c6] at H
    have c6b0:=eq_true c6
    have c6b1:decide (0≤a2)=true:=decide_eq_true c6
    clear c6
    obtain ⟨ji7,hji7⟩:∃ j_:Int,(shr .u16 (rd l0 a1) a2)=j_:=⟨_,rfl⟩
    replace H:(some ((Go.bits .and .u16 (ji7) 1) == 1))=some r:=by first | (rw [hji7] at H;exact H) | (simp only [hji7] at H ⊢;exact H)
    have hji7_:((rd l0 a1) / 2 ^ min a2.toNat 16)=ji7:=hji7
    have hji7z:a2≤16→((rd l0 a1) / 2 ^ a2.toNat)=ji7:=shr_small hji7
    obtain rfl:=Option.some.inj H
    have p242:0≤(a1:Int):=zz29 (by first | (with_reducible assumption) | assumption)
    have q242:a1 < (l0.length:Int):=zz29 (by first | (with_reducible assumption) | assumption)
    obtain ⟨ad242,e242,hx242_0⟩:=Kd.at_int HR0.out a1 p242 q242
    cases e242
    replace p242:=eq_true p242
    replace q242:=eq_true q242
    go_enter Try.func67,Try.ntmps67
    go_wp2
    go_ret
    exact ⟨by first | rfl | (simp;done) | (simp only [← hji7] <;> (first | rfl | simp)) | (simp [*];done),by repeat (first | exact Drawn0.refl _ | apply Drawn0.step)⟩
   ·rw [if_neg c6] at H
    exact absurd H (by simp)
  ·rw [if_neg c5] at H
   exact absurd H (by simp)
 ·rw [if_neg c4] at H
  exact absurd H (by simp)

/-! ### impl_table_isGroup: function 44 -/
mutual
def impl_table_isGroup.l0:Nat→List Int→List Int→List Int→Int→Int→Option (Bool)
 | 0,_,_,_,_,_=>none
 | k+1,x0,x1,x9,x10,x11=>if x11 < x10 then (if 0≤x11 then (if x11 < (x9.length:Int) then (if x11≤(x1.length:Int) then (impl_table_isGroup.l1 k x0 x1 (rd x9 x11) x9 x10 x11 (x1.take (x11:Int).toNat) ((x1.take (x11:Int).toNat).length:Int) 0) else (none)) else (none)) else (none)) else (some true)
def impl_table_isGroup.l1:Nat→List Int→List Int→Int→List Int→Int→Int→List Int→Int→Int→Option (Bool)
 | 0,_,_,_,_,_,_,_,_,_=>none
 | k+1,x0,x1,x6,x9,x10,x11,x18,x19,x20=>if x20 < x19 then (if 0≤x20 then (if x20 < (x18.length:Int) then ((impl_table_has.f x0 x6 (rd x18 x20)).bind fun t246=>(if t246=true then (impl_table_isGroup.l1 k x0 x1 x6 x9 x10 x11 x18 x19 (wrap64 (x20+1))) else (some false))) else (none)) else (none)) else (impl_table_isGroup.l0 k x0 x1 x9 x10 (wrap64 (x11+1)))
end
def impl_table_isGroup.f (k:Nat) (l0:List Int) (l1:List Int):Option (Bool):=impl_table_isGroup.l0 k l0 l1 l1 (l1.length:Int) 0
theorem impl_table_isGroup.mono_l:∀ k,(∀ y0 y1 y2 y3 y4,LeO (impl_table_isGroup.l0 k y0 y1 y2 y3 y4) (impl_table_isGroup.l0 (k+1) y0 y1 y2 y3 y4))∧(∀ y0 y1 y2 y3 y4 y5 y6 y7 y8,LeO (impl_table_isGroup.l1 k y0 y1 y2 y3 y4 y5 y6 y7 y8) (impl_table_isGroup.l1 (k+1) y0 y1 y2 y3 y4 y5 y6 y7 y8))
 | 0=>⟨fun _ _ _ _ _ r h=>by simp [impl_table_isGroup.l0] at h,fun _ _ _ _ _ _ _ _ _ r h=>by simp [impl_table_isGroup.l1] at h⟩
 | k+1=>by
  obtain ⟨ih0,ih1⟩:=impl_table_isGroup.mono_l k
  refine ⟨?_,?_⟩
  ·intro y0 y1 y2 y3 y4
   unfold impl_table_isGroup.l0
   repeat' first
   | (with_reducible exact ih0 _ _ _ _ _)
   | (with_reducible exact ih1 _ _ _ _ _ _ _ _ _)
   | (with_reducible exact LeO.refl _)
   | (with_reducible exact LeO.none _)
   | (with_reducible refine LeO.ite ?_ ?_)
   | (with_reducible refine LeO.bind ?_ (fun _=>?_))
   | exact ih0 _ _ _ _ _
   | exact ih1 _ _ _ _ _ _ _ _ _
   | exact LeO.none _
   | refine LeO.ite ?_ ?_
   | refine LeO.bind ?_ (fun _=>?_)
  ·intro y0 y1 y2 y3 y4 y5 y6 y7 y8
   unfold impl_table_isGroup.l1
   repeat' first
   | (with_reducible exact ih0 _ _ _ _ _)
   | (with_reducible exact ih1 _ _ _ _ _ _ _ _ _)
   | (with_reducible exact LeO.refl _)
   | (with_reducible exact LeO.none _)
   | (with_reducible refine LeO.ite ?_ ?_)
   | (with_reducible refine LeO.bind ?_ (fun _=>?_))
   | exact ih0 _ _ _ _ _
   | exact ih1 _ _ _ _ _ _ _ _ _
   | exact LeO.none _
   | refine LeO.ite ?_ ?_
   | refine LeO.bind ?_ (fun _=>?_)
theorem impl_table_isGroup.mono:∀ a0 a1 k,LeO (impl_table_isGroup.f k a0 a1) (impl_table_isGroup.f (k+1) a0 a1):=by
 intro a0 a1 k
 obtain ⟨ih0,ih1⟩:=impl_table_isGroup.mono_l k
 unfold impl_table_isGroup.f
 repeat' first
   | (with_reducible exact ih0 _ _ _ _ _)
   | (with_reducible exact ih1 _ _ _ _ _ _ _ _ _)
   | (with_reducible exact LeO.refl _)
   | (with_reducible exact LeO.none _)
   | (with_reducible refine LeO.ite ?_ ?_)
   | (with_reducible refine LeO.bind ?_ (fun _=>?_))
   | exact ih0 _ _ _ _ _
   | exact ih1 _ _ _ _ _ _ _ _ _
   | exact LeO.none _
   | refine LeO.ite ?_ ?_
   | refine LeO.bind ?_ (fun _=>?_)
set_option maxHeartbeats 8000000 in
set_option maxRecDepth 100000 in
theorem impl_table_isGroup.calls (k:Nat) (A0:Option Addr) (c0:Nat) (l0:List Int) (A1:Option Addr) (c1:Nat) (l1:List Int) (r:Bool) (w:World) (hr0:Kd.C (Kd.int .u16) w A0 l0.length l0) (hc0:l0.length≤c0) (hr1:Kd.C (Kd.int .i64) w A1 l1.length l1) (hc1:l1.length≤c1) (h:impl_table_isGroup.f k l0 l1=some r) :
  Calls Try.prog 44 #[.slice A0 l0.length c0,.slice A1 l1.length c1] w fun e w'=>e=.returned (.bool r)∧Drawn0 w w':=by
 have HR0:=zz31 hr0
 have HC0:=zz31 hc0
 clear hr0 hc0
 have HR1:=zz31 hr1
 have HC1:=zz31 hc1
 clear hr1 hc1
 have H:(impl_table_isGroup.l0 k l0 l1 l1 (l1.length:Int) 0)=some r:=h
 clear h
 have H':=zz31 H
 clear H
 go_enter Try.func44,Try.ntmps44
 go_wp2
 go_loopg [11] k (fun kq v11 w'=>∃ (x11_1:Int),v11=.int .i64 x11_1∧Aside0 (impl_table_isGroup.l0 kq l0 l1 l1 (l1.length:Int) x11_1=some r)∧Aside0 (kq≤k)∧Drawn0 w w')
 case atStart=>exact ⟨(0),(by first | rfl | (simp;done) | (simp [*];done)),H',⟨Nat.le_refl _⟩,by repeat (first | exact Drawn0.refl _ | apply Drawn0.step)⟩
 case round =>
  clear H'
  try clear c1
  try clear p2
  obtain ⟨x11_1,rfl,HA,HK1,⟨m1,rfl⟩⟩:=hrel
  cases gk with
  | zero=>exact absurd HA.out (by simp [impl_table_isGroup.l0])
  | succ k1 =>
   have H:=HA.out
   clear HA
   simp only [impl_table_isGroup.l0] at H
   by_cases c3:x11_1 < (l1.length:Int)
   ·rw [if_pos c3] at H
    have c3b0:decide (x11_1 < (l1.length:Int))=true:=decide_eq_true c3
    clear c3
    by_cases c4:0≤x11_1
    ·rw [if_pos c4] at H
     have c4b0:decide (0≤x11_1)=true:=decide_eq_true c4
     clear c4
     by_cases c5:x11_1 < (l1.length:Int)
     ·rw [if_pos c5] at H
      have c5b0:decide (x11_1 < (l1.length:Int))=true:=decide_eq_true c5
      clear c5
      have c6b0:=eq_true (zz29 (by first | (with_reducible assumption) | assumption):0≤x11_1)
      by_cases c7:x11_1≤(l1.length:Int)
      ·rw [if_pos c7] at H
       have c7b0:=eq_true c7
       have c7b1:decide (x11_1≤(l1.length:Int))=true:=decide_eq_true c7
       clear c7
       have H':=zz31 H
       clear H
       have p243:0≤(x11_1:Int):=zz29 (by first | (with_reducible assumption) | assumption)
       have q243:x11_1 < (l1.length:Int):=zz29 (by first | (with_reducible assumption) | assumption)
       obtain ⟨ad243,e243,hx243_0⟩:=Kd.at_int HR1.out x11_1 p243 q243
       cases e243
       replace p243:=eq_true p243
       replace q243:=eq_true q243
       obtain ⟨i08,hi08,_,hsz8,_⟩:=info_parts info3
       obtain ⟨hcut8,hA8,hC8⟩:=print_take_of (P:=Try.prog) (Value.int .i64) 0 25 3 .i64 Try.underlying25 hi08 hsz8 (some ad243) c1 l1 x11_1 (zz29 (by first | (with_reducible assumption) | assumption)) (zz29 (by first | (with_reducible assumption) | assumption)) HC1.out
       have HL8:=zz31 (show ((l1.take (x11_1:Int).toNat).length:Int)=max x11_1 0 from by (have e1:x11_1≤(l1.length:Int):=zz29 (by first | (with_reducible assumption) | assumption));rw [zz25];omega)
       have HR244:=zz31 (Kd.C_of_reads (h1:=fun _=>rfl) (hA8 _ (Kd.reads_of_C HR1.out)))
       have HC244:=zz31 hC8
       clear hA8 hC8 hi08 hsz8
       go_wp2
       go_loopg [20] k1 (fun kq v20 w'=>∃ (x20_2:Int),v20=.int .i64 x20_2∧Aside0 (impl_table_isGroup.l1 kq l0 l1 (rd l1 x11_1) l1 (l1.length:Int) x11_1 (l1.take (x11_1:Int).toNat) ((l1.take (x11_1:Int).toNat).length:Int) x20_2=some r)∧Aside0 (kq≤k1)∧Drawn0 w w')
       case atStart=>exact ⟨(0),(by first | rfl | (simp;done) | (simp [*];done)),H',⟨Nat.le_refl _⟩,by repeat (first | exact Drawn0.refl _ | apply Drawn0.step)⟩
       case round =>
        clear H'
        try clear c1
        try clear p2
        try clear q2
        try clear hx2
        try clear c3
        try clear c3b0
        try clear c4
        try clear c4b0
        try clear c5
        try clear c5b0
        try clear c6
        try clear c6b0
        try clear c7
        try clear c7b0
        try clear c7b1
        try clear hx243_0
        try clear p2
        try clear p243
        try clear q243
        obtain ⟨x20_2,rfl,HA,HK2,⟨m2,rfl⟩⟩:=hrel
        cases gk with
        | zero=>exact absurd HA.out (by simp [impl_table_isGroup.l1])
        | succ k2 =>
         have H:=HA.out
         clear HA
         simp only [impl_table_isGroup.l1] at H
         by_cases c9:x20_2 < ((l1.take (x11_1:Int).toNat).length:Int)
         ·rw [if_pos c9] at H
          have c9b0:decide (x20_2 < ((l1.take (x11_1:Int).toNat).length:Int))=true:=decide_eq_true c9
          have c9b0z:decide (x20_2 < max x11_1 0)=true:=by rw [← HL8.out];exact c9b0
          clear c9
          by_cases c10:0≤x20_2
          ·rw [if_pos c10] at H
           have c10b0:decide (0≤x20_2)=true:=decide_eq_true c10
           clear c10
           by_cases c11:x20_2 < ((l1.take (x11_1:Int).toNat).length:Int)
           ·rw [if_pos c11] at H
            have c11b0:decide (x20_2 < ((l1.take (x11_1:Int).toNat).length:Int))=true:=decide_eq_true c11
            have c11b0z:decide (x20_2 < max x11_1 0)=true:=by rw [← HL8.out];exact c11b0
            clear c11
            replace H:=zz30.mp H
            obtain ⟨t246,A120,H⟩:=H
            replace H:(if t246=true then (impl_table_isGroup.l1 k2 l0 l1 (rd l1 x11_1) l1 (l1.length:Int) x11_1 (l1.take (x11_1:Int).toNat) ((l1.take (x11_1:Int).toNat).length:Int) (wrap64 (x20_2+1))) else (some false))=some r:=H
            have A12:=zz31 A120
            clear A120
            by_cases c13:t246=true
            ·subst c13
             have H1:(impl_table_isGroup.l1 k2 l0 l1 (rd l1 x11_1) l1 (l1.length:Int) x11_1 (l1.take (x11_1:Int).toNat) ((l1.take (x11_1:Int).toNat).length:Int) (wrap64 (x20_2+1)))=some r:=by rw [if_pos rfl] at H;exact H
             clear H
             have H:=H1
             clear H1
             have H':=zz31 H
             clear H
             have p245:0≤(x20_2:Int):=zz29 (by first | (with_reducible assumption) | assumption)
             have q245:x20_2 < ((l1.take (x11_1:Int).toNat).length:Int):=zz29 (by first | (with_reducible assumption) | assumption)
             have q245z:=eq_true (show x20_2 < max x11_1 0 from by rw [← HL8.out];exact q245)
             obtain ⟨ad245,e245,hx245_0⟩:=Kd.at_int HR244.out x20_2 p245 q245
             obtain rfl:ad243=ad245:=(by injection e245)
             replace p245:=eq_true p245
             replace q245:=eq_true q245
             go_wp2_with (first | ((with_reducible refine gate_callee (f:=67) rfl ?_);refine goesL_ (some 27) rfl rfl Try.func67 (by kernel_rfl) rfl #[.slice A0 l0.length c0,.int .i64 (rd l1 x11_1),.int .i64 (rd (l1.take (x11_1:Int).toNat) x20_2)] rfl (by (try simp only [zz26,zz27,zz28]);first | done | rfl | (simp only [zz24,zz25];rfl) | (simp only [zz25];congr;(try simp only [decide_eq_true_eq] at *);omega)) ?_;(with_reducible refine (impl_table_has.calls _ _ l0 (rd l1 x11_1) (rd (l1.take (x11_1:Int).toNat) x20_2) true _ ?side1 ?side2 A12.out).mono ?_);(case side1=>repeat (first | exact HR0.out | (with_reducible refine zz18 ?_ _) | (with_reducible refine zz19 ?_ _) | (with_reducible refine zz20 ?_)));(case side2=>exact HC0.out);rintro e w' ⟨rfl,⟨nd,rfl⟩⟩;refine ⟨_,rfl,?_⟩))
             go_roundg k2
             case measure=>have:=HK1.out;have:=HK2.out;omega
             case rel=>exact ⟨(wrap64 (x20_2+1)),(by first | rfl | (simp;done) | (simp [*];done)),H',⟨by have:=HK1.out;have:=HK2.out;omega⟩,by repeat (first | exact Drawn0.refl _ | apply Drawn0.step)⟩
            ·replace c13:=Bool.eq_false_iff.mpr c13
             subst c13
             have H1:(some false)=some r:=by rw [if_neg (show ¬ (false=true) by decide)] at H;exact H
             clear H
             have H:=H1
             clear H1
             obtain rfl:=Option.some.inj H
             have p245:0≤(x20_2:Int):=zz29 (by first | (with_reducible assumption) | assumption)
             have q245:x20_2 < ((l1.take (x11_1:Int).toNat).length:Int):=zz29 (by first | (with_reducible assumption) | assumption)
             have q245z:=eq_true (show x20_2 < max x11_1 0 from by rw [← HL8.out];exact q245)
             obtain ⟨ad245,e245,hx245_0⟩:=Kd.at_int HR244.out x20_2 p245 q245
             obtain rfl:ad243=ad245:=(by injection e245)
             replace p245:=eq_true p245
             replace q245:=eq_true q245
             go_wp2_with (first | ((with_reducible refine gate_callee (f:=67) rfl ?_);refine goesL_ (some 27) rfl rfl Try.func67 (by kernel_rfl) rfl #[.slice A0 l0.length c0,.int .i64 (rd l1 x11_1),.int .i64 (rd (l1.take (x11_1:Int).toNat) x20_2)] rfl (by (try simp only [zz26,zz27,zz28]);first | done | rfl | (simp only [zz24,zz25];rfl) | (simp only [zz25];congr;(try simp only [decide_eq_true_eq] at *);omega)) ?_;(with_reducible refine (impl_table_has.calls _ _ l0 (rd l1 x11_1) (rd (l1.take (x11_1:Int).toNat) x20_2) false _ ?side1 ?side2 A12.out).mono ?_);(case side1=>repeat (first | exact HR0.out | (with_reducible refine zz18 ?_ _) | (with_reducible refine zz19 ?_ _) | (with_reducible refine zz20 ?_)));(case side2=>exact HC0.out);rintro e w' ⟨rfl,⟨nd,rfl⟩⟩;refine ⟨_,rfl,?_⟩))
             go_ret
             exact ⟨by first | rfl | (simp;done) | (simp [*];done),by repeat (first | exact Drawn0.refl _ | apply Drawn0.step)⟩
           ·rw [if_neg c11] at H
            exact absurd H (by simp)
          ·rw [if_neg c10] at H
           exact absurd H (by simp)
         ·rw [if_neg c9] at H
          have c9b0:decide (x20_2 < ((l1.take (x11_1:Int).toNat).length:Int))=false:=decide_eq_false c9
          have c9b0z:decide (x20_2 < max x11_1 0)=false:=by rw [← HL8.out];exact c9b0
          clear c9
          have H':=zz31 H
          clear H
          go_wp2
          go_roundg k2
          case measure=>have:=HK1.out;have:=HK2.out;omega
          case rel=>exact ⟨(wrap64 (x11_1+1)),(by first | rfl | (simp;done) | (simp [*];done)),H',⟨by have:=HK1.out;have:=HK2.out;omega⟩,by repeat (first | exact Drawn0.refl _ | apply Drawn0.step)⟩
      ·rw [if_neg c7] at H
       exact absurd H (by simp)
     ·rw [if_neg c5] at H
      exact absurd H (by simp)
    ·rw [if_neg c4] at H
     exact absurd H (by simp)
   ·rw [if_neg c3] at H
    have c3b0:decide (x11_1 < (l1.length:Int))=false:=decide_eq_false c3
    clear c3
    obtain rfl:=Option.some.inj H
    go_wp2
    go_ret
    exact ⟨by first | rfl | (simp;done) | (simp [*];done),by repeat (first | exact Drawn0.refl _ | apply Drawn0.step)⟩

-- NOT PRINTED: function 101 (slices_IndexFunc_int_int)

-- NOT PRINTED: function 93 (slices_ContainsFunc_int_int)

/-! ### impl_areWithin: function 79 (a contract of our own) -/
/-- A function value g (bound to lb) answers p at every whole number, in every later world; it may draw; it makes nothing. -/
def PredI (g:Nat) (lb:Array Value) (p:Int→Bool) (w:World):Prop :=
 ∀ (W:World) (x:Int),Below w.heap.size w W→Calls Try.prog g (#[.int .i64 x] ++ lb) W fun e w'=>e=.returned (.bool (p x))∧∃ q,w'=W.drewN q
/-- slices.IndexFunc at whole numbers, whatever the predicate: the place of the first element at which it holds, or -1. -/
def idxP (p:Int→Bool):List Int→Int
 | []=>-1
 | x :: xs=>if p x then 0 else if idxP p xs < 0 then -1 else idxP p xs+1
theorem idxP_hit (p:Int→Bool):∀ (xs:List Int) (k:Nat),k < xs.length→(∀ j,j < k→p (xs.getD j 0)=false)→p (xs.getD k 0)=true→idxP p xs=k
 | [],k,h,_,_=>by simp at h
 | x :: xs,0,_,_,hp=>by simp at hp;simp [idxP,hp]
 | x :: xs,k+1,h,hn,hp=>by
  have h0:=hn 0 (by omega)
  have ih:=idxP_hit p xs k (by simpa using h) (fun j hj=>by have:=hn (j+1) (by omega);simpa using this) (by simpa using hp)
  simp at h0
  simp [idxP,h0,ih];omega
theorem idxP_miss (p:Int→Bool):∀ (xs:List Int),(∀ j,j < xs.length→p (xs.getD j 0)=false)→idxP p xs=-1
 | [],_=>rfl
 | x :: xs,hn=>by
  have h0:=hn 0 (by simp)
  have ih:=idxP_miss p xs (fun j hj=>by have:=hn (j+1) (by simpa using hj);simpa using this)
  simp at h0
  simp [idxP,h0,ih]
theorem idxP_nonneg (p:Int→Bool) (xs:List Int):decide (0≤idxP p xs)=xs.any p:=by
 induction xs with
 | nil=>rfl
 | cons x xs ih =>
  simp only [idxP,List.any_cons,← ih]
  by_cases h:p x=true
  ·simp [h]
  ·by_cases h2:idxP p xs < 0
   ·have:¬ 0≤idxP p xs:=by omega
    simp [h,h2,this]
   ·have h3:0≤idxP p xs:=by omega
    have h4:0≤idxP p xs+1:=by omega
    simp [h,h2,h3,h4]
set_option maxHeartbeats 2000000 in
theorem idxInt_with (p:Int→Bool) (g:Nat) (lb:Array Value) (eg:∀ args w,(callFunc g args).run Try.prog w=.ok (.enter g args) w) (A0:Option Addr) (c0:Nat) (l0:List Int) (w:World)
  (hp:PredI g lb p w) (hr0:Kd.C (Kd.int .i64) w A0 l0.length l0) :
  Calls Try.prog 101 #[.slice A0 l0.length c0,.func (.func g) #[] lb] w fun e w'=>e=.returned (.int .i64 (idxP p l0))∧∃ q,w'=w.drewN q:=by
 have hpAt:∀ (x:Int) (q:Nat),Calls Try.prog g (#[.int .i64 x] ++ lb) (w.drewN q) fun e w'=>e=.returned (.bool (p x))∧∃ q',w'=(w.drewN q).drewN q':=fun x q=>hp _ x (zz0 (Below.refl _ w) q)
 have HR0:=zz31 hr0
 have hbig:l0.length≤9223372036854775807:=hr0.2.1
 clear hp hr0
 go_enter Try.func101,Try.ntmps101
 go_wp2
 go_loopg [5,8] l0.length (fun gg _ s8 wr=>∃ kk q:Nat,kk≤l0.length∧l0.length - kk≤gg∧s8=.int .i64 kk∧wr=w.drewN q∧Aside0 (∀ j,j < kk→p (l0.getD j 0)=false))
 case atStart=>exact ⟨0,0,Nat.zero_le _,by omega,rfl,rfl,⟨fun j hj=>absurd hj (Nat.not_lt_zero _)⟩⟩
 case round =>
  obtain ⟨kk,q,hkk,hg,rfl,rfl,A⟩:=hrel
  by_cases hlt:kk < l0.length
  ·have hltz:(kk:Int) < (l0.length:Int):=by omega
   obtain ⟨ad,e0,hcell⟩:=Kd.at_int HR0.out (kk:Int) (by omega) (by omega)
   cases e0
   have hcell':w.cell? (ad.add kk)=some (.int .i64 (rd l0 kk)):=hcell
   clear hcell
   obtain ⟨y,hy⟩:∃ y,y=rd l0 kk:=⟨_,rfl⟩
   rw [← hy] at hcell'
   have B:Aside0 (l0.getD kk 0=y):=⟨hy.symm⟩
   clear hy
   have hcall:=hpAt y
   cases hq:p y with
   | true =>
    rw [hq] at hcall
    go_wp2_with (go_at_fn g;refine (hcall _).mono ?_;rintro e w' ⟨rfl,q',rfl⟩)
    go_ret
    refine ⟨?_,_,rfl⟩
    rw [idxP_hit p l0 kk hlt A.out (by rw [B.out];exact hq)]
    rfl
   | false =>
    rw [hq] at hcall
    go_wp2_with (go_at_fn g;refine (hcall _).mono ?_;rintro e w' ⟨rfl,q',rfl⟩)
    go_roundg (l0.length - (kk+1))
    case measure=>omega
    case rel =>
     refine ⟨kk+1,_,by omega,by omega,by go_num,rfl,⟨fun j hj=>?_⟩⟩
     by_cases e:j=kk
     ·subst e
      rw [B.out];exact hq
     ·exact A.out j (by omega)
  ·have hltz:¬ (kk:Int) < (l0.length:Int):=by omega
   have hkl:kk=l0.length:=by omega
   have A2:Aside0 (idxP p l0=-1):=⟨idxP_miss p l0 (by rw [← hkl];exact A.out)⟩
   clear hkl
   go_wp2
   go_ret
   refine ⟨?_,q,rfl⟩
   rw [A2.out]
   rfl
set_option maxHeartbeats 1000000 in
theorem hasInt_with (p:Int→Bool) (g:Nat) (lb:Array Value) (eg:∀ args w,(callFunc g args).run Try.prog w=.ok (.enter g args) w) (A0:Option Addr) (c0:Nat) (l0:List Int) (w:World)
  (hp:PredI g lb p w) (hr0:Kd.C (Kd.int .i64) w A0 l0.length l0) :
  Calls Try.prog 93 #[.slice A0 l0.length c0,.func (.func g) #[] lb] w fun e w'=>e=.returned (.bool (l0.any p))∧∃ q,w'=w.drewN q:=by
 rw [← idxP_nonneg]
 go_enter Try.func93,Try.ntmps93
 go_wp2_with (go_at_call 101;refine (idxInt_with p g lb eg A0 c0 l0 _ hp hr0).mono ?_;rintro e w' ⟨rfl,q,rfl⟩)
 go_ret
 exact ⟨rfl,q,rfl⟩
theorem impl_areWithin.pred (lo hi:Int) (B1 B2:Nat) (w:World) (h1:B1 < w.heap.size) (h2:B2 < w.heap.size) (c1:w.cell? ⟨B1,0,none⟩=some (.int .i64 lo)) (c2:w.cell? ⟨B2,0,none⟩=some (.int .i64 hi)) :
  PredI 94 #[.pointer (some ⟨B1,0,none⟩),.pointer (some ⟨B2,0,none⟩)] (fun x=>!(decide (lo≤x) && decide (x≤hi))) w:=fun W x hb=>by
 have hc1:W.cell? ⟨B1,0,none⟩=some (.int .i64 lo):=(hb.cell (p:=⟨B1,0,none⟩) h1).trans c1
 have hc2:W.cell? ⟨B2,0,none⟩=some (.int .i64 hi):=(hb.cell (p:=⟨B2,0,none⟩) h2).trans c2
 clear c1 c2 h1 h2 hb
 show Calls Try.prog 94 #[.int .i64 x,.pointer (some ⟨B1,0,none⟩),.pointer (some ⟨B2,0,none⟩)] W _
 go_enter Try.func94,Try.ntmps94
 go_wp2
 all_goals (go_ret;exact ⟨by simp_all,0,rfl⟩)
def impl_areWithin.f (l0:List Int) (a1:Int) (a2:Int):Option (Bool):=some (l0.all fun n=>decide (a1≤n) && decide (n≤a2))
set_option maxHeartbeats 1000000 in
theorem impl_areWithin.calls (A0:Option Addr) (c0:Nat) (l0:List Int) (a1:Int) (a2:Int) (r:Bool) (w:World) (hr0:Kd.C (Kd.int .i64) w A0 l0.length l0) (hc0:l0.length≤c0) (h:impl_areWithin.f l0 a1 a2=some r) :
  Calls Try.prog 79 #[.slice A0 l0.length c0,.int .i64 a1,.int .i64 a2] w fun e w'=>e=.returned (.bool r)∧Below w.heap.size w w':=by
 have eg:∀ args w,(callFunc 94 args).run Try.prog w=.ok (.enter 94 args) w:=enters_of Try.func94 (by kernel_rfl) rfl
 have hcon:=hasInt_with (fun x=>!(decide (a1≤x) && decide (x≤a2))) 94 #[.pointer (some ⟨w.heap.size,0,none⟩),.pointer (some ⟨w.heap.size+1,0,none⟩)] eg A0 c0 l0 ((w.alloc (.cells #[.int .i64 a1] 3)).alloc (.cells #[.int .i64 a2] 3))
  (impl_areWithin.pred a1 a2 w.heap.size (w.heap.size+1) _ (by simp;omega) (by simp) (by simp) (by simp)) (zz18 (zz18 hr0 _) _)
 have hr:(!l0.any fun x=>!(decide (a1≤x) && decide (x≤a2)))=r:=by
  have h':=Option.some.inj h
  rw [← h',List.not_any_eq_all_not]
  simp
 clear h hr0
 generalize (l0.any fun x=>!(decide (a1≤x) && decide (x≤a2)))=b at hcon hr
 subst hr
 go_enter Try.func79,Try.ntmps79
 go_wp2_with (go_at_call 93;refine hcon.mono ?_;rintro e w' ⟨rfl,q,rfl⟩)
 go_ret
 exact ⟨rfl,zz0 (((Below.refl _ w).alloc (Nat.le_refl _) _).alloc (by simp) _) q⟩

/-! ### impl_arePeople: function 64 -/
def impl_arePeople.f (k:Nat) (a0_0:Int) (l0_1:List (S79)) (l1:List Int):Option (Bool):=(impl_IsParty.f k a0_0 l0_1).bind fun t266=>(if t266=true then ((impl_areWithin.f l1 0 (wrap64 (a0_0 - 1))).bind fun t267=>(some t267)) else (some false))
theorem impl_arePeople.mono:∀ a0 a1 a2 k,LeO (impl_arePeople.f k a0 a1 a2) (impl_arePeople.f (k+1) a0 a1 a2):=by
 intro a0 a1 a2 k
 unfold impl_arePeople.f
 repeat' first
   | (with_reducible exact impl_IsParty.mono _ _ _)
   | (with_reducible exact LeO.refl _)
   | (with_reducible exact LeO.none _)
   | (with_reducible refine LeO.ite ?_ ?_)
   | (with_reducible refine LeO.bind ?_ (fun _=>?_))
   | exact impl_IsParty.mono _ _ _
   | exact LeO.none _
   | refine LeO.ite ?_ ?_
   | refine LeO.bind ?_ (fun _=>?_)
set_option maxHeartbeats 8000000 in
set_option maxRecDepth 100000 in
theorem impl_arePeople.calls (k:Nat) (a0_0:Int) (A0_1:Option Addr) (c0_1:Nat) (l0_1:List (S79)) (A1:Option Addr) (c1:Nat) (l1:List Int) (r:Bool) (w:World) (hr0_1:Kd.C k79 w A0_1 l0_1.length l0_1) (hc0_1:l0_1.length≤c0_1) (hr1:Kd.C (Kd.int .i64) w A1 l1.length l1) (hc1:l1.length≤c1) (h:impl_arePeople.f k a0_0 l0_1 l1=some r) :
  Calls Try.prog 64 #[.agg #[.int .i64 a0_0,.slice A0_1 l0_1.length c0_1],.slice A1 l1.length c1] w fun e w'=>e=.returned (.bool r)∧Below w.heap.size w w':=by
 have hu31:=Try.underlying31
 have HR0_1:=zz31 hr0_1
 have HC0_1:=zz31 hc0_1
 clear hr0_1 hc0_1
 have HR1:=zz31 hr1
 have HC1:=zz31 hc1
 clear hr1 hc1
 have HB:=zz31 (Below.refl w.heap.size w)
 have H:((impl_IsParty.f k a0_0 l0_1).bind fun t266=>(if t266=true then ((impl_areWithin.f l1 0 (wrap64 (a0_0 - 1))).bind fun t267=>(some t267)) else (some false)))=some r:=h
 clear h
 replace H:=zz30.mp H
 obtain ⟨t266,A30,H⟩:=H
 replace H:(if t266=true then ((impl_areWithin.f l1 0 (wrap64 (a0_0 - 1))).bind fun t267=>(some t267)) else (some false))=some r:=H
 have A3:=zz31 A30
 clear A30
 by_cases c4:t266=true
 ·subst c4
  have H1:((impl_areWithin.f l1 0 (wrap64 (a0_0 - 1))).bind fun t267=>(some t267))=some r:=by rw [if_pos rfl] at H;exact H
  clear H
  have H:=H1
  clear H1
  replace H:=zz30.mp H
  obtain ⟨t267,A50,H⟩:=H
  replace H:(some t267)=some r:=H
  have A5:=zz31 A50
  clear A50
  obtain rfl:=Option.some.inj H
  go_enter Try.func64,Try.ntmps64
  go_wp2_with (first | ((with_reducible refine gate_dst (N:=2) rfl ?_);refine box_event ?hg (N:=2) ?hd (cs:=#[.int .i64 a0_0,.slice A0_1 l0_1.length c0_1]) (t:=31) ?hr ?_;(case hd=>rfl);(case hg=>rfl);(case hr=>first | (go_simp;done) | (go_simp;rfl));intro gb265 hg w6 hbox hb;have n0_:=zz31 (zz4 (by repeat first | exact HB.out | apply zz2 | apply zz0 | apply zz1) hb);have n1_:=zz31 (hbox);have n2_:=zz31 ((by rw [hg];exact (zz5 (by repeat first | exact HB.out | apply zz2 | apply zz0 | apply zz1)):w.heap.size≤gb265));have n3_:=zz31 ((by rw [hg];exact (zz5 (by repeat first | exact HB.out | apply zz2 | apply zz0 | apply zz1)):w.heap.size≤gb265));clear HB;have HB:=n0_;have BK265:=n1_;have GW265:=n2_;have GE265:=n3_;clear n0_ n1_ n2_ n3_;clear hb hbox hg;have hcz7_0:w6.cell? ⟨gb265,0,none⟩=some (.int .i64 a0_0):=(zz9 BK265.out 0).trans rfl;have hcz7_1:w6.cell? ⟨gb265,1,none⟩=some (.slice A0_1 l0_1.length c0_1):=(zz9 BK265.out 1).trans rfl;have hfz7_0:=zz10 BK265.out 0;have hfz7_1:=zz10 BK265.out 1) | ((with_reducible refine gate_callee (f:=63) rfl ?_);refine goesL_ (some 6) rfl rfl Try.func63 (by kernel_rfl) rfl #[.agg #[.int .i64 a0_0,.slice A0_1 l0_1.length c0_1]] rfl (by (try simp only [zz26,zz27,zz28]);first | done | rfl | (simp only [zz24,zz25];rfl)) ?_;(with_reducible refine (impl_IsParty.calls k a0_0 _ _ l0_1 true _ ?side1 ?side2 A3.out).mono ?_);(case side1=>repeat (first | exact (Kd.C_below HR0_1.out HB.out) | (with_reducible refine zz18 ?_ _) | (with_reducible refine zz19 ?_ _) | (with_reducible refine zz20 ?_)));(case side2=>exact HC0_1.out);rintro e w8 ⟨rfl,hb⟩;refine ⟨_,rfl,?_⟩;have n0_:=zz31 (zz11 (g:=gb265) (o:=.cells #[.int .i64 a0_0,.slice A0_1 l0_1.length c0_1] 31 (0,0)) (by (with_reducible repeat (first | refine zz6 ?_ _ | refine zz7 ?_ | refine zz8 ?_ _));exact BK265.out) hb);have n1_:=zz31 (zz4 (by repeat first | exact HB.out | apply zz2 | apply zz0 | apply zz1 | refine zz3 ?_ GE265.out) hb);clear BK265;clear HB;have BK265:=n0_;have HB:=n1_;clear n0_ n1_;(try clear hb);(try clear hb2);(try clear hk);(try clear hi);have hcz9_0:w8.cell? ⟨gb265,0,none⟩=some (.int .i64 a0_0):=(zz9 BK265.out 0).trans rfl;have hcz9_1:w8.cell? ⟨gb265,1,none⟩=some (.slice A0_1 l0_1.length c0_1):=(zz9 BK265.out 1).trans rfl;have hfz9_0:=zz10 BK265.out 0;have hfz9_1:=zz10 BK265.out 1) | (go_at_call 79;(with_reducible refine (impl_areWithin.calls _ _ l1 0 (wrap64 (a0_0 - 1)) t267 _ ?side1 ?side2 A5.out).mono ?_);(case side1=>repeat (first | exact (Kd.C_below HR1.out HB.out) | (with_reducible refine zz18 ?_ _) | (with_reducible refine zz19 ?_ _) | (with_reducible refine zz20 ?_)));(case side2=>exact HC1.out);rintro e w10 ⟨rfl,hb⟩;have n0_:=zz31 (zz11 (g:=gb265) (o:=.cells #[.int .i64 a0_0,.slice A0_1 l0_1.length c0_1] 31 (0,0)) (by (with_reducible repeat (first | refine zz6 ?_ _ | refine zz7 ?_ | refine zz8 ?_ _));exact BK265.out) hb);have n1_:=zz31 (zz4 (by repeat first | exact HB.out | apply zz2 | apply zz0 | apply zz1 | refine zz3 ?_ GE265.out) hb);clear BK265;clear HB;have BK265:=n0_;have HB:=n1_;clear n0_ n1_;(try clear hb);(try clear hb2);(try clear hk);(try clear hi)))
  go_ret
  exact ⟨by first | rfl | (simp [errW_none,errW_some] <;> rfl) | (simp [*,errW_none,errW_some] <;> rfl),by repeat first | exact HB.out | apply zz2 | apply zz0 | apply zz1 | refine zz3 ?_ GE265.out⟩
 ·replace c4:=Bool.eq_false_iff.mpr c4
  subst c4
  have H1:(some false)=some r:=by rw [if_neg (show ¬ (false=true) by decide)] at H;exact H
  clear H
  have H:=H1
  clear H1
  obtain rfl:=Option.some.inj H
  go_enter Try.func64,Try.ntmps64
  go_wp2_with (first | ((with_reducible refine gate_dst (N:=2) rfl ?_);refine box_event ?hg (N:=2) ?hd (cs:=#[.int .i64 a0_0,.slice A0_1 l0_1.length c0_1]) (t:=31) ?hr ?_;(case hd=>rfl);(case hg=>rfl);(case hr=>first | (go_simp;done) | (go_simp;rfl));intro gb265 hg w11 hbox hb;have n0_:=zz31 (zz4 (by repeat first | exact HB.out | apply zz2 | apply zz0 | apply zz1) hb);have n1_:=zz31 (hbox);have n2_:=zz31 ((by rw [hg];exact (zz5 (by repeat first | exact HB.out | apply zz2 | apply zz0 | apply zz1)):w.heap.size≤gb265));have n3_:=zz31 ((by rw [hg];exact (zz5 (by repeat first | exact HB.out | apply zz2 | apply zz0 | apply zz1)):w.heap.size≤gb265));clear HB;have HB:=n0_;have BK265:=n1_;have GW265:=n2_;have GE265:=n3_;clear n0_ n1_ n2_ n3_;clear hb hbox hg;have hcz12_0:w11.cell? ⟨gb265,0,none⟩=some (.int .i64 a0_0):=(zz9 BK265.out 0).trans rfl;have hcz12_1:w11.cell? ⟨gb265,1,none⟩=some (.slice A0_1 l0_1.length c0_1):=(zz9 BK265.out 1).trans rfl;have hfz12_0:=zz10 BK265.out 0;have hfz12_1:=zz10 BK265.out 1) | ((with_reducible refine gate_callee (f:=63) rfl ?_);refine goesL_ (some 6) rfl rfl Try.func63 (by kernel_rfl) rfl #[.agg #[.int .i64 a0_0,.slice A0_1 l0_1.length c0_1]] rfl (by (try simp only [zz26,zz27,zz28]);first | done | rfl | (simp only [zz24,zz25];rfl)) ?_;(with_reducible refine (impl_IsParty.calls k a0_0 _ _ l0_1 false _ ?side1 ?side2 A3.out).mono ?_);(case side1=>repeat (first | exact (Kd.C_below HR0_1.out HB.out) | (with_reducible refine zz18 ?_ _) | (with_reducible refine zz19 ?_ _) | (with_reducible refine zz20 ?_)));(case side2=>exact HC0_1.out);rintro e w13 ⟨rfl,hb⟩;refine ⟨_,rfl,?_⟩;have n0_:=zz31 (zz11 (g:=gb265) (o:=.cells #[.int .i64 a0_0,.slice A0_1 l0_1.length c0_1] 31 (0,0)) (by (with_reducible repeat (first | refine zz6 ?_ _ | refine zz7 ?_ | refine zz8 ?_ _));exact BK265.out) hb);have n1_:=zz31 (zz4 (by repeat first | exact HB.out | apply zz2 | apply zz0 | apply zz1 | refine zz3 ?_ GE265.out) hb);clear BK265;clear HB;have BK265:=n0_;have HB:=n1_;clear n0_ n1_;(try clear hb);(try clear hb2);(try clear hk);(try clear hi)))
  go_ret
  exact ⟨by first | rfl | (simp [errW_none,errW_some] <;> rfl) | (simp [*,errW_none,errW_some] <;> rfl),by repeat first | exact HB.out | apply zz2 | apply zz0 | apply zz1 | refine zz3 ?_ GE265.out⟩

/-! ### impl_isRising: function 65 -/
def impl_isRising.l0:Nat→List Int→Int→Option (Bool)
 | 0,_,_=>none
 | k+1,x0,x3=>if x3 < (x0.length:Int) then (if 0≤x3 then (if 0≤(wrap64 (x3 - 1)) then (if (wrap64 (x3 - 1)) < (x0.length:Int) then (if (rd x0 x3)≤(rd x0 (wrap64 (x3 - 1))) then (some false) else (impl_isRising.l0 k x0 (wrap64 (x3+1)))) else (none)) else (none)) else (none)) else (some true)
def impl_isRising.f (k:Nat) (l0:List Int):Option (Bool):=impl_isRising.l0 k l0 1
theorem impl_isRising.mono_l:∀ k,(∀ y0 y1,LeO (impl_isRising.l0 k y0 y1) (impl_isRising.l0 (k+1) y0 y1))
 | 0=>fun _ _ r h=>by simp [impl_isRising.l0] at h
 | k+1=>by
  have ih0:=impl_isRising.mono_l k
  ·intro y0 y1
   unfold impl_isRising.l0
   repeat' first
   | (with_reducible exact ih0 _ _)
   | (with_reducible exact LeO.refl _)
   | (with_reducible exact LeO.none _)
   | (with_reducible refine LeO.ite ?_ ?_)
   | (with_reducible refine LeO.bind ?_ (fun _=>?_))
   | exact ih0 _ _
   | exact LeO.none _
   | refine LeO.ite ?_ ?_
   | refine LeO.bind ?_ (fun _=>?_)
theorem impl_isRising.mono:∀ a0 k,LeO (impl_isRising.f k a0) (impl_isRising.f (k+1) a0):=by
 intro a0 k
 have ih0:=impl_isRising.mono_l k
 unfold impl_isRising.f
 repeat' first
   | (with_reducible exact ih0 _ _)
   | (with_reducible exact LeO.refl _)
   | (with_reducible exact LeO.none _)
   | (with_reducible refine LeO.ite ?_ ?_)
   | (with_reducible refine LeO.bind ?_ (fun _=>?_))
   | exact ih0 _ _
   | exact LeO.none _
   | refine LeO.ite ?_ ?_
   | refine LeO.bind ?_ (fun _=>?_)
set_option maxHeartbeats 8000000 in
set_option maxRecDepth 100000 in
theorem impl_isRising.calls (k:Nat) (A0:Option Addr) (c0:Nat) (l0:List Int) (r:Bool) (w:World) (hr0:Kd.C (Kd.int .i64) w A0 l0.length l0) (hc0:l0.length≤c0) (h:impl_isRising.f k l0=some r) :
  Calls Try.prog 65 #[.slice A0 l0.length c0] w fun e w'=>e=.returned (.bool r)∧Drawn0 w w':=by
 have HR0:=zz31 hr0
 have HC0:=zz31 hc0
 clear hr0 hc0
 have H:(impl_isRising.l0 k l0 1)=some r:=h
 clear h
 have H':=zz31 H
 clear H
 go_enter Try.func65,Try.ntmps65
 go_wp2
 repeat (go_quiet (fail);try go_wp2)
 go_loopg [3] k (fun kq v3 w'=>∃ (x3_1:Int),v3=.int .i64 x3_1∧Aside0 (impl_isRising.l0 kq l0 x3_1=some r)∧Aside0 (kq≤k)∧Drawn0 w w')
 case atStart=>exact ⟨(1),(by first | rfl | (simp;done) | (simp [*];done)),H',⟨Nat.le_refl _⟩,by repeat (first | exact Drawn0.refl _ | apply Drawn0.step)⟩
 case round =>
  clear H'
  obtain ⟨x3_1,rfl,HA,HK1,⟨m1,rfl⟩⟩:=hrel
  cases gk with
  | zero=>exact absurd HA.out (by simp [impl_isRising.l0])
  | succ k1 =>
   have H:=HA.out
   clear HA
   simp only [impl_isRising.l0] at H
   by_cases c2:x3_1 < (l0.length:Int)
   ·rw [if_pos c2] at H
    have c2b0:decide (x3_1 < (l0.length:Int))=true:=decide_eq_true c2
    clear c2
    by_cases c3:0≤x3_1
    ·rw [if_pos c3] at H
     have c3b0:decide (0≤x3_1)=true:=decide_eq_true c3
     clear c3
     obtain ⟨ji4,hji4⟩:∃ j_:Int,(wrap64 (x3_1 - 1))=j_:=⟨_,rfl⟩
     replace H:(if 0≤(ji4) then (if (ji4) < (l0.length:Int) then (if (rd l0 x3_1)≤(rd l0 (ji4)) then (some false) else (impl_isRising.l0 k1 l0 (wrap64 (x3_1+1)))) else (none)) else (none))=some r:=by first | (rw [hji4] at H;exact H) | (simp only [hji4] at H ⊢;exact H)
     have hji4w:(IntKind.i64.wrap (x3_1 - 1))=ji4:=(i64_w _).trans hji4
     by_cases c5:0≤(ji4)
     ·rw [if_pos c5] at H
      have c5b0:decide (0≤(ji4))=true:=decide_eq_true c5
      clear c5
      by_cases c6:(ji4) < (l0.length:Int)
      ·rw [if_pos c6] at H
       have c6b0:decide ((ji4) < (l0.length:Int))=true:=decide_eq_true c6
       clear c6
       by_cases c7:(rd l0 x3_1)≤(rd l0 (ji4))
       ·rw [if_pos c7] at H
        have c7b0:decide ((rd l0 x3_1)≤(rd l0 (ji4)))=true:=decide_eq_true c7
        clear c7
        obtain rfl:=Option.some.inj H
        have p268:0≤(x3_1:Int):=zz29 (by first | (with_reducible assumption) | assumption)
        have q268:x3_1 < (l0.length:Int):=zz29 (by first | (with_reducible assumption) | assumption)
        obtain ⟨ad268,e268,hx268_0⟩:=Kd.at_int HR0.out x3_1 p268 q268
        cases e268
        replace p268:=eq_true p268
        replace q268:=eq_true q268
        have p269:0≤((ji4):Int):=zz29 (by first | (with_reducible assumption) | assumption)
        have q269:(ji4) < (l0.length:Int):=zz29 (by first | (with_reducible assumption) | assumption)
        obtain ⟨ad269,e269,hx269_0⟩:=Kd.at_int HR0.out (ji4) p269 q269
        obtain rfl:ad268=ad269:=(by injection e269)
        replace p269:=eq_true p269
        replace q269:=eq_true q269
        go_wp2
        repeat (go_quiet (fail);try go_wp2)
        go_ret
        exact ⟨by first | rfl | (simp;done) | (simp only [← hji4] <;> (first | rfl | simp)) | (simp [*];done),by repeat (first | exact Drawn0.refl _ | apply Drawn0.step)⟩
       ·rw [if_neg c7] at H
        have c7b0:decide ((rd l0 x3_1)≤(rd l0 (ji4)))=false:=decide_eq_false c7
        clear c7
        have H':=zz31 H
        clear H
        have p268:0≤(x3_1:Int):=zz29 (by first | (with_reducible assumption) | assumption)
        have q268:x3_1 < (l0.length:Int):=zz29 (by first | (with_reducible assumption) | assumption)
        obtain ⟨ad268,e268,hx268_0⟩:=Kd.at_int HR0.out x3_1 p268 q268
        cases e268
        replace p268:=eq_true p268
        replace q268:=eq_true q268
        have p269:0≤((ji4):Int):=zz29 (by first | (with_reducible assumption) | assumption)
        have q269:(ji4) < (l0.length:Int):=zz29 (by first | (with_reducible assumption) | assumption)
        obtain ⟨ad269,e269,hx269_0⟩:=Kd.at_int HR0.out (ji4) p269 q269
        obtain rfl:ad268=ad269:=(by injection e269)
        replace p269:=eq_true p269
        replace q269:=eq_true q269
        go_wp2
        repeat (go_quiet (fail);try go_wp2)
        go_roundg k1
        case measure=>have:=HK1.out;omega
        case rel=>exact ⟨(wrap64 (x3_1+1)),(by first | rfl | (simp;done) | (simp [*];done)),H',⟨by have:=HK1.out;omega⟩,by repeat (first | exact Drawn0.refl _ | apply Drawn0.step)⟩
      ·rw [if_neg c6] at H
       exact absurd H (by simp)
     ·rw [if_neg c5] at H
      exact absurd H (by simp)
    ·rw [if_neg c3] at H
     exact absurd H (by simp)
   ·rw [if_neg c2] at H
    have c2b0:decide (x3_1 < (l0.length:Int))=false:=decide_eq_false c2
    clear c2
    obtain rfl:=Option.some.inj H
    go_wp2
    repeat (go_quiet (fail);try go_wp2)
    go_ret
    exact ⟨by first | rfl | (simp;done) | (simp [*];done),by repeat (first | exact Drawn0.refl _ | apply Drawn0.step)⟩

/-! ### impl_IsGroup: function 40 -/
def impl_IsGroup.f (k:Nat) (a0_0:Int) (l0_1:List (S79)) (l1:List Int):Option (Bool × Bool):=(impl_IsParty.f k a0_0 l0_1).bind fun t271=>(if t271=true then ((impl_arePeople.f k a0_0 l0_1 l1).bind fun t272=>(if t272=true then ((impl_isRising.f k l1).bind fun t273=>(if t273=true then ((impl_Party_table.f k a0_0 l0_1).bind fun t274=>((impl_table_isGroup.f k t274 l1).bind fun t277=>(some (t277,true)))) else (some (false,true)))) else (some (false,true)))) else (some (false,false)))
theorem impl_IsGroup.mono:∀ a0 a1 a2 k,LeO (impl_IsGroup.f k a0 a1 a2) (impl_IsGroup.f (k+1) a0 a1 a2):=by
 intro a0 a1 a2 k
 unfold impl_IsGroup.f
 repeat' first
   | (with_reducible exact impl_IsParty.mono _ _ _)
   | (with_reducible exact impl_Party_table.mono _ _ _)
   | (with_reducible exact impl_arePeople.mono _ _ _ _)
   | (with_reducible exact impl_isRising.mono _ _)
   | (with_reducible exact impl_table_isGroup.mono _ _ _)
   | (with_reducible exact LeO.refl _)
   | (with_reducible exact LeO.none _)
   | (with_reducible refine LeO.ite ?_ ?_)
   | (with_reducible refine LeO.bind ?_ (fun _=>?_))
   | exact impl_IsParty.mono _ _ _
   | exact impl_Party_table.mono _ _ _
   | exact impl_arePeople.mono _ _ _ _
   | exact impl_isRising.mono _ _
   | exact impl_table_isGroup.mono _ _ _
   | exact LeO.none _
   | refine LeO.ite ?_ ?_
   | refine LeO.bind ?_ (fun _=>?_)
set_option maxHeartbeats 8000000 in
set_option maxRecDepth 100000 in
theorem impl_IsGroup.calls (k:Nat) (a0_0:Int) (A0_1:Option Addr) (c0_1:Nat) (l0_1:List (S79)) (A1:Option Addr) (c1:Nat) (l1:List Int) (r1:Bool) (r2:Bool) (w:World) (hr0_1:Kd.C k79 w A0_1 l0_1.length l0_1) (hc0_1:l0_1.length≤c0_1) (hr1:Kd.C (Kd.int .i64) w A1 l1.length l1) (hc1:l1.length≤c1) (h:impl_IsGroup.f k a0_0 l0_1 l1=some (r1,r2)) :
  Calls Try.prog 40 #[.agg #[.int .i64 a0_0,.slice A0_1 l0_1.length c0_1],.slice A1 l1.length c1] w fun e w'=>e=.returned (.tuple #[.bool r1,.bool r2])∧Below w.heap.size w w':=by
 have hu31:=Try.underlying31
 have HR0_1:=zz31 hr0_1
 have HC0_1:=zz31 hc0_1
 clear hr0_1 hc0_1
 have HR1:=zz31 hr1
 have HC1:=zz31 hc1
 clear hr1 hc1
 have HB:=zz31 (Below.refl w.heap.size w)
 have H:((impl_IsParty.f k a0_0 l0_1).bind fun t271=>(if t271=true then ((impl_arePeople.f k a0_0 l0_1 l1).bind fun t272=>(if t272=true then ((impl_isRising.f k l1).bind fun t273=>(if t273=true then ((impl_Party_table.f k a0_0 l0_1).bind fun t274=>((impl_table_isGroup.f k t274 l1).bind fun t277=>(some (t277,true)))) else (some (false,true)))) else (some (false,true)))) else (some (false,false))))=some (r1,r2):=h
 clear h
 replace H:=zz30.mp H
 obtain ⟨t271,A30,H⟩:=H
 replace H:(if t271=true then ((impl_arePeople.f k a0_0 l0_1 l1).bind fun t272=>(if t272=true then ((impl_isRising.f k l1).bind fun t273=>(if t273=true then ((impl_Party_table.f k a0_0 l0_1).bind fun t274=>((impl_table_isGroup.f k t274 l1).bind fun t277=>(some (t277,true)))) else (some (false,true)))) else (some (false,true)))) else (some (false,false)))=some (r1,r2):=H
 have A3:=zz31 A30
 clear A30
 by_cases c4:t271=true
 ·subst c4
  have H1:((impl_arePeople.f k a0_0 l0_1 l1).bind fun t272=>(if t272=true then ((impl_isRising.f k l1).bind fun t273=>(if t273=true then ((impl_Party_table.f k a0_0 l0_1).bind fun t274=>((impl_table_isGroup.f k t274 l1).bind fun t277=>(some (t277,true)))) else (some (false,true)))) else (some (false,true))))=some (r1,r2):=by rw [if_pos rfl] at H;exact H
  clear H
  have H:=H1
  clear H1
  replace H:=zz30.mp H
  obtain ⟨t272,A50,H⟩:=H
  replace H:(if t272=true then ((impl_isRising.f k l1).bind fun t273=>(if t273=true then ((impl_Party_table.f k a0_0 l0_1).bind fun t274=>((impl_table_isGroup.f k t274 l1).bind fun t277=>(some (t277,true)))) else (some (false,true)))) else (some (false,true)))=some (r1,r2):=H
  have A5:=zz31 A50
  clear A50
  by_cases c6:t272=true
  ·subst c6
   have H1:((impl_isRising.f k l1).bind fun t273=>(if t273=true then ((impl_Party_table.f k a0_0 l0_1).bind fun t274=>((impl_table_isGroup.f k t274 l1).bind fun t277=>(some (t277,true)))) else (some (false,true))))=some (r1,r2):=by rw [if_pos rfl] at H;exact H
   clear H
   have H:=H1
   clear H1
   replace H:=zz30.mp H
   obtain ⟨t273,A70,H⟩:=H
   replace H:(if t273=true then ((impl_Party_table.f k a0_0 l0_1).bind fun t274=>((impl_table_isGroup.f k t274 l1).bind fun t277=>(some (t277,true)))) else (some (false,true)))=some (r1,r2):=H
   have A7:=zz31 A70
   clear A70
   by_cases c8:t273=true
   ·subst c8
    have H1:((impl_Party_table.f k a0_0 l0_1).bind fun t274=>((impl_table_isGroup.f k t274 l1).bind fun t277=>(some (t277,true))))=some (r1,r2):=by rw [if_pos rfl] at H;exact H
    clear H
    have H:=H1
    clear H1
    replace H:=zz30.mp H
    obtain ⟨t274,A90,H⟩:=H
    replace H:((impl_table_isGroup.f k t274 l1).bind fun t277=>(some (t277,true)))=some (r1,r2):=H
    have A9:=zz31 A90
    clear A90
    replace H:=zz30.mp H
    obtain ⟨t277,A100,H⟩:=H
    replace H:(some (t277,true))=some (r1,r2):=H
    have A10:=zz31 A100
    clear A100
    simp only [Option.some.injEq,Prod.mk.injEq] at H
    obtain ⟨rfl,rfl⟩:=H
    go_enter Try.func40,Try.ntmps40
    go_wp2_with (first | ((with_reducible refine gate_dst (N:=2) rfl ?_);refine box_event ?hg (N:=2) ?hd (cs:=#[.int .i64 a0_0,.slice A0_1 l0_1.length c0_1]) (t:=31) ?hr ?_;(case hd=>rfl);(case hg=>rfl);(case hr=>first | (go_simp;done) | (go_simp;rfl));intro gb270 hg w11 hbox hb;have n0_:=zz31 (zz4 (by repeat first | exact HB.out | apply zz2 | apply zz0 | apply zz1) hb);have n1_:=zz31 (hbox);have n2_:=zz31 ((by rw [hg];exact (zz5 (by repeat first | exact HB.out | apply zz2 | apply zz0 | apply zz1)):w.heap.size≤gb270));have n3_:=zz31 ((by rw [hg];exact (zz5 (by repeat first | exact HB.out | apply zz2 | apply zz0 | apply zz1)):w.heap.size≤gb270));clear HB;have HB:=n0_;have BK270:=n1_;have GW270:=n2_;have GE270:=n3_;clear n0_ n1_ n2_ n3_;clear hb hbox hg;have hcz12_0:w11.cell? ⟨gb270,0,none⟩=some (.int .i64 a0_0):=(zz9 BK270.out 0).trans rfl;have hcz12_1:w11.cell? ⟨gb270,1,none⟩=some (.slice A0_1 l0_1.length c0_1):=(zz9 BK270.out 1).trans rfl;have hfz12_0:=zz10 BK270.out 0;have hfz12_1:=zz10 BK270.out 1) | ((with_reducible refine gate_callee (f:=63) rfl ?_);refine goesL_ (some 7) rfl rfl Try.func63 (by kernel_rfl) rfl #[.agg #[.int .i64 a0_0,.slice A0_1 l0_1.length c0_1]] rfl (by (try simp only [zz26,zz27,zz28]);first | done | rfl | (simp only [zz24,zz25];rfl)) ?_;(with_reducible refine (impl_IsParty.calls k a0_0 _ _ l0_1 true _ ?side1 ?side2 A3.out).mono ?_);(case side1=>repeat (first | exact (Kd.C_below HR0_1.out HB.out) | (with_reducible refine zz18 ?_ _) | (with_reducible refine zz19 ?_ _) | (with_reducible refine zz20 ?_)));(case side2=>exact HC0_1.out);rintro e w13 ⟨rfl,hb⟩;refine ⟨_,rfl,?_⟩;have n0_:=zz31 (zz11 (g:=gb270) (o:=.cells #[.int .i64 a0_0,.slice A0_1 l0_1.length c0_1] 31 (0,0)) (by (with_reducible repeat (first | refine zz6 ?_ _ | refine zz7 ?_ | refine zz8 ?_ _));exact BK270.out) hb);have n1_:=zz31 (zz4 (by repeat first | exact HB.out | apply zz2 | apply zz0 | apply zz1 | refine zz3 ?_ GE270.out) hb);clear BK270;clear HB;have BK270:=n0_;have HB:=n1_;clear n0_ n1_;(try clear hb);(try clear hb2);(try clear hk);(try clear hi);have hcz14_0:w13.cell? ⟨gb270,0,none⟩=some (.int .i64 a0_0):=(zz9 BK270.out 0).trans rfl;have hcz14_1:w13.cell? ⟨gb270,1,none⟩=some (.slice A0_1 l0_1.length c0_1):=(zz9 BK270.out 1).trans rfl;have hfz14_0:=zz10 BK270.out 0;have hfz14_1:=zz10 BK270.out 1) | ((with_reducible refine gate_callee (f:=64) rfl ?_);refine goesL_ (some 11) rfl rfl Try.func64 (by kernel_rfl) rfl #[.agg #[.int .i64 a0_0,.slice A0_1 l0_1.length c0_1],.slice A1 l1.length c1] rfl (by (try simp only [zz26,zz27,zz28]);first | done | rfl | (simp only [zz24,zz25];rfl)) ?_;(with_reducible refine (impl_arePeople.calls k a0_0 _ _ l0_1 _ _ l1 true _ ?side1 ?side2 ?side3 ?side4 A5.out).mono ?_);(case side1=>repeat (first | exact (Kd.C_below HR0_1.out HB.out) | (with_reducible refine zz18 ?_ _) | (with_reducible refine zz19 ?_ _) | (with_reducible refine zz20 ?_)));(case side2=>exact HC0_1.out);(case side3=>repeat (first | exact (Kd.C_below HR1.out HB.out) | (with_reducible refine zz18 ?_ _) | (with_reducible refine zz19 ?_ _) | (with_reducible refine zz20 ?_)));(case side4=>exact HC1.out);rintro e w15 ⟨rfl,hb⟩;refine ⟨_,rfl,?_⟩;have n0_:=zz31 (zz11 (g:=gb270) (o:=.cells #[.int .i64 a0_0,.slice A0_1 l0_1.length c0_1] 31 (0,0)) (by (with_reducible repeat (first | refine zz6 ?_ _ | refine zz7 ?_ | refine zz8 ?_ _));exact BK270.out) hb);have n1_:=zz31 (zz4 (by repeat first | exact HB.out | apply zz2 | apply zz0 | apply zz1 | refine zz3 ?_ GE270.out) hb);clear BK270;clear HB;have BK270:=n0_;have HB:=n1_;clear n0_ n1_;(try clear hb);(try clear hb2);(try clear hk);(try clear hi)) | (go_at_call 65;(with_reducible refine (impl_isRising.calls k _ _ l1 true _ ?side1 ?side2 A7.out).mono ?_);(case side1=>repeat (first | exact (Kd.C_below HR1.out HB.out) | (with_reducible refine zz18 ?_ _) | (with_reducible refine zz19 ?_ _) | (with_reducible refine zz20 ?_)));(case side2=>exact HC1.out);rintro e w' ⟨rfl,⟨nd,rfl⟩⟩;have hcz16_0:w15.cell? ⟨gb270,0,none⟩=some (.int .i64 a0_0):=(zz9 BK270.out 0).trans rfl;have hcz16_1:w15.cell? ⟨gb270,1,none⟩=some (.slice A0_1 l0_1.length c0_1):=(zz9 BK270.out 1).trans rfl;have hfz16_0:=zz10 BK270.out 0;have hfz16_1:=zz10 BK270.out 1) | (go_at_call 41;(with_reducible refine (impl_Party_table.calls k a0_0 _ _ l0_1 t274 _ ?side1 ?side2 A9.out).mono ?_);(case side1=>repeat (first | exact (Kd.C_below HR0_1.out (by repeat first | exact HB.out | apply zz2 | apply zz0 | apply zz1 | refine zz3 ?_ GE270.out)) | (with_reducible refine zz18 ?_ _) | (with_reducible refine zz19 ?_ _) | (with_reducible refine zz20 ?_)));(case side2=>exact HC0_1.out);rintro e w17 ⟨v275,rfl,ho0,hb⟩;have n0_:=zz31 (Kd.R_lower ho0 (zz5 (by repeat first | exact HB.out | apply zz2 | apply zz0 | apply zz1 | refine zz3 ?_ GE270.out)));have n1_:=zz31 (zz11 (g:=gb270) (o:=.cells #[.int .i64 a0_0,.slice A0_1 l0_1.length c0_1] 31 (0,0)) (by (with_reducible repeat (first | refine zz6 ?_ _ | refine zz7 ?_ | refine zz8 ?_ _));exact BK270.out) hb);have n2_:=zz31 (zz4 (by repeat first | exact HB.out | apply zz2 | apply zz0 | apply zz1 | refine zz3 ?_ GE270.out) hb);clear BK270;clear HB;have HO276:=n0_;have BK270:=n1_;have HB:=n2_;clear n0_ n1_ n2_;(try clear hb);(try clear hb2);(try clear hk);(try clear hi);(try clear ho0);obtain ⟨Ao18,co18,eo18⟩:=Kd.R_slice HO276.out;subst eo18) | (go_at_call 44;(with_reducible refine (impl_table_isGroup.calls k _ _ t274 _ _ l1 t277 _ ?side1 ?side2 ?side3 ?side4 A10.out).mono ?_);(case side1=>repeat (first | exact (Kd.R_reads' HO276.out).2.2 | (with_reducible refine zz18 ?_ _) | (with_reducible refine zz19 ?_ _) | (with_reducible refine zz20 ?_)));(case side2=>exact (Kd.R_reads' HO276.out).2.1);(case side3=>repeat (first | exact (Kd.C_below HR1.out HB.out) | (with_reducible refine zz18 ?_ _) | (with_reducible refine zz19 ?_ _) | (with_reducible refine zz20 ?_)));(case side4=>exact HC1.out);rintro e w' ⟨rfl,⟨nd,rfl⟩⟩))
    go_ret2
    exact ⟨by first | rfl | (simp [errW_none,errW_some] <;> rfl) | (simp [*,errW_none,errW_some] <;> rfl),by repeat first | exact HB.out | apply zz2 | apply zz0 | apply zz1 | refine zz3 ?_ GE270.out⟩
   ·replace c8:=Bool.eq_false_iff.mpr c8
    subst c8
    have H1:(some (false,true))=some (r1,r2):=by rw [if_neg (show ¬ (false=true) by decide)] at H;exact H
    clear H
    have H:=H1
    clear H1
    simp only [Option.some.injEq,Prod.mk.injEq] at H
    obtain ⟨rfl,rfl⟩:=H
    go_enter Try.func40,Try.ntmps40
    go_wp2_with (first | ((with_reducible refine gate_dst (N:=2) rfl ?_);refine box_event ?hg (N:=2) ?hd (cs:=#[.int .i64 a0_0,.slice A0_1 l0_1.length c0_1]) (t:=31) ?hr ?_;(case hd=>rfl);(case hg=>rfl);(case hr=>first | (go_simp;done) | (go_simp;rfl));intro gb270 hg w19 hbox hb;have n0_:=zz31 (zz4 (by repeat first | exact HB.out | apply zz2 | apply zz0 | apply zz1) hb);have n1_:=zz31 (hbox);have n2_:=zz31 ((by rw [hg];exact (zz5 (by repeat first | exact HB.out | apply zz2 | apply zz0 | apply zz1)):w.heap.size≤gb270));have n3_:=zz31 ((by rw [hg];exact (zz5 (by repeat first | exact HB.out | apply zz2 | apply zz0 | apply zz1)):w.heap.size≤gb270));clear HB;have HB:=n0_;have BK270:=n1_;have GW270:=n2_;have GE270:=n3_;clear n0_ n1_ n2_ n3_;clear hb hbox hg;have hcz20_0:w19.cell? ⟨gb270,0,none⟩=some (.int .i64 a0_0):=(zz9 BK270.out 0).trans rfl;have hcz20_1:w19.cell? ⟨gb270,1,none⟩=some (.slice A0_1 l0_1.length c0_1):=(zz9 BK270.out 1).trans rfl;have hfz20_0:=zz10 BK270.out 0;have hfz20_1:=zz10 BK270.out 1) | ((with_reducible refine gate_callee (f:=63) rfl ?_);refine goesL_ (some 7) rfl rfl Try.func63 (by kernel_rfl) rfl #[.agg #[.int .i64 a0_0,.slice A0_1 l0_1.length c0_1]] rfl (by (try simp only [zz26,zz27,zz28]);first | done | rfl | (simp only [zz24,zz25];rfl)) ?_;(with_reducible refine (impl_IsParty.calls k a0_0 _ _ l0_1 true _ ?side1 ?side2 A3.out).mono ?_);(case side1=>repeat (first | exact (Kd.C_below HR0_1.out HB.out) | (with_reducible refine zz18 ?_ _) | (with_reducible refine zz19 ?_ _) | (with_reducible refine zz20 ?_)));(case side2=>exact HC0_1.out);rintro e w21 ⟨rfl,hb⟩;refine ⟨_,rfl,?_⟩;have n0_:=zz31 (zz11 (g:=gb270) (o:=.cells #[.int .i64 a0_0,.slice A0_1 l0_1.length c0_1] 31 (0,0)) (by (with_reducible repeat (first | refine zz6 ?_ _ | refine zz7 ?_ | refine zz8 ?_ _));exact BK270.out) hb);have n1_:=zz31 (zz4 (by repeat first | exact HB.out | apply zz2 | apply zz0 | apply zz1 | refine zz3 ?_ GE270.out) hb);clear BK270;clear HB;have BK270:=n0_;have HB:=n1_;clear n0_ n1_;(try clear hb);(try clear hb2);(try clear hk);(try clear hi);have hcz22_0:w21.cell? ⟨gb270,0,none⟩=some (.int .i64 a0_0):=(zz9 BK270.out 0).trans rfl;have hcz22_1:w21.cell? ⟨gb270,1,none⟩=some (.slice A0_1 l0_1.length c0_1):=(zz9 BK270.out 1).trans rfl;have hfz22_0:=zz10 BK270.out 0;have hfz22_1:=zz10 BK270.out 1) | ((with_reducible refine gate_callee (f:=64) rfl ?_);refine goesL_ (some 11) rfl rfl Try.func64 (by kernel_rfl) rfl #[.agg #[.int .i64 a0_0,.slice A0_1 l0_1.length c0_1],.slice A1 l1.length c1] rfl (by (try simp only [zz26,zz27,zz28]);first | done | rfl | (simp only [zz24,zz25];rfl)) ?_;(with_reducible refine (impl_arePeople.calls k a0_0 _ _ l0_1 _ _ l1 true _ ?side1 ?side2 ?side3 ?side4 A5.out).mono ?_);(case side1=>repeat (first | exact (Kd.C_below HR0_1.out HB.out) | (with_reducible refine zz18 ?_ _) | (with_reducible refine zz19 ?_ _) | (with_reducible refine zz20 ?_)));(case side2=>exact HC0_1.out);(case side3=>repeat (first | exact (Kd.C_below HR1.out HB.out) | (with_reducible refine zz18 ?_ _) | (with_reducible refine zz19 ?_ _) | (with_reducible refine zz20 ?_)));(case side4=>exact HC1.out);rintro e w23 ⟨rfl,hb⟩;refine ⟨_,rfl,?_⟩;have n0_:=zz31 (zz11 (g:=gb270) (o:=.cells #[.int .i64 a0_0,.slice A0_1 l0_1.length c0_1] 31 (0,0)) (by (with_reducible repeat (first | refine zz6 ?_ _ | refine zz7 ?_ | refine zz8 ?_ _));exact BK270.out) hb);have n1_:=zz31 (zz4 (by repeat first | exact HB.out | apply zz2 | apply zz0 | apply zz1 | refine zz3 ?_ GE270.out) hb);clear BK270;clear HB;have BK270:=n0_;have HB:=n1_;clear n0_ n1_;(try clear hb);(try clear hb2);(try clear hk);(try clear hi)) | (go_at_call 65;(with_reducible refine (impl_isRising.calls k _ _ l1 false _ ?side1 ?side2 A7.out).mono ?_);(case side1=>repeat (first | exact (Kd.C_below HR1.out HB.out) | (with_reducible refine zz18 ?_ _) | (with_reducible refine zz19 ?_ _) | (with_reducible refine zz20 ?_)));(case side2=>exact HC1.out);rintro e w' ⟨rfl,⟨nd,rfl⟩⟩))
    go_ret2
    exact ⟨by first | rfl | (simp [errW_none,errW_some] <;> rfl) | (simp [*,errW_none,errW_some] <;> rfl),by repeat first | exact HB.out | apply zz2 | apply zz0 | apply zz1 | refine zz3 ?_ GE270.out⟩
  ·replace c6:=Bool.eq_false_iff.mpr c6
   subst c6
   have H1:(some (false,true))=some (r1,r2):=by rw [if_neg (show ¬ (false=true) by decide)] at H;exact H
   clear H
   have H:=H1
   clear H1
   simp only [Option.some.injEq,Prod.mk.injEq] at H
   obtain ⟨rfl,rfl⟩:=H
   go_enter Try.func40,Try.ntmps40
   go_wp2_with (first | ((with_reducible refine gate_dst (N:=2) rfl ?_);refine box_event ?hg (N:=2) ?hd (cs:=#[.int .i64 a0_0,.slice A0_1 l0_1.length c0_1]) (t:=31) ?hr ?_;(case hd=>rfl);(case hg=>rfl);(case hr=>first | (go_simp;done) | (go_simp;rfl));intro gb270 hg w24 hbox hb;have n0_:=zz31 (zz4 (by repeat first | exact HB.out | apply zz2 | apply zz0 | apply zz1) hb);have n1_:=zz31 (hbox);have n2_:=zz31 ((by rw [hg];exact (zz5 (by repeat first | exact HB.out | apply zz2 | apply zz0 | apply zz1)):w.heap.size≤gb270));have n3_:=zz31 ((by rw [hg];exact (zz5 (by repeat first | exact HB.out | apply zz2 | apply zz0 | apply zz1)):w.heap.size≤gb270));clear HB;have HB:=n0_;have BK270:=n1_;have GW270:=n2_;have GE270:=n3_;clear n0_ n1_ n2_ n3_;clear hb hbox hg;have hcz25_0:w24.cell? ⟨gb270,0,none⟩=some (.int .i64 a0_0):=(zz9 BK270.out 0).trans rfl;have hcz25_1:w24.cell? ⟨gb270,1,none⟩=some (.slice A0_1 l0_1.length c0_1):=(zz9 BK270.out 1).trans rfl;have hfz25_0:=zz10 BK270.out 0;have hfz25_1:=zz10 BK270.out 1) | ((with_reducible refine gate_callee (f:=63) rfl ?_);refine goesL_ (some 7) rfl rfl Try.func63 (by kernel_rfl) rfl #[.agg #[.int .i64 a0_0,.slice A0_1 l0_1.length c0_1]] rfl (by (try simp only [zz26,zz27,zz28]);first | done | rfl | (simp only [zz24,zz25];rfl)) ?_;(with_reducible refine (impl_IsParty.calls k a0_0 _ _ l0_1 true _ ?side1 ?side2 A3.out).mono ?_);(case side1=>repeat (first | exact (Kd.C_below HR0_1.out HB.out) | (with_reducible refine zz18 ?_ _) | (with_reducible refine zz19 ?_ _) | (with_reducible refine zz20 ?_)));(case side2=>exact HC0_1.out);rintro e w26 ⟨rfl,hb⟩;refine ⟨_,rfl,?_⟩;have n0_:=zz31 (zz11 (g:=gb270) (o:=.cells #[.int .i64 a0_0,.slice A0_1 l0_1.length c0_1] 31 (0,0)) (by (with_reducible repeat (first | refine zz6 ?_ _ | refine zz7 ?_ | refine zz8 ?_ _));exact BK270.out) hb);have n1_:=zz31 (zz4 (by repeat first | exact HB.out | apply zz2 | apply zz0 | apply zz1 | refine zz3 ?_ GE270.out) hb);clear BK270;clear HB;have BK270:=n0_;have HB:=n1_;clear n0_ n1_;(try clear hb);(try clear hb2);(try clear hk);(try clear hi);have hcz27_0:w26.cell? ⟨gb270,0,none⟩=some (.int .i64 a0_0):=(zz9 BK270.out 0).trans rfl;have hcz27_1:w26.cell? ⟨gb270,1,none⟩=some (.slice A0_1 l0_1.length c0_1):=(zz9 BK270.out 1).trans rfl;have hfz27_0:=zz10 BK270.out 0;have hfz27_1:=zz10 BK270.out 1) | ((with_reducible refine gate_callee (f:=64) rfl ?_);refine goesL_ (some 11) rfl rfl Try.func64 (by kernel_rfl) rfl #[.agg #[.int .i64 a0_0,.slice A0_1 l0_1.length c0_1],.slice A1 l1.length c1] rfl (by (try simp only [zz26,zz27,zz28]);first | done | rfl | (simp only [zz24,zz25];rfl)) ?_;(with_reducible refine (impl_arePeople.calls k a0_0 _ _ l0_1 _ _ l1 false _ ?side1 ?side2 ?side3 ?side4 A5.out).mono ?_);(case side1=>repeat (first | exact (Kd.C_below HR0_1.out HB.out) | (with_reducible refine zz18 ?_ _) | (with_reducible refine zz19 ?_ _) | (with_reducible refine zz20 ?_)));(case side2=>exact HC0_1.out);(case side3=>repeat (first | exact (Kd.C_below HR1.out HB.out) | (with_reducible refine zz18 ?_ _) | (with_reducible refine zz19 ?_ _) | (with_reducible refine zz20 ?_)));(case side4=>exact HC1.out);rintro e w28 ⟨rfl,hb⟩;refine ⟨_,rfl,?_⟩;have n0_:=zz31 (zz11 (g:=gb270) (o:=.cells #[.int .i64 a0_0,.slice A0_1 l0_1.length c0_1] 31 (0,0)) (by (with_reducible repeat (first | refine zz6 ?_ _ | refine zz7 ?_ | refine zz8 ?_ _));exact BK270.out) hb);have n1_:=zz31 (zz4 (by repeat first | exact HB.out | apply zz2 | apply zz0 | apply zz1 | refine zz3 ?_ GE270.out) hb);clear BK270;clear HB;have BK270:=n0_;have HB:=n1_;clear n0_ n1_;(try clear hb);(try clear hb2);(try clear hk);(try clear hi)))
   go_ret2
   exact ⟨by first | rfl | (simp [errW_none,errW_some] <;> rfl) | (simp [*,errW_none,errW_some] <;> rfl),by repeat first | exact HB.out | apply zz2 | apply zz0 | apply zz1 | refine zz3 ?_ GE270.out⟩
 ·replace c4:=Bool.eq_false_iff.mpr c4
  subst c4
  have H1:(some (false,false))=some (r1,r2):=by rw [if_neg (show ¬ (false=true) by decide)] at H;exact H
  clear H
  have H:=H1
  clear H1
  simp only [Option.some.injEq,Prod.mk.injEq] at H
  obtain ⟨rfl,rfl⟩:=H
  go_enter Try.func40,Try.ntmps40
  go_wp2_with (first | ((with_reducible refine gate_dst (N:=2) rfl ?_);refine box_event ?hg (N:=2) ?hd (cs:=#[.int .i64 a0_0,.slice A0_1 l0_1.length c0_1]) (t:=31) ?hr ?_;(case hd=>rfl);(case hg=>rfl);(case hr=>first | (go_simp;done) | (go_simp;rfl));intro gb270 hg w29 hbox hb;have n0_:=zz31 (zz4 (by repeat first | exact HB.out | apply zz2 | apply zz0 | apply zz1) hb);have n1_:=zz31 (hbox);have n2_:=zz31 ((by rw [hg];exact (zz5 (by repeat first | exact HB.out | apply zz2 | apply zz0 | apply zz1)):w.heap.size≤gb270));have n3_:=zz31 ((by rw [hg];exact (zz5 (by repeat first | exact HB.out | apply zz2 | apply zz0 | apply zz1)):w.heap.size≤gb270));clear HB;have HB:=n0_;have BK270:=n1_;have GW270:=n2_;have GE270:=n3_;clear n0_ n1_ n2_ n3_;clear hb hbox hg;have hcz30_0:w29.cell? ⟨gb270,0,none⟩=some (.int .i64 a0_0):=(zz9 BK270.out 0).trans rfl;have hcz30_1:w29.cell? ⟨gb270,1,none⟩=some (.slice A0_1 l0_1.length c0_1):=(zz9 BK270.out 1).trans rfl;have hfz30_0:=zz10 BK270.out 0;have hfz30_1:=zz10 BK270.out 1) | ((with_reducible refine gate_callee (f:=63) rfl ?_);refine goesL_ (some 7) rfl rfl Try.func63 (by kernel_rfl) rfl #[.agg #[.int .i64 a0_0,.slice A0_1 l0_1.length c0_1]] rfl (by (try simp only [zz26,zz27,zz28]);first | done | rfl | (simp only [zz24,zz25];rfl)) ?_;(with_reducible refine (impl_IsParty.calls k a0_0 _ _ l0_1 false _ ?side1 ?side2 A3.out).mono ?_);(case side1=>repeat (first | exact (Kd.C_below HR0_1.out HB.out) | (with_reducible refine zz18 ?_ _) | (with_reducible refine zz19 ?_ _) | (with_reducible refine zz20 ?_)));(case side2=>exact HC0_1.out);rintro e w31 ⟨rfl,hb⟩;refine ⟨_,rfl,?_⟩;have n0_:=zz31 (zz11 (g:=gb270) (o:=.cells #[.int .i64 a0_0,.slice A0_1 l0_1.length c0_1] 31 (0,0)) (by (with_reducible repeat (first | refine zz6 ?_ _ | refine zz7 ?_ | refine zz8 ?_ _));exact BK270.out) hb);have n1_:=zz31 (zz4 (by repeat first | exact HB.out | apply zz2 | apply zz0 | apply zz1 | refine zz3 ?_ GE270.out) hb);clear BK270;clear HB;have BK270:=n0_;have HB:=n1_;clear n0_ n1_;(try clear hb);(try clear hb2);(try clear hk);(try clear hi)))
  go_ret2
  exact ⟨by first | rfl | (simp [errW_none,errW_some] <;> rfl) | (simp [*,errW_none,errW_some] <;> rfl),by repeat first | exact HB.out | apply zz2 | apply zz0 | apply zz1 | refine zz3 ?_ GE270.out⟩

/-! ### slices_Clone_int_int: function 42 (a contract of our own) -/
def slices_Clone_int_int.f (l0:List Int):Option (List Int):=if l0.length≤1000000000 then some l0 else none
set_option maxHeartbeats 1000000 in
set_option maxRecDepth 100000 in
theorem slices_Clone_int_int.calls (A0:Option Addr) (c0:Nat) (l0:List Int) (r:List Int) (w:World) (hr0:Kd.C (Kd.int .i64) w A0 l0.length l0) (hc0:l0.length≤c0) (h:slices_Clone_int_int.f l0=some r) :
  Calls Try.prog 42 #[.slice A0 l0.length c0] w fun e w'=>∃ v0_:Value,e=.returned (v0_)∧Kd.R (Kd.int .i64) 3 w' w.heap.size (fun _=>True) v0_ r∧Below w.heap.size w w':=by
 unfold slices_Clone_int_int.f at h
 by_cases hb:l0.length≤1000000000
 case neg=>rw [if_neg hb] at h;exact absurd h (by simp)
 rw [if_pos hb] at h
 obtain rfl:=Option.some.inj h
 clear h
 have HR:=zz31 hr0
 have HBIG:=zz31 hb
 clear hb hc0
 cases A0 with
 | none =>
  have h0:l0=[]:=by
   rcases Nat.eq_zero_or_pos l0.length with hz | hz
   ·exact List.eq_nil_of_length_eq_zero hz
   ·obtain ⟨ad,e,_⟩:=hr0.2.2 hz
    cases e
  subst h0
  clear hr0
  have heq:∀ W:World,(binOp .eql 25 (.slice none 0 c0) (.slice none 0 0)).run Try.prog W=.ok (.bool true) W:=fun W=>Lib.run_eql_slice_nil_nil W 0 c0 Try.underlying25
  go_enter Try.func42,Try.ntmps42
  go_wp2
  go_ret
  exact ⟨_,rfl,Kd.R_nil _ _ _ _ _,Below.refl _ _⟩
 | some ad =>
  clear hr0
  have heq:∀ W:World,(binOp .eql 25 (.slice (some ad) l0.length c0) (.slice none 0 0)).run Try.prog W=.ok (.bool false) W:=fun W=>Lib.run_eql_slice_some_nil W ad l0.length c0 Try.underlying25
  go_enter Try.func42,Try.ntmps42
  go_wp2_with (first | ((with_reducible refine gate_dst (N:=5) rfl ?_);refine Kd.R_lit (Kd.int .i64) (w0:=w) w.heap.size 3 ?hg (N:=5) ?hd (xs:=([]:List Int)) (inner:=[]) (ok:=fun _=>True) (okp:=fun _=>True) ?hr ?hp (fun _ hk=>hk) trivial (Below.refl _ _) (Nat.le_refl _) (by simp) ?_;(case hd=>rfl);(case hg=>rfl);(case hr=>first | (go_simp;done) | (go_simp;rfl));(case hp=>exact (Reps.none _ _));intro v3 w3 ho hb hg_ hnew_;clear hg_ hnew_;have HO:=zz31 ho;have HB:=zz31 hb;clear ho hb) | ((with_reducible refine gate_dst (N:=7) rfl ?_);refine Kd.R_append_rows (Kd.int .i64) (w0:=w) w.heap.size rfl (.tmp 5) (.tmp 6) 25 3 (.int .i64 0) 8 rfl Try.underlying25 info3 rfl (by decide) (by omega) v3 [] l0 _ _ _ (fun _=>True) (fun _=>False) rfl rfl HO.out (Kd.C_below HR.out HB.out) ?aR (fun _ h=>h.elim) (fun _ _=>trivial) HB.out HB.out.size ?aL ?_;(case aR=>exact (fun _ _ h=>h));(case aL=>(have:=HBIG.out;simp;omega));intro v4 w4 ho4 hb4 hg4 hn4;clear hg4 hn4;have HO4:=zz31 ho4;have HB4:=zz31 hb4;clear ho4 hb4))
  go_ret
  exact ⟨_,rfl,by simpa using HO4.out,HB4.out⟩

/-! ### slices_Index_int_int: function 66 -/
def slices_Index_int_int.l0:Nat→List Int→Int→Int→Int→Option (Int)
 | 0,_,_,_,_=>none
 | k+1,x0,x1,x7,x8=>if x8 < x7 then (if 0≤x8 then (if x8 < (x0.length:Int) then (if x1=(rd x0 x8) then (some x8) else (slices_Index_int_int.l0 k x0 x1 x7 (wrap64 (x8+1)))) else (none)) else (none)) else (some (-1))
def slices_Index_int_int.f (k:Nat) (l0:List Int) (a1:Int):Option (Int):=slices_Index_int_int.l0 k l0 a1 (l0.length:Int) 0
theorem slices_Index_int_int.mono_l:∀ k,(∀ y0 y1 y2 y3,LeO (slices_Index_int_int.l0 k y0 y1 y2 y3) (slices_Index_int_int.l0 (k+1) y0 y1 y2 y3))
 | 0=>fun _ _ _ _ r h=>by simp [slices_Index_int_int.l0] at h
 | k+1=>by
  have ih0:=slices_Index_int_int.mono_l k
  ·intro y0 y1 y2 y3
   unfold slices_Index_int_int.l0
   repeat' first
   | (with_reducible exact ih0 _ _ _ _)
   | (with_reducible exact LeO.refl _)
   | (with_reducible exact LeO.none _)
   | (with_reducible refine LeO.ite ?_ ?_)
   | (with_reducible refine LeO.bind ?_ (fun _=>?_))
   | exact ih0 _ _ _ _
   | exact LeO.none _
   | refine LeO.ite ?_ ?_
   | refine LeO.bind ?_ (fun _=>?_)
theorem slices_Index_int_int.mono:∀ a0 a1 k,LeO (slices_Index_int_int.f k a0 a1) (slices_Index_int_int.f (k+1) a0 a1):=by
 intro a0 a1 k
 have ih0:=slices_Index_int_int.mono_l k
 unfold slices_Index_int_int.f
 repeat' first
   | (with_reducible exact ih0 _ _ _ _)
   | (with_reducible exact LeO.refl _)
   | (with_reducible exact LeO.none _)
   | (with_reducible refine LeO.ite ?_ ?_)
   | (with_reducible refine LeO.bind ?_ (fun _=>?_))
   | exact ih0 _ _ _ _
   | exact LeO.none _
   | refine LeO.ite ?_ ?_
   | refine LeO.bind ?_ (fun _=>?_)
set_option maxHeartbeats 8000000 in
set_option maxRecDepth 100000 in
theorem slices_Index_int_int.calls (k:Nat) (A0:Option Addr) (c0:Nat) (l0:List Int) (a1:Int) (r:Int) (w:World) (hr0:Kd.C (Kd.int .i64) w A0 l0.length l0) (hc0:l0.length≤c0) (h:slices_Index_int_int.f k l0 a1=some r) :
  Calls Try.prog 66 #[.slice A0 l0.length c0,.int .i64 a1] w fun e w'=>e=.returned (.int .i64 r)∧Drawn0 w w':=by
 have HR0:=zz31 hr0
 have HC0:=zz31 hc0
 clear hr0 hc0
 have H:(slices_Index_int_int.l0 k l0 a1 (l0.length:Int) 0)=some r:=h
 clear h
 have H':=zz31 H
 clear H
 go_enter Try.func66,Try.ntmps66
 go_wp2
 go_loopg [8] k (fun kq v8 w'=>∃ (x8_1:Int),v8=.int .i64 x8_1∧Aside0 (slices_Index_int_int.l0 kq l0 a1 (l0.length:Int) x8_1=some r)∧Aside0 (kq≤k)∧Drawn0 w w')
 case atStart=>exact ⟨(0),(by first | rfl | (simp;done) | (simp [*];done)),H',⟨Nat.le_refl _⟩,by repeat (first | exact Drawn0.refl _ | apply Drawn0.step)⟩
 case round =>
  clear H'
  try clear p2
  obtain ⟨x8_1,rfl,HA,HK1,⟨m1,rfl⟩⟩:=hrel
  cases gk with
  | zero=>exact absurd HA.out (by simp [slices_Index_int_int.l0])
  | succ k1 =>
   have H:=HA.out
   clear HA
   simp only [slices_Index_int_int.l0] at H
   by_cases c3:x8_1 < (l0.length:Int)
   ·rw [if_pos c3] at H
    have c3b0:decide (x8_1 < (l0.length:Int))=true:=decide_eq_true c3
    clear c3
    by_cases c4:0≤x8_1
    ·rw [if_pos c4] at H
     have c4b0:decide (0≤x8_1)=true:=decide_eq_true c4
     clear c4
     by_cases c5:x8_1 < (l0.length:Int)
     ·rw [if_pos c5] at H
      have c5b0:decide (x8_1 < (l0.length:Int))=true:=decide_eq_true c5
      clear c5
      by_cases c6:a1=(rd l0 x8_1)
      ·rw [if_pos c6] at H
       have c6b0:(a1 == (rd l0 x8_1))=true:=beq_iff_eq.mpr c6
       have c6b1:(a1 != (rd l0 x8_1))=false:=bne_eq_false_iff_eq.mpr c6
       clear c6
       obtain rfl:=Option.some.inj H
       have p278:0≤(x8_1:Int):=zz29 (by first | (with_reducible assumption) | assumption)
       have q278:x8_1 < (l0.length:Int):=zz29 (by first | (with_reducible assumption) | assumption)
       obtain ⟨ad278,e278,hx278_0⟩:=Kd.at_int HR0.out x8_1 p278 q278
       cases e278
       replace p278:=eq_true p278
       replace q278:=eq_true q278
       go_wp2
       go_ret
       exact ⟨by first | rfl | (simp;done) | (simp [*];done),by repeat (first | exact Drawn0.refl _ | apply Drawn0.step)⟩
      ·rw [if_neg c6] at H
       have c6b0:(a1 == (rd l0 x8_1))=false:=beq_eq_false_iff_ne.mpr c6
       have c6b1:(a1 != (rd l0 x8_1))=true:=bne_iff_ne.mpr c6
       have H':=zz31 H
       clear H
       have p278:0≤(x8_1:Int):=zz29 (by first | (with_reducible assumption) | assumption)
       have q278:x8_1 < (l0.length:Int):=zz29 (by first | (with_reducible assumption) | assumption)
       obtain ⟨ad278,e278,hx278_0⟩:=Kd.at_int HR0.out x8_1 p278 q278
       cases e278
       replace p278:=eq_true p278
       replace q278:=eq_true q278
       go_wp2
       go_roundg k1
       case measure=>have:=HK1.out;omega
       case rel=>exact ⟨(wrap64 (x8_1+1)),(by first | rfl | (simp;done) | (simp [*];done)),H',⟨by have:=HK1.out;omega⟩,by repeat (first | exact Drawn0.refl _ | apply Drawn0.step)⟩
     ·rw [if_neg c5] at H
      exact absurd H (by simp)
    ·rw [if_neg c4] at H
     exact absurd H (by simp)
   ·rw [if_neg c3] at H
    have c3b0:decide (x8_1 < (l0.length:Int))=false:=decide_eq_false c3
    clear c3
    obtain rfl:=Option.some.inj H
    go_wp2
    go_ret
    exact ⟨by first | rfl | (simp;done) | (simp [*];done),by repeat (first | exact Drawn0.refl _ | apply Drawn0.step)⟩

/-! ### slices_Contains_int_int: function 43 -/
def slices_Contains_int_int.f (k:Nat) (l0:List Int) (a1:Int):Option (Bool):=(slices_Index_int_int.f k l0 a1).bind fun t279=>(some (decide (t279 ≥ 0)))
theorem slices_Contains_int_int.mono:∀ a0 a1 k,LeO (slices_Contains_int_int.f k a0 a1) (slices_Contains_int_int.f (k+1) a0 a1):=by
 intro a0 a1 k
 unfold slices_Contains_int_int.f
 repeat' first
   | (with_reducible exact slices_Index_int_int.mono _ _ _)
   | (with_reducible exact LeO.refl _)
   | (with_reducible exact LeO.none _)
   | (with_reducible refine LeO.ite ?_ ?_)
   | (with_reducible refine LeO.bind ?_ (fun _=>?_))
   | exact slices_Index_int_int.mono _ _ _
   | exact LeO.none _
   | refine LeO.ite ?_ ?_
   | refine LeO.bind ?_ (fun _=>?_)
set_option maxHeartbeats 8000000 in
set_option maxRecDepth 100000 in
theorem slices_Contains_int_int.calls (k:Nat) (A0:Option Addr) (c0:Nat) (l0:List Int) (a1:Int) (r:Bool) (w:World) (hr0:Kd.C (Kd.int .i64) w A0 l0.length l0) (hc0:l0.length≤c0) (h:slices_Contains_int_int.f k l0 a1=some r) :
  Calls Try.prog 43 #[.slice A0 l0.length c0,.int .i64 a1] w fun e w'=>e=.returned (.bool r)∧Drawn0 w w':=by
 have HR0:=zz31 hr0
 have HC0:=zz31 hc0
 clear hr0 hc0
 have H:((slices_Index_int_int.f k l0 a1).bind fun t279=>(some (decide (t279 ≥ 0))))=some r:=h
 clear h
 replace H:=zz30.mp H
 obtain ⟨t279,A30,H⟩:=H
 replace H:(some (decide (t279 ≥ 0)))=some r:=H
 have A3:=zz31 A30
 clear A30
 obtain rfl:=Option.some.inj H
 go_enter Try.func43,Try.ntmps43
 go_wp2_with (first | ((with_reducible refine gate_callee (f:=66) rfl ?_);refine goesL_ (some 7) rfl rfl Try.func66 (by kernel_rfl) rfl #[.slice A0 l0.length c0,.int .i64 a1] rfl (by (try simp only [zz26,zz27,zz28]);first | done | rfl | (simp only [zz24,zz25];rfl)) ?_;(with_reducible refine (slices_Index_int_int.calls k _ _ l0 a1 t279 _ ?side1 ?side2 A3.out).mono ?_);(case side1=>repeat (first | exact HR0.out | (with_reducible refine zz18 ?_ _) | (with_reducible refine zz19 ?_ _) | (with_reducible refine zz20 ?_)));(case side2=>exact HC0.out);rintro e w' ⟨rfl,⟨nd,rfl⟩⟩;refine ⟨_,rfl,?_⟩))
 go_ret
 exact ⟨by first | rfl | (simp;done) | (simp [*];done),by repeat (first | exact Drawn0.refl _ | apply Drawn0.step)⟩

/-! ### cmp_Less_int: function 86 -/
def cmp_Less_int.f (a0:Int) (a1:Int):Option (Bool):=(cmp_isNaN_int.f a0).bind fun t280=>(if t280=true then ((cmp_isNaN_int.f a1).bind fun t281=>(if t281=true then (some (decide (a0 < a1))) else (some true))) else (some (decide (a0 < a1))))
set_option maxHeartbeats 8000000 in
set_option maxRecDepth 100000 in
theorem cmp_Less_int.calls (a0:Int) (a1:Int) (r:Bool) (w:World) (h:cmp_Less_int.f a0 a1=some r) :
  Calls Try.prog 86 #[.int .i64 a0,.int .i64 a1] w fun e w'=>e=.returned (.bool r)∧Drawn0 w w':=by
 have H:((cmp_isNaN_int.f a0).bind fun t280=>(if t280=true then ((cmp_isNaN_int.f a1).bind fun t281=>(if t281=true then (some (decide (a0 < a1))) else (some true))) else (some (decide (a0 < a1)))))=some r:=h
 clear h
 replace H:=zz30.mp H
 obtain ⟨t280,A30,H⟩:=H
 replace H:(if t280=true then ((cmp_isNaN_int.f a1).bind fun t281=>(if t281=true then (some (decide (a0 < a1))) else (some true))) else (some (decide (a0 < a1))))=some r:=H
 have A3:=zz31 A30
 clear A30
 by_cases c4:t280=true
 ·subst c4
  have H1:((cmp_isNaN_int.f a1).bind fun t281=>(if t281=true then (some (decide (a0 < a1))) else (some true)))=some r:=by rw [if_pos rfl] at H;exact H
  clear H
  have H:=H1
  clear H1
  replace H:=zz30.mp H
  obtain ⟨t281,A50,H⟩:=H
  replace H:(if t281=true then (some (decide (a0 < a1))) else (some true))=some r:=H
  have A5:=zz31 A50
  clear A50
  by_cases c6:t281=true
  ·subst c6
   have H1:(some (decide (a0 < a1)))=some r:=by rw [if_pos rfl] at H;exact H
   clear H
   have H:=H1
   clear H1
   obtain rfl:=Option.some.inj H
   go_enter Try.func86,Try.ntmps86
   go_wp2_with (first | ((with_reducible refine gate_callee (f:=100) rfl ?_);refine goesL_ (some 6) rfl rfl Try.func100 (by kernel_rfl) rfl #[.int .i64 a0] rfl (by (try simp only [zz26,zz27,zz28]);first | done | rfl | (simp only [zz24,zz25];rfl)) ?_;(with_reducible refine (cmp_isNaN_int.calls a0 true _ A3.out).mono ?_);rintro e w' ⟨rfl,⟨nd,rfl⟩⟩;refine ⟨_,rfl,?_⟩) | (go_at_call 100;(with_reducible refine (cmp_isNaN_int.calls a1 true _ A5.out).mono ?_);rintro e w' ⟨rfl,⟨nd,rfl⟩⟩))
   go_ret
   exact ⟨by first | rfl | (simp;done) | (simp [*];done),by repeat (first | exact Drawn0.refl _ | apply Drawn0.step)⟩
  ·replace c6:=Bool.eq_false_iff.mpr c6
   subst c6
   have H1:(some true)=some r:=by rw [if_neg (show ¬ (false=true) by decide)] at H;exact H
   clear H
   have H:=H1
   clear H1
   obtain rfl:=Option.some.inj H
   go_enter Try.func86,Try.ntmps86
   go_wp2_with (first | ((with_reducible refine gate_callee (f:=100) rfl ?_);refine goesL_ (some 6) rfl rfl Try.func100 (by kernel_rfl) rfl #[.int .i64 a0] rfl (by (try simp only [zz26,zz27,zz28]);first | done | rfl | (simp only [zz24,zz25];rfl)) ?_;(with_reducible refine (cmp_isNaN_int.calls a0 true _ A3.out).mono ?_);rintro e w' ⟨rfl,⟨nd,rfl⟩⟩;refine ⟨_,rfl,?_⟩) | (go_at_call 100;(with_reducible refine (cmp_isNaN_int.calls a1 false _ A5.out).mono ?_);rintro e w' ⟨rfl,⟨nd,rfl⟩⟩))
   go_ret
   exact ⟨by first | rfl | (simp;done) | (simp [*];done),by repeat (first | exact Drawn0.refl _ | apply Drawn0.step)⟩
 ·replace c4:=Bool.eq_false_iff.mpr c4
  subst c4
  have H1:(some (decide (a0 < a1)))=some r:=by rw [if_neg (show ¬ (false=true) by decide)] at H;exact H
  clear H
  have H:=H1
  clear H1
  obtain rfl:=Option.some.inj H
  go_enter Try.func86,Try.ntmps86
  go_wp2_with (first | ((with_reducible refine gate_callee (f:=100) rfl ?_);refine goesL_ (some 6) rfl rfl Try.func100 (by kernel_rfl) rfl #[.int .i64 a0] rfl (by (try simp only [zz26,zz27,zz28]);first | done | rfl | (simp only [zz24,zz25];rfl)) ?_;(with_reducible refine (cmp_isNaN_int.calls a0 false _ A3.out).mono ?_);rintro e w' ⟨rfl,⟨nd,rfl⟩⟩;refine ⟨_,rfl,?_⟩))
  go_ret
  exact ⟨by first | rfl | (simp;done) | (simp [*];done),by repeat (first | exact Drawn0.refl _ | apply Drawn0.step)⟩

-- NOT PRINTED: function 80 (slices_insertionSortOrdered_int)

-- NOT PRINTED: function 95 (slices_siftDownOrdered_int)

-- NOT PRINTED: function 81 (slices_heapSortOrdered_int)

-- NOT PRINTED: function 89 (bits_Len32)

-- NOT PRINTED: function 90 (bits_Len64)

-- NOT PRINTED: function 69 (bits_Len)

-- NOT PRINTED: function 96 (slices_nextPowerOfTwo)

-- NOT PRINTED: function 97 (slices_xorshift_Next)

-- NOT PRINTED: function 82 (slices_breakPatternsOrdered_int)

-- NOT PRINTED: function 102 (slices_order2Ordered_int)

-- NOT PRINTED: function 99 (slices_medianOrdered_int)

-- NOT PRINTED: function 98 (slices_medianAdjacentOrdered_int)

-- NOT PRINTED: function 83 (slices_choosePivotOrdered_int)

-- NOT PRINTED: function 84 (slices_reverseRangeOrdered_int)

-- NOT PRINTED: function 85 (slices_partialInsertionSortOrdered_int)

-- NOT PRINTED: function 87 (slices_partitionEqualOrdered_int)

-- NOT PRINTED: function 88 (slices_partitionOrdered_int)

-- NOT PRINTED: function 68 (slices_pdqsortOrdered_int)

/-! ### slices_Sort_int_int: function 45 (a contract of our own) -/
def sortRen:Go.Shelf.Ren:=⟨fun | 125=>69 | 128=>89 | 129=>90 | 189=>45 | 215=>100 | 216=>86 | 257=>68 | 294=>80 | 295=>81 | 296=>82 | 297=>83 | 298=>84 | 299=>85 | 300=>87 | 301=>88 | 328=>95 | 329=>96 | 330=>97 | 331=>98 | 332=>99 | 343=>102 | n=>n,fun | 0=>0 | 3=>3 | 4=>4 | 5=>5 | 9=>9 | 28=>25 | 46=>87 | 51=>100 | 53=>102 | 131=>39 | 182=>94 | 183=>95 | 218=>106 | 222=>110 | 228=>113 | 229=>114 | n=>n,fun | n=>n⟩
theorem sortLays:Go.Proofs.Lays.n189 Try.prog sortRen:={
 mixed:=by kernel_rfl
 f125:=Try.func69.trans (congrArg some (by kernel_rfl))
 f128:=Try.func89.trans (congrArg some (by kernel_rfl))
 f129:=Try.func90.trans (congrArg some (by kernel_rfl))
 f189:=Try.func45.trans (congrArg some (by kernel_rfl))
 f215:=Try.func100.trans (congrArg some (by kernel_rfl))
 f216:=Try.func86.trans (congrArg some (by kernel_rfl))
 f257:=Try.func68.trans (congrArg some (by kernel_rfl))
 f294:=Try.func80.trans (congrArg some (by kernel_rfl))
 f295:=Try.func81.trans (congrArg some (by kernel_rfl))
 f296:=Try.func82.trans (congrArg some (by kernel_rfl))
 f297:=Try.func83.trans (congrArg some (by kernel_rfl))
 f298:=Try.func84.trans (congrArg some (by kernel_rfl))
 f299:=Try.func85.trans (congrArg some (by kernel_rfl))
 f300:=Try.func87.trans (congrArg some (by kernel_rfl))
 f301:=Try.func88.trans (congrArg some (by kernel_rfl))
 f328:=Try.func95.trans (congrArg some (by kernel_rfl))
 f329:=Try.func96.trans (congrArg some (by kernel_rfl))
 f330:=Try.func97.trans (congrArg some (by kernel_rfl))
 f331:=Try.func98.trans (congrArg some (by kernel_rfl))
 f332:=Try.func99.trans (congrArg some (by kernel_rfl))
 f343:=Try.func102.trans (congrArg some (by kernel_rfl))
 t0:=Try.underlying0
 a0:=Try.isAgg0
 z0:=Try.sizeOf0
 v0:=Try.zeroValue0
 t3:=Try.underlying3
 a3:=Try.isAgg3
 z3:=Try.sizeOf3
 v3:=Try.zeroValue3
 t4:=Try.underlying4
 a4:=Try.isAgg4
 z4:=Try.sizeOf4
 v4:=Try.zeroValue4
 t5:=Try.underlying5
 a5:=Try.isAgg5
 z5:=Try.sizeOf5
 v5:=Try.zeroValue5
 t9:=Try.underlying9
 a9:=Try.isAgg9
 z9:=Try.sizeOf9
 v9:=Try.zeroValue9
 t28:=Try.underlying25
 a28:=Try.isAgg25
 z28:=Try.sizeOf25
 v28:=Try.zeroValue25
 t46:=Try.underlying87
 a46:=Try.isAgg87
 z46:=Try.sizeOf87
 v46:=Try.zeroValue87
 t51:=Try.underlying100
 a51:=Try.isAgg100
 z51:=Try.sizeOf100
 v51:=Try.zeroValue100
 t53:=Try.underlying102
 a53:=Try.isAgg102
 z53:=Try.sizeOf102
 v53:=Try.zeroValue102
 t131:=Try.underlying39
 a131:=Try.isAgg39
 z131:=Try.sizeOf39
 v131:=Try.zeroValue39
 t182:=Try.underlying94
 a182:=Try.isAgg94
 z182:=Try.sizeOf94
 v182:=Try.zeroValue94
 t183:=Try.underlying95
 a183:=Try.isAgg95
 z183:=Try.sizeOf95
 v183:=Try.zeroValue95
 t218:=Try.underlying106
 a218:=Try.isAgg106
 z218:=Try.sizeOf106
 v218:=Try.zeroValue106
 t222:=Try.underlying110
 a222:=Try.isAgg110
 z222:=Try.sizeOf110
 v222:=Try.zeroValue110
 t228:=Try.underlying113
 a228:=Try.isAgg113
 z228:=Try.sizeOf113
 v228:=Try.zeroValue113
 t229:=Try.underlying114
 a229:=Try.isAgg114
 z229:=Try.sizeOf114
 v229:=Try.zeroValue114 }
/-- What slices.Sort does at whole numbers, as the library tells it. -/
theorem sortInts (blk off cap:Nat) (zs:List Int) (w:World) (hH:Go.Sort.Holds (Value.int .i64) w blk off zs.toArray) (hb:blk < w.heap.size) (hz:zs.length < 4611686018427387904) :
    Calls Try.prog 45 #[.slice (some ⟨blk,off,none⟩) zs.length cap] w fun e w' =>
      e=.returned (.tuple #[])∧∃ n os,w'=Go.Sort.grow (Go.Sort.putRow (Value.int .i64) (Go.Sort.ahead w n) blk off (zs.mergeSort fun x y=>decide (x≤y)).toArray) os:=Any.slices_Sort_int sortLays blk off cap zs w hH hb hz
theorem sortNone (p:Option Addr) (cap:Nat) (W:World):Calls Try.prog 45 #[.slice p 0 cap] W fun e w'=>e=.returned (.tuple #[])∧w'=W:=Any.slices_Sort_int_none sortLays p cap W
def slices_Sort_int_int.f (l0:List Int):Option (List Int):=if l0.length < 4611686018427387904 then some (l0.mergeSort fun x y=>decide (x≤y)) else none
theorem slices_Sort_int_int.calls (P0_:Nat→Prop) (u9000_:Value) (l0:List Int) (r:List Int) (w0 w:World) (hB:Below w0.heap.size w0 w) (ho0:Kd.R (Kd.int .i64) 3 w w0.heap.size P0_ u9000_ l0) (h:slices_Sort_int_int.f l0=some r) :
    Calls Try.prog 45 #[u9000_] w fun e w'=>e=.returned (.tuple #[])∧Kd.R (Kd.int .i64) 3 w' w0.heap.size (fun k_=>(P0_ k_ ∨ w.heap.size≤k_)) u9000_ r∧Below w0.heap.size w0 w'∧Kept w w' (fun k_=>P0_ k_):=by
  unfold slices_Sort_int_int.f at h
  by_cases hl:l0.length < 4611686018427387904
  case neg=>rw [if_neg hl] at h;exact absurd h (by simp)
  rw [if_pos hl] at h
  obtain rfl:=Option.some.inj h
  have hml:(l0.mergeSort fun x y=>decide (x≤y)).length=l0.length:=List.length_mergeSort _
  have ho:=Kd.own_of_R ho0
  rcases ho.2 with ⟨rfl,hz⟩ | ⟨gb,cp,cur,rfl,hbase,hgb,r1,r2,r3,r4⟩
  · obtain rfl:l0=[]:=List.eq_nil_of_length_eq_zero hz
    refine (sortNone none 0 w).mono ?_
    rintro e w' ⟨rfl,rfl⟩
    exact ⟨rfl,by simpa using Kd.R_nil _ _ _ _ _,hB,Kept.refl _ _⟩
  · have hH:Go.Sort.Holds (Value.int .i64) w gb 0 l0.toArray:=holds_of_blockI hgb (by rw [Nat.mul_one] at r4;exact r4)
    refine (sortInts gb 0 cp l0 w hH (Array.getElem?_eq_some_iff.1 hgb).1 hl).mono ?_
    rintro e w' ⟨rfl,nn,os,rfl⟩
    have hp:P0_ gb:=ho0.1 gb (by simp [Value.ownBlock])
    refine ⟨rfl,Kd.R_of_own (enc:=Value.int .i64) (h1:=fun _=>rfl) (by rw [hml];exact ownsRow_sortedI hml hbase hgb r1 r2 r3) (fun k hk=>.inl ?_),hB.grown (grownBy_sortedI _) hB.size (fun j hj=>by cases hj;exact hbase),Kept.of_grown (grownBy_sortedI _) (Kept.refl _ _) (fun k hk=>.inl ?_)⟩
    · have:gb=k:=by simpa [Value.ownBlock] using hk
      rw [← this];exact hp
    · cases hk;exact hp

/-! ### impl_GrowGroup: function 13 -/
def impl_GrowGroup.l0:Nat→List Int→List Int→Int→Int→Option (List Int × Bool)
 | 0,_,_,_,_=>none
 | k+1,x8,x9,x25,x26=>if x26 < x25 then ((slices_Clone_int_int.f x9).bind fun t292=>(if t292.length < 17592186044416 then ((some (t292 ++ [x26]:List Int)).bind fun y295=>((slices_Contains_int_int.f k x9 x26).bind fun t298=>(if t298=true then (impl_GrowGroup.l0 k x8 x9 x25 (wrap64 (x26+1))) else ((impl_table_isGroup.f k x8 y295).bind fun t299=>(if t299=true then (impl_GrowGroup.l0 k x8 y295 x25 (wrap64 (x26+1))) else (impl_GrowGroup.l0 k x8 x9 x25 (wrap64 (x26+1)))))))) else (none))) else ((slices_Sort_int_int.f x9).bind fun t291=>(some (t291,true)))
def impl_GrowGroup.f (k:Nat) (a0_0:Int) (l0_1:List (S79)) (l1:List Int):Option (List Int × Bool):=(impl_IsGroup.f k a0_0 l0_1 l1).bind fun bt283=>(if bt283.1=true then ((impl_Party_table.f k a0_0 l0_1).bind fun t285=>((slices_Clone_int_int.f l1).bind fun t288=>(impl_GrowGroup.l0 k t285 t288 a0_0 0))) else (some (([]:List Int),false)))
theorem impl_GrowGroup.mono_l:∀ k,(∀ y0 y1 y2 y3,LeO (impl_GrowGroup.l0 k y0 y1 y2 y3) (impl_GrowGroup.l0 (k+1) y0 y1 y2 y3))
 | 0=>fun _ _ _ _ r h=>by simp [impl_GrowGroup.l0] at h
 | k+1=>by
  have ih0:=impl_GrowGroup.mono_l k
  ·intro y0 y1 y2 y3
   unfold impl_GrowGroup.l0
   repeat' first
   | (with_reducible exact ih0 _ _ _ _)
   | (with_reducible exact impl_IsGroup.mono _ _ _ _)
   | (with_reducible exact impl_Party_table.mono _ _ _)
   | (with_reducible exact impl_table_isGroup.mono _ _ _)
   | (with_reducible exact slices_Contains_int_int.mono _ _ _)
   | (with_reducible exact LeO.refl _)
   | (with_reducible exact LeO.none _)
   | (with_reducible refine LeO.ite ?_ ?_)
   | (with_reducible refine LeO.bind ?_ (fun _=>?_))
   | exact ih0 _ _ _ _
   | exact impl_IsGroup.mono _ _ _ _
   | exact impl_Party_table.mono _ _ _
   | exact impl_table_isGroup.mono _ _ _
   | exact slices_Contains_int_int.mono _ _ _
   | exact LeO.none _
   | refine LeO.ite ?_ ?_
   | refine LeO.bind ?_ (fun _=>?_)
theorem impl_GrowGroup.mono:∀ a0 a1 a2 k,LeO (impl_GrowGroup.f k a0 a1 a2) (impl_GrowGroup.f (k+1) a0 a1 a2):=by
 intro a0 a1 a2 k
 have ih0:=impl_GrowGroup.mono_l k
 unfold impl_GrowGroup.f
 repeat' first
   | (with_reducible exact ih0 _ _ _ _)
   | (with_reducible exact impl_IsGroup.mono _ _ _ _)
   | (with_reducible exact impl_Party_table.mono _ _ _)
   | (with_reducible exact impl_table_isGroup.mono _ _ _)
   | (with_reducible exact slices_Contains_int_int.mono _ _ _)
   | (with_reducible exact LeO.refl _)
   | (with_reducible exact LeO.none _)
   | (with_reducible refine LeO.ite ?_ ?_)
   | (with_reducible refine LeO.bind ?_ (fun _=>?_))
   | exact ih0 _ _ _ _
   | exact impl_IsGroup.mono _ _ _ _
   | exact impl_Party_table.mono _ _ _
   | exact impl_table_isGroup.mono _ _ _
   | exact slices_Contains_int_int.mono _ _ _
   | exact LeO.none _
   | refine LeO.ite ?_ ?_
   | refine LeO.bind ?_ (fun _=>?_)
set_option maxHeartbeats 8000000 in
set_option maxRecDepth 100000 in
theorem impl_GrowGroup.calls (k:Nat) (a0_0:Int) (A0_1:Option Addr) (c0_1:Nat) (l0_1:List (S79)) (A1:Option Addr) (c1:Nat) (l1:List Int) (r1:List Int) (r2:Bool) (w:World) (hr0_1:Kd.C k79 w A0_1 l0_1.length l0_1) (hc0_1:l0_1.length≤c0_1) (hr1:Kd.C (Kd.int .i64) w A1 l1.length l1) (hc1:l1.length≤c1) (h:impl_GrowGroup.f k a0_0 l0_1 l1=some (r1,r2)) :
  Calls Try.prog 13 #[.agg #[.int .i64 a0_0,.slice A0_1 l0_1.length c0_1],.slice A1 l1.length c1] w fun e w'=>∃ v0_:Value,e=.returned (.tuple #[v0_,.bool r2])∧Kd.R (Kd.int .i64) 3 w' w.heap.size (fun _=>True) v0_ r1∧Below w.heap.size w w':=by
 have hu31:=Try.underlying31
 have HR0_1:=zz31 hr0_1
 have HC0_1:=zz31 hc0_1
 clear hr0_1 hc0_1
 have HR1:=zz31 hr1
 have HC1:=zz31 hc1
 clear hr1 hc1
 have HB:=zz31 (Below.refl w.heap.size w)
 have H:((impl_IsGroup.f k a0_0 l0_1 l1).bind fun bt283=>(if bt283.1=true then ((impl_Party_table.f k a0_0 l0_1).bind fun t285=>((slices_Clone_int_int.f l1).bind fun t288=>(impl_GrowGroup.l0 k t285 t288 a0_0 0))) else (some (([]:List Int),false))))=some (r1,r2):=h
 clear h
 replace H:=zz30.mp H
 obtain ⟨⟨t283,t284⟩,A30,H⟩:=H
 replace H:(if t283=true then ((impl_Party_table.f k a0_0 l0_1).bind fun t285=>((slices_Clone_int_int.f l1).bind fun t288=>(impl_GrowGroup.l0 k t285 t288 a0_0 0))) else (some (([]:List Int),false)))=some (r1,r2):=H
 have A3:=zz31 A30
 clear A30
 by_cases c4:t283=true
 ·subst c4
  have H1:((impl_Party_table.f k a0_0 l0_1).bind fun t285=>((slices_Clone_int_int.f l1).bind fun t288=>(impl_GrowGroup.l0 k t285 t288 a0_0 0)))=some (r1,r2):=by rw [if_pos rfl] at H;exact H
  clear H
  have H:=H1
  clear H1
  replace H:=zz30.mp H
  obtain ⟨t285,A50,H⟩:=H
  replace H:((slices_Clone_int_int.f l1).bind fun t288=>(impl_GrowGroup.l0 k t285 t288 a0_0 0))=some (r1,r2):=H
  have A5:=zz31 A50
  clear A50
  replace H:=zz30.mp H
  obtain ⟨t288,A60,H⟩:=H
  replace H:(impl_GrowGroup.l0 k t285 t288 a0_0 0)=some (r1,r2):=H
  have A6:=zz31 A60
  clear A60
  have H':=zz31 H
  clear H
  go_enter Try.func13,Try.ntmps13
  go_wp2_with (first | ((with_reducible refine gate_dst (N:=2) rfl ?_);refine box_event ?hg (N:=2) ?hd (cs:=#[.int .i64 a0_0,.slice A0_1 l0_1.length c0_1]) (t:=31) ?hr ?_;(case hd=>rfl);(case hg=>rfl);(case hr=>first | (go_simp;done) | (go_simp;rfl));intro gb282 hg w7 hbox hb;have n0_:=zz31 (zz4 (by repeat first | exact HB.out | apply zz2 | apply zz0 | apply zz1) hb);have n1_:=zz31 (hbox);have n2_:=zz31 ((by rw [hg];exact (zz5 (by repeat first | exact HB.out | apply zz2 | apply zz0 | apply zz1)):w.heap.size≤gb282));have n3_:=zz31 ((by rw [hg];exact (zz5 (by repeat first | exact HB.out | apply zz2 | apply zz0 | apply zz1)):w.heap.size≤gb282));clear HB;have HB:=n0_;have BK282:=n1_;have GW282:=n2_;have GE282:=n3_;clear n0_ n1_ n2_ n3_;clear hb hbox hg;have hcz8_0:w7.cell? ⟨gb282,0,none⟩=some (.int .i64 a0_0):=(zz9 BK282.out 0).trans rfl;have hcz8_1:w7.cell? ⟨gb282,1,none⟩=some (.slice A0_1 l0_1.length c0_1):=(zz9 BK282.out 1).trans rfl;have hfz8_0:=zz10 BK282.out 0;have hfz8_1:=zz10 BK282.out 1) | ((with_reducible refine gate_callee (f:=40) rfl ?_);refine goesL_ (some 15) rfl rfl Try.func40 (by kernel_rfl) rfl #[.agg #[.int .i64 a0_0,.slice A0_1 l0_1.length c0_1],.slice A1 l1.length c1] rfl (by (try simp only [zz26,zz27,zz28]);first | done | rfl | (simp only [zz24,zz25];rfl)) ?_;(with_reducible refine (impl_IsGroup.calls k a0_0 _ _ l0_1 _ _ l1 true t284 _ ?side1 ?side2 ?side3 ?side4 A3.out).mono ?_);(case side1=>repeat (first | exact (Kd.C_below HR0_1.out HB.out) | (with_reducible refine zz18 ?_ _) | (with_reducible refine zz19 ?_ _) | (with_reducible refine zz20 ?_)));(case side2=>exact HC0_1.out);(case side3=>repeat (first | exact (Kd.C_below HR1.out HB.out) | (with_reducible refine zz18 ?_ _) | (with_reducible refine zz19 ?_ _) | (with_reducible refine zz20 ?_)));(case side4=>exact HC1.out);rintro e w9 ⟨rfl,hb⟩;refine ⟨_,rfl,?_⟩;have n0_:=zz31 (zz11 (g:=gb282) (o:=.cells #[.int .i64 a0_0,.slice A0_1 l0_1.length c0_1] 31 (0,0)) (by (with_reducible repeat (first | refine zz6 ?_ _ | refine zz7 ?_ | refine zz8 ?_ _));exact BK282.out) hb);have n1_:=zz31 (zz4 (by repeat first | exact HB.out | apply zz2 | apply zz0 | apply zz1 | refine zz3 ?_ GE282.out) hb);clear BK282;clear HB;have BK282:=n0_;have HB:=n1_;clear n0_ n1_;(try clear hb);(try clear hb2);(try clear hk);(try clear hi);have hcz10_0:w9.cell? ⟨gb282,0,none⟩=some (.int .i64 a0_0):=(zz9 BK282.out 0).trans rfl;have hcz10_1:w9.cell? ⟨gb282,1,none⟩=some (.slice A0_1 l0_1.length c0_1):=(zz9 BK282.out 1).trans rfl;have hfz10_0:=zz10 BK282.out 0;have hfz10_1:=zz10 BK282.out 1) | ((with_reducible refine gate_callee (f:=41) rfl ?_);refine goesL_ (some 21) rfl rfl Try.func41 (by kernel_rfl) rfl #[.agg #[.int .i64 a0_0,.slice A0_1 l0_1.length c0_1]] rfl (by (try simp only [zz26,zz27,zz28]);first | done | rfl | (simp only [zz24,zz25];rfl)) ?_;(with_reducible refine (impl_Party_table.calls k a0_0 _ _ l0_1 t285 _ ?side1 ?side2 A5.out).mono ?_);(case side1=>repeat (first | exact (Kd.C_below HR0_1.out HB.out) | (with_reducible refine zz18 ?_ _) | (with_reducible refine zz19 ?_ _) | (with_reducible refine zz20 ?_)));(case side2=>exact HC0_1.out);rintro e w11 ⟨v286,rfl,ho0,hb⟩;refine ⟨_,rfl,?_⟩;have n0_:=zz31 (Kd.R_lower ho0 (zz5 (by repeat first | exact HB.out | apply zz2 | apply zz0 | apply zz1 | refine zz3 ?_ GE282.out)));have n1_:=zz31 (zz11 (g:=gb282) (o:=.cells #[.int .i64 a0_0,.slice A0_1 l0_1.length c0_1] 31 (0,0)) (by (with_reducible repeat (first | refine zz6 ?_ _ | refine zz7 ?_ | refine zz8 ?_ _));exact BK282.out) hb);have n2_:=zz31 (zz4 (by repeat first | exact HB.out | apply zz2 | apply zz0 | apply zz1 | refine zz3 ?_ GE282.out) hb);clear BK282;clear HB;have HO287:=n0_;have BK282:=n1_;have HB:=n2_;clear n0_ n1_ n2_;(try clear hb);(try clear hb2);(try clear hk);(try clear hi);(try clear ho0)) | ((with_reducible refine gate_callee (f:=42) rfl ?_);refine goesL_ (some 23) rfl rfl Try.func42 (by kernel_rfl) rfl #[.slice A1 l1.length c1] rfl (by (try simp only [zz26,zz27,zz28]);first | done | rfl | (simp only [zz24,zz25];rfl)) ?_;(with_reducible refine (slices_Clone_int_int.calls _ _ l1 t288 _ ?side1 ?side2 A6.out).mono ?_);(case side1=>repeat (first | exact (Kd.C_below HR1.out HB.out) | (with_reducible refine zz18 ?_ _) | (with_reducible refine zz19 ?_ _) | (with_reducible refine zz20 ?_)));(case side2=>exact HC1.out);rintro e w12 ⟨v289,rfl,ho0,hb⟩;refine ⟨_,rfl,?_⟩;have n0_:=zz31 (Kd.R_below (by (with_reducible repeat (first | apply zz12 | apply zz13 | apply zz14));exact HO287.out) hb);have n1_:=zz31 (Kd.R_lower ho0 (zz5 (by repeat first | exact HB.out | apply zz2 | apply zz0 | apply zz1 | refine zz3 ?_ GE282.out)));have n2_:=zz31 (zz11 (g:=gb282) (o:=.cells #[.int .i64 a0_0,.slice A0_1 l0_1.length c0_1] 31 (0,0)) (by (with_reducible repeat (first | refine zz6 ?_ _ | refine zz7 ?_ | refine zz8 ?_ _));exact BK282.out) hb);have n3_:=zz31 (zz4 (by repeat first | exact HB.out | apply zz2 | apply zz0 | apply zz1 | refine zz3 ?_ GE282.out) hb);clear HO287;clear BK282;clear HB;have HO287:=n0_;have HO290:=n1_;have BK282:=n2_;have HB:=n3_;clear n0_ n1_ n2_ n3_;(try clear hb);(try clear hb2);(try clear hk);(try clear hi);(try clear ho0);have hcz13_0:w12.cell? ⟨gb282,0,none⟩=some (.int .i64 a0_0):=(zz9 BK282.out 0).trans rfl;have hcz13_1:w12.cell? ⟨gb282,1,none⟩=some (.slice A0_1 l0_1.length c0_1):=(zz9 BK282.out 1).trans rfl;have hfz13_0:=zz10 BK282.out 0;have hfz13_1:=zz10 BK282.out 1))
  go_loopg [9,26] k (fun kq v9 v26 w'=>∃ (x9_1:List Int) (x26_1:Int),v26=.int .i64 x26_1∧Aside0 (impl_GrowGroup.l0 kq t285 x9_1 a0_0 x26_1=some (r1,r2))∧Aside0 (kq≤k)∧Aside0 (Kd.R (Kd.int .u16) 83 w' w.heap.size (fun _=>True) v286 t285)∧Aside0 (Kd.R (Kd.int .i64) 3 w' w.heap.size (fun _=>True) v9 x9_1)∧Aside0 (w'.heap[gb282]?=some (.cells #[.int .i64 a0_0,(.slice A0_1 l0_1.length c0_1)] 31 (0,0)))∧Aside0 (Below w.heap.size w w'))
  case atStart=>exact ⟨(t288),(0),(by first | rfl | (simp;done) | (simp [*];done)),H',⟨Nat.le_refl _⟩,⟨by (with_reducible repeat (first | apply zz12 | apply zz13 | apply zz14));exact HO287.out⟩,⟨by (with_reducible repeat (first | apply zz12 | apply zz13 | apply zz14));exact HO290.out⟩,⟨by (with_reducible repeat (first | refine zz6 ?_ _ | refine zz7 ?_ | refine zz8 ?_ _));exact BK282.out⟩,⟨by repeat first | exact HB.out | apply zz2 | apply zz0 | apply zz1 | refine zz3 ?_ GE282.out⟩⟩
  case round =>
   clear H'
   try clear c1
   try clear p2
   try clear c4
   try clear c13
   try clear hcz10_0
   try clear hcz10_1
   try clear hcz13_0
   try clear hcz13_1
   try clear hcz8_0
   try clear hcz8_1
   try clear hfz10_0
   try clear hfz10_1
   try clear hfz13_0
   try clear hfz13_1
   try clear hfz8_0
   try clear hfz8_1
   obtain ⟨x9_1,x26_1,rfl,HA,HK1,HO_8,HO_9,BK282,HB⟩:=hrel
   cases gk with
   | zero=>exact absurd HA.out (by simp [impl_GrowGroup.l0])
   | succ k1 =>
    have H:=HA.out
    clear HA
    simp only [impl_GrowGroup.l0] at H
    by_cases c14:x26_1 < a0_0
    ·rw [if_pos c14] at H
     have c14b0:decide (x26_1 < a0_0)=true:=decide_eq_true c14
     clear c14
     replace H:=zz30.mp H
     obtain ⟨t292,A150,H⟩:=H
     replace H:(if t292.length < 17592186044416 then ((some (t292 ++ [x26_1]:List Int)).bind fun y295=>((slices_Contains_int_int.f k1 x9_1 x26_1).bind fun t298=>(if t298=true then (impl_GrowGroup.l0 k1 t285 x9_1 a0_0 (wrap64 (x26_1+1))) else ((impl_table_isGroup.f k1 t285 y295).bind fun t299=>(if t299=true then (impl_GrowGroup.l0 k1 t285 y295 a0_0 (wrap64 (x26_1+1))) else (impl_GrowGroup.l0 k1 t285 x9_1 a0_0 (wrap64 (x26_1+1)))))))) else (none))=some (r1,r2):=H
     have A15:=zz31 A150
     clear A150
     by_cases c16:t292.length < 17592186044416
     ·rw [if_pos c16] at H
      have LMc16:=zz31 c16
      clear c16
      obtain ⟨y295,hy295⟩:∃ y_:List Int,y_=(t292 ++ [x26_1]):=⟨_,rfl⟩
      replace H:((slices_Contains_int_int.f k1 x9_1 x26_1).bind fun t298=>(if t298=true then (impl_GrowGroup.l0 k1 t285 x9_1 a0_0 (wrap64 (x26_1+1))) else ((impl_table_isGroup.f k1 t285 y295).bind fun t299=>(if t299=true then (impl_GrowGroup.l0 k1 t285 y295 a0_0 (wrap64 (x26_1+1))) else (impl_GrowGroup.l0 k1 t285 x9_1 a0_0 (wrap64 (x26_1+1)))))))=some (r1,r2):=by first | (rw [hy295];with_reducible exact H) | (have H2_:=(Option.bind_some _ _).symm.trans H;rw [hy295];with_reducible exact H2_) | (have H2_:=(Option.bind_some _ _).symm.trans H;with_reducible exact H2_) | with_reducible exact H | (rw [hy295];exact H) | exact H
      have Ny295:=zz31 hy295
      clear hy295
      replace H:=zz30.mp H
      obtain ⟨t298,A170,H⟩:=H
      replace H:(if t298=true then (impl_GrowGroup.l0 k1 t285 x9_1 a0_0 (wrap64 (x26_1+1))) else ((impl_table_isGroup.f k1 t285 y295).bind fun t299=>(if t299=true then (impl_GrowGroup.l0 k1 t285 y295 a0_0 (wrap64 (x26_1+1))) else (impl_GrowGroup.l0 k1 t285 x9_1 a0_0 (wrap64 (x26_1+1))))))=some (r1,r2):=H
      have A17:=zz31 A170
      clear A170
      by_cases c18:t298=true
      ·subst c18
       have H1:(impl_GrowGroup.l0 k1 t285 x9_1 a0_0 (wrap64 (x26_1+1)))=some (r1,r2):=by rw [if_pos rfl] at H;exact H
       clear H
       have H:=H1
       clear H1
       have H':=zz31 H
       clear H
       obtain ⟨Ao19,co19,eo19⟩:=Kd.R_slice HO_9.out
       subst eo19
       go_wp2_with (first | ((with_reducible refine gate_callee (f:=42) rfl ?_);refine goesL_ (some 30) rfl rfl Try.func42 (by kernel_rfl) rfl #[.slice Ao19 x9_1.length co19] rfl (by (try simp only [zz26,zz27,zz28]);first | done | rfl | (simp only [zz24,zz25];rfl)) ?_;(with_reducible refine (slices_Clone_int_int.calls _ _ x9_1 t292 _ ?side1 ?side2 A15.out).mono ?_);(case side1=>repeat (first | exact (Kd.R_reads' HO_9.out).2.2 | (with_reducible refine zz18 ?_ _) | (with_reducible refine zz19 ?_ _) | (with_reducible refine zz20 ?_)));(case side2=>exact (Kd.R_reads' HO_9.out).2.1);rintro e w20 ⟨v293,rfl,ho0,hb⟩;refine ⟨_,rfl,?_⟩;have n0_:=zz31 (Kd.R_below (by (with_reducible repeat (first | apply zz12 | apply zz13 | apply zz14));exact HO_8.out) hb);have n1_:=zz31 (Kd.R_elder' (by (with_reducible repeat (first | apply zz12 | apply zz13 | apply zz14));exact HO_9.out) (Kd.R_base ho0) hb);have n2_:=zz31 (Kd.R_lower (Kd.R_new' ho0 (Kd.R_lt (by (with_reducible repeat (first | apply zz12 | apply zz13 | apply zz14));exact HO_9.out))) (zz5 (by repeat first | exact HB.out | apply zz2 | apply zz0 | apply zz1 | refine zz3 ?_ GE282.out)));have n3_:=zz31 (zz11 (g:=gb282) (o:=.cells #[.int .i64 a0_0,.slice A0_1 l0_1.length c0_1] 31 (0,0)) (by (with_reducible repeat (first | refine zz6 ?_ _ | refine zz7 ?_ | refine zz8 ?_ _));exact BK282.out) hb);have n4_:=zz31 (zz4 (by repeat first | exact HB.out | apply zz2 | apply zz0 | apply zz1 | refine zz3 ?_ GE282.out) hb);clear HO_8;clear HO_9;clear BK282;clear HB;have HO_8:=n0_;have HO_9:=n1_;have HO294:=n2_;have BK282:=n3_;have HB:=n4_;clear n0_ n1_ n2_ n3_ n4_;(try clear hb);(try clear hb2);(try clear hk);(try clear hi);(try clear ho0)) | ((with_reducible refine gate_builtin (b:=.append) (xs:=#[.tmp 30,.tmp 32]) rfl ?_);at_builtin;refine Kd.R_append (Kd.int .i64) (w0:=w) w.heap.size rfl (.tmp 30) (.tmp 32) 25 3 (.int .i64 0) 8 rfl Try.underlying25 info3 rfl (by decide) (by omega) v293 t292 x26_1 [.int .i64 x26_1] (fun k_=>some k_ ≠ (.slice Ao19 x9_1.length co19:Value).ownBlock) (fun _=>False) rfl rfl ?aP (fun _ hk=>hk.elim) ?aF ?aO ?aB ?aS ?aL ?_;(case aP=>exact rfl);(case aB=>exact (by repeat first | exact HB.out | apply zz2 | apply zz0 | apply zz1 | refine zz3 ?_ GE282.out));(case aF=>exact (fun k_ hk=>Kd.fresh' (Kd.R_lt (by (with_reducible repeat (first | apply zz12 | apply zz13 | apply zz14));exact HO_9.out)) k_ hk));(case aO=>exact (by (with_reducible repeat (first | apply zz12 | apply zz13 | apply zz14));exact Kd.R_mono HO294.out (fun _ hk=>hk.2)));(case aS=>exact (zz5 (by repeat first | exact HB.out | apply zz2 | apply zz0 | apply zz1 | refine zz3 ?_ GE282.out)));(case aL=>have:=LMc16.out;omega);intro v296 w21 ho hb hg hat;rw [← Ny295.out] at ho;have n0_:=zz31 (Kd.R_over' (by (with_reducible repeat (first | apply zz12 | apply zz13 | apply zz14));exact HO_8.out) (Kd.R_typed (by (with_reducible repeat (first | apply zz12 | apply zz13 | apply zz14));exact HO294.out)) (by decide) hg);have n1_:=zz31 (Kd.R_after (ok:=(fun _=>True)) (by (with_reducible repeat (first | apply zz12 | apply zz13 | apply zz14));exact HO_9.out) hg hat);have n2_:=zz31 (blk_grown (g:=gb282) (o:=.cells #[.int .i64 a0_0,.slice A0_1 l0_1.length c0_1] 31 (0,0)) (by (with_reducible repeat (first | refine zz6 ?_ _ | refine zz7 ?_ | refine zz8 ?_ _));exact BK282.out) hg (Kd.R_ne HO294.out BK282.out (by decide)));have n3_:=zz31 (hb);have n4_:=zz31 (ho);clear HO_8;clear HO_9;clear BK282;clear HB;clear HO294;have HO_8:=n0_;have HO_9:=n1_;have BK282:=n2_;have HB:=n3_;have HO297:=n4_;clear n0_ n1_ n2_ n3_ n4_;clear ho hb hg hat) | ((with_reducible refine gate_callee (f:=43) rfl ?_);refine goesL_ (some 36) rfl rfl Try.func43 (by kernel_rfl) rfl #[.slice Ao19 x9_1.length co19,.int .i64 x26_1] rfl (by (try simp only [zz26,zz27,zz28]);first | done | rfl | (simp only [zz24,zz25];rfl)) ?_;(with_reducible refine (slices_Contains_int_int.calls k1 _ _ x9_1 x26_1 true _ ?side1 ?side2 A17.out).mono ?_);(case side1=>repeat (first | exact (Kd.R_reads' HO_9.out).2.2 | (with_reducible refine zz18 ?_ _) | (with_reducible refine zz19 ?_ _) | (with_reducible refine zz20 ?_)));(case side2=>exact (Kd.R_reads' HO_9.out).2.1);rintro e w' ⟨rfl,⟨nd,rfl⟩⟩;refine ⟨_,rfl,?_⟩))
       go_roundg k1
       case measure=>have:=HK1.out;omega
       case rel=>exact ⟨(x9_1),(wrap64 (x26_1+1)),(by first | rfl | (simp;done) | (simp [*];done)),H',⟨by have:=HK1.out;omega⟩,⟨by (with_reducible repeat (first | apply zz12 | apply zz13 | apply zz14));exact HO_8.out⟩,⟨by (with_reducible repeat (first | apply zz12 | apply zz13 | apply zz14));exact Kd.R_mono HO_9.out (fun _ hk=>trivial)⟩,⟨by (with_reducible repeat (first | refine zz6 ?_ _ | refine zz7 ?_ | refine zz8 ?_ _));exact BK282.out⟩,⟨by repeat first | exact HB.out | apply zz2 | apply zz0 | apply zz1 | refine zz3 ?_ GE282.out⟩⟩
      ·replace c18:=Bool.eq_false_iff.mpr c18
       subst c18
       have H1:((impl_table_isGroup.f k1 t285 y295).bind fun t299=>(if t299=true then (impl_GrowGroup.l0 k1 t285 y295 a0_0 (wrap64 (x26_1+1))) else (impl_GrowGroup.l0 k1 t285 x9_1 a0_0 (wrap64 (x26_1+1)))))=some (r1,r2):=by rw [if_neg (show ¬ (false=true) by decide)] at H;exact H
       clear H
       have H:=H1
       clear H1
       replace H:=zz30.mp H
       obtain ⟨t299,A220,H⟩:=H
       replace H:(if t299=true then (impl_GrowGroup.l0 k1 t285 y295 a0_0 (wrap64 (x26_1+1))) else (impl_GrowGroup.l0 k1 t285 x9_1 a0_0 (wrap64 (x26_1+1))))=some (r1,r2):=H
       have A22:=zz31 A220
       clear A220
       by_cases c23:t299=true
       ·subst c23
        have H1:(impl_GrowGroup.l0 k1 t285 y295 a0_0 (wrap64 (x26_1+1)))=some (r1,r2):=by rw [if_pos rfl] at H;exact H
        clear H
        have H:=H1
        clear H1
        have H':=zz31 H
        clear H
        obtain ⟨Ao24,co24,eo24⟩:=Kd.R_slice HO_9.out
        subst eo24
        go_wp2_with (first | ((with_reducible refine gate_callee (f:=42) rfl ?_);refine goesL_ (some 30) rfl rfl Try.func42 (by kernel_rfl) rfl #[.slice Ao24 x9_1.length co24] rfl (by (try simp only [zz26,zz27,zz28]);first | done | rfl | (simp only [zz24,zz25];rfl)) ?_;(with_reducible refine (slices_Clone_int_int.calls _ _ x9_1 t292 _ ?side1 ?side2 A15.out).mono ?_);(case side1=>repeat (first | exact (Kd.R_reads' HO_9.out).2.2 | (with_reducible refine zz18 ?_ _) | (with_reducible refine zz19 ?_ _) | (with_reducible refine zz20 ?_)));(case side2=>exact (Kd.R_reads' HO_9.out).2.1);rintro e w25 ⟨v293,rfl,ho0,hb⟩;refine ⟨_,rfl,?_⟩;have n0_:=zz31 (Kd.R_below (by (with_reducible repeat (first | apply zz12 | apply zz13 | apply zz14));exact HO_8.out) hb);have n1_:=zz31 (Kd.R_elder' (by (with_reducible repeat (first | apply zz12 | apply zz13 | apply zz14));exact HO_9.out) (Kd.R_base ho0) hb);have n2_:=zz31 (Kd.R_lower (Kd.R_new' ho0 (Kd.R_lt (by (with_reducible repeat (first | apply zz12 | apply zz13 | apply zz14));exact HO_9.out))) (zz5 (by repeat first | exact HB.out | apply zz2 | apply zz0 | apply zz1 | refine zz3 ?_ GE282.out)));have n3_:=zz31 (zz11 (g:=gb282) (o:=.cells #[.int .i64 a0_0,.slice A0_1 l0_1.length c0_1] 31 (0,0)) (by (with_reducible repeat (first | refine zz6 ?_ _ | refine zz7 ?_ | refine zz8 ?_ _));exact BK282.out) hb);have n4_:=zz31 (zz4 (by repeat first | exact HB.out | apply zz2 | apply zz0 | apply zz1 | refine zz3 ?_ GE282.out) hb);clear HO_8;clear HO_9;clear BK282;clear HB;have HO_8:=n0_;have HO_9:=n1_;have HO294:=n2_;have BK282:=n3_;have HB:=n4_;clear n0_ n1_ n2_ n3_ n4_;(try clear hb);(try clear hb2);(try clear hk);(try clear hi);(try clear ho0)) | ((with_reducible refine gate_builtin (b:=.append) (xs:=#[.tmp 30,.tmp 32]) rfl ?_);at_builtin;refine Kd.R_append (Kd.int .i64) (w0:=w) w.heap.size rfl (.tmp 30) (.tmp 32) 25 3 (.int .i64 0) 8 rfl Try.underlying25 info3 rfl (by decide) (by omega) v293 t292 x26_1 [.int .i64 x26_1] (fun k_=>some k_ ≠ (.slice Ao24 x9_1.length co24:Value).ownBlock) (fun _=>False) rfl rfl ?aP (fun _ hk=>hk.elim) ?aF ?aO ?aB ?aS ?aL ?_;(case aP=>exact rfl);(case aB=>exact (by repeat first | exact HB.out | apply zz2 | apply zz0 | apply zz1 | refine zz3 ?_ GE282.out));(case aF=>exact (fun k_ hk=>Kd.fresh' (Kd.R_lt (by (with_reducible repeat (first | apply zz12 | apply zz13 | apply zz14));exact HO_9.out)) k_ hk));(case aO=>exact (by (with_reducible repeat (first | apply zz12 | apply zz13 | apply zz14));exact Kd.R_mono HO294.out (fun _ hk=>hk.2)));(case aS=>exact (zz5 (by repeat first | exact HB.out | apply zz2 | apply zz0 | apply zz1 | refine zz3 ?_ GE282.out)));(case aL=>have:=LMc16.out;omega);intro v296 w26 ho hb hg hat;rw [← Ny295.out] at ho;have n0_:=zz31 (Kd.R_over' (by (with_reducible repeat (first | apply zz12 | apply zz13 | apply zz14));exact HO_8.out) (Kd.R_typed (by (with_reducible repeat (first | apply zz12 | apply zz13 | apply zz14));exact HO294.out)) (by decide) hg);have n1_:=zz31 (Kd.R_after (ok:=(fun _=>True)) (by (with_reducible repeat (first | apply zz12 | apply zz13 | apply zz14));exact HO_9.out) hg hat);have n2_:=zz31 (blk_grown (g:=gb282) (o:=.cells #[.int .i64 a0_0,.slice A0_1 l0_1.length c0_1] 31 (0,0)) (by (with_reducible repeat (first | refine zz6 ?_ _ | refine zz7 ?_ | refine zz8 ?_ _));exact BK282.out) hg (Kd.R_ne HO294.out BK282.out (by decide)));have n3_:=zz31 (hb);have n4_:=zz31 (ho);clear HO_8;clear HO_9;clear BK282;clear HB;clear HO294;have HO_8:=n0_;have HO_9:=n1_;have BK282:=n2_;have HB:=n3_;have HO297:=n4_;clear n0_ n1_ n2_ n3_ n4_;clear ho hb hg hat) | ((with_reducible refine gate_callee (f:=43) rfl ?_);refine goesL_ (some 36) rfl rfl Try.func43 (by kernel_rfl) rfl #[.slice Ao24 x9_1.length co24,.int .i64 x26_1] rfl (by (try simp only [zz26,zz27,zz28]);first | done | rfl | (simp only [zz24,zz25];rfl)) ?_;(with_reducible refine (slices_Contains_int_int.calls k1 _ _ x9_1 x26_1 false _ ?side1 ?side2 A17.out).mono ?_);(case side1=>repeat (first | exact (Kd.R_reads' HO_9.out).2.2 | (with_reducible refine zz18 ?_ _) | (with_reducible refine zz19 ?_ _) | (with_reducible refine zz20 ?_)));(case side2=>exact (Kd.R_reads' HO_9.out).2.1);rintro e w' ⟨rfl,⟨nd,rfl⟩⟩;refine ⟨_,rfl,?_⟩;obtain ⟨Ao27,co27,eo27⟩:=Kd.R_slice HO_8.out;subst eo27;obtain ⟨Ao28,co28,eo28⟩:=Kd.R_slice HO297.out;subst eo28) | (go_at_call 44;(with_reducible refine (impl_table_isGroup.calls k1 _ _ t285 _ _ y295 true _ ?side1 ?side2 ?side3 ?side4 A22.out).mono ?_);(case side1=>repeat (first | exact (Kd.R_reads' HO_8.out).2.2 | (with_reducible refine zz18 ?_ _) | (with_reducible refine zz19 ?_ _) | (with_reducible refine zz20 ?_)));(case side2=>exact (Kd.R_reads' HO_8.out).2.1);(case side3=>repeat (first | exact (Kd.R_reads' HO297.out).2.2 | (with_reducible refine zz18 ?_ _) | (with_reducible refine zz19 ?_ _) | (with_reducible refine zz20 ?_)));(case side4=>exact (Kd.R_reads' HO297.out).2.1);rintro e w' ⟨rfl,⟨nd,rfl⟩⟩))
        go_roundg k1
        case measure=>have:=HK1.out;omega
        case rel=>exact ⟨(y295),(wrap64 (x26_1+1)),(by first | rfl | (simp;done) | (simp [*];done)),H',⟨by have:=HK1.out;omega⟩,⟨by (with_reducible repeat (first | apply zz12 | apply zz13 | apply zz14));exact HO_8.out⟩,⟨by (with_reducible repeat (first | apply zz12 | apply zz13 | apply zz14));exact Kd.R_mono HO297.out (fun _ hk=>trivial)⟩,⟨by (with_reducible repeat (first | refine zz6 ?_ _ | refine zz7 ?_ | refine zz8 ?_ _));exact BK282.out⟩,⟨by repeat first | exact HB.out | apply zz2 | apply zz0 | apply zz1 | refine zz3 ?_ GE282.out⟩⟩
       ·replace c23:=Bool.eq_false_iff.mpr c23
        subst c23
        have H1:(impl_GrowGroup.l0 k1 t285 x9_1 a0_0 (wrap64 (x26_1+1)))=some (r1,r2):=by rw [if_neg (show ¬ (false=true) by decide)] at H;exact H
        clear H
        have H:=H1
        clear H1
        have H':=zz31 H
        clear H
        obtain ⟨Ao29,co29,eo29⟩:=Kd.R_slice HO_9.out
        subst eo29
        go_wp2_with (first | ((with_reducible refine gate_callee (f:=42) rfl ?_);refine goesL_ (some 30) rfl rfl Try.func42 (by kernel_rfl) rfl #[.slice Ao29 x9_1.length co29] rfl (by (try simp only [zz26,zz27,zz28]);first | done | rfl | (simp only [zz24,zz25];rfl)) ?_;(with_reducible refine (slices_Clone_int_int.calls _ _ x9_1 t292 _ ?side1 ?side2 A15.out).mono ?_);(case side1=>repeat (first | exact (Kd.R_reads' HO_9.out).2.2 | (with_reducible refine zz18 ?_ _) | (with_reducible refine zz19 ?_ _) | (with_reducible refine zz20 ?_)));(case side2=>exact (Kd.R_reads' HO_9.out).2.1);rintro e w30 ⟨v293,rfl,ho0,hb⟩;refine ⟨_,rfl,?_⟩;have n0_:=zz31 (Kd.R_below (by (with_reducible repeat (first | apply zz12 | apply zz13 | apply zz14));exact HO_8.out) hb);have n1_:=zz31 (Kd.R_elder' (by (with_reducible repeat (first | apply zz12 | apply zz13 | apply zz14));exact HO_9.out) (Kd.R_base ho0) hb);have n2_:=zz31 (Kd.R_lower (Kd.R_new' ho0 (Kd.R_lt (by (with_reducible repeat (first | apply zz12 | apply zz13 | apply zz14));exact HO_9.out))) (zz5 (by repeat first | exact HB.out | apply zz2 | apply zz0 | apply zz1 | refine zz3 ?_ GE282.out)));have n3_:=zz31 (zz11 (g:=gb282) (o:=.cells #[.int .i64 a0_0,.slice A0_1 l0_1.length c0_1] 31 (0,0)) (by (with_reducible repeat (first | refine zz6 ?_ _ | refine zz7 ?_ | refine zz8 ?_ _));exact BK282.out) hb);have n4_:=zz31 (zz4 (by repeat first | exact HB.out | apply zz2 | apply zz0 | apply zz1 | refine zz3 ?_ GE282.out) hb);clear HO_8;clear HO_9;clear BK282;clear HB;have HO_8:=n0_;have HO_9:=n1_;have HO294:=n2_;have BK282:=n3_;have HB:=n4_;clear n0_ n1_ n2_ n3_ n4_;(try clear hb);(try clear hb2);(try clear hk);(try clear hi);(try clear ho0)) | ((with_reducible refine gate_builtin (b:=.append) (xs:=#[.tmp 30,.tmp 32]) rfl ?_);at_builtin;refine Kd.R_append (Kd.int .i64) (w0:=w) w.heap.size rfl (.tmp 30) (.tmp 32) 25 3 (.int .i64 0) 8 rfl Try.underlying25 info3 rfl (by decide) (by omega) v293 t292 x26_1 [.int .i64 x26_1] (fun k_=>some k_ ≠ (.slice Ao29 x9_1.length co29:Value).ownBlock) (fun _=>False) rfl rfl ?aP (fun _ hk=>hk.elim) ?aF ?aO ?aB ?aS ?aL ?_;(case aP=>exact rfl);(case aB=>exact (by repeat first | exact HB.out | apply zz2 | apply zz0 | apply zz1 | refine zz3 ?_ GE282.out));(case aF=>exact (fun k_ hk=>Kd.fresh' (Kd.R_lt (by (with_reducible repeat (first | apply zz12 | apply zz13 | apply zz14));exact HO_9.out)) k_ hk));(case aO=>exact (by (with_reducible repeat (first | apply zz12 | apply zz13 | apply zz14));exact Kd.R_mono HO294.out (fun _ hk=>hk.2)));(case aS=>exact (zz5 (by repeat first | exact HB.out | apply zz2 | apply zz0 | apply zz1 | refine zz3 ?_ GE282.out)));(case aL=>have:=LMc16.out;omega);intro v296 w31 ho hb hg hat;rw [← Ny295.out] at ho;have n0_:=zz31 (Kd.R_over' (by (with_reducible repeat (first | apply zz12 | apply zz13 | apply zz14));exact HO_8.out) (Kd.R_typed (by (with_reducible repeat (first | apply zz12 | apply zz13 | apply zz14));exact HO294.out)) (by decide) hg);have n1_:=zz31 (Kd.R_after (ok:=(fun _=>True)) (by (with_reducible repeat (first | apply zz12 | apply zz13 | apply zz14));exact HO_9.out) hg hat);have n2_:=zz31 (blk_grown (g:=gb282) (o:=.cells #[.int .i64 a0_0,.slice A0_1 l0_1.length c0_1] 31 (0,0)) (by (with_reducible repeat (first | refine zz6 ?_ _ | refine zz7 ?_ | refine zz8 ?_ _));exact BK282.out) hg (Kd.R_ne HO294.out BK282.out (by decide)));have n3_:=zz31 (hb);have n4_:=zz31 (ho);clear HO_8;clear HO_9;clear BK282;clear HB;clear HO294;have HO_8:=n0_;have HO_9:=n1_;have BK282:=n2_;have HB:=n3_;have HO297:=n4_;clear n0_ n1_ n2_ n3_ n4_;clear ho hb hg hat) | ((with_reducible refine gate_callee (f:=43) rfl ?_);refine goesL_ (some 36) rfl rfl Try.func43 (by kernel_rfl) rfl #[.slice Ao29 x9_1.length co29,.int .i64 x26_1] rfl (by (try simp only [zz26,zz27,zz28]);first | done | rfl | (simp only [zz24,zz25];rfl)) ?_;(with_reducible refine (slices_Contains_int_int.calls k1 _ _ x9_1 x26_1 false _ ?side1 ?side2 A17.out).mono ?_);(case side1=>repeat (first | exact (Kd.R_reads' HO_9.out).2.2 | (with_reducible refine zz18 ?_ _) | (with_reducible refine zz19 ?_ _) | (with_reducible refine zz20 ?_)));(case side2=>exact (Kd.R_reads' HO_9.out).2.1);rintro e w' ⟨rfl,⟨nd,rfl⟩⟩;refine ⟨_,rfl,?_⟩;obtain ⟨Ao32,co32,eo32⟩:=Kd.R_slice HO_8.out;subst eo32;obtain ⟨Ao33,co33,eo33⟩:=Kd.R_slice HO297.out;subst eo33) | (go_at_call 44;(with_reducible refine (impl_table_isGroup.calls k1 _ _ t285 _ _ y295 false _ ?side1 ?side2 ?side3 ?side4 A22.out).mono ?_);(case side1=>repeat (first | exact (Kd.R_reads' HO_8.out).2.2 | (with_reducible refine zz18 ?_ _) | (with_reducible refine zz19 ?_ _) | (with_reducible refine zz20 ?_)));(case side2=>exact (Kd.R_reads' HO_8.out).2.1);(case side3=>repeat (first | exact (Kd.R_reads' HO297.out).2.2 | (with_reducible refine zz18 ?_ _) | (with_reducible refine zz19 ?_ _) | (with_reducible refine zz20 ?_)));(case side4=>exact (Kd.R_reads' HO297.out).2.1);rintro e w' ⟨rfl,⟨nd,rfl⟩⟩))
        go_roundg k1
        case measure=>have:=HK1.out;omega
        case rel=>exact ⟨(x9_1),(wrap64 (x26_1+1)),(by first | rfl | (simp;done) | (simp [*];done)),H',⟨by have:=HK1.out;omega⟩,⟨by (with_reducible repeat (first | apply zz12 | apply zz13 | apply zz14));exact HO_8.out⟩,⟨by (with_reducible repeat (first | apply zz12 | apply zz13 | apply zz14));exact Kd.R_mono HO_9.out (fun _ hk=>trivial)⟩,⟨by (with_reducible repeat (first | refine zz6 ?_ _ | refine zz7 ?_ | refine zz8 ?_ _));exact BK282.out⟩,⟨by repeat first | exact HB.out | apply zz2 | apply zz0 | apply zz1 | refine zz3 ?_ GE282.out⟩⟩
     ·rw [if_neg c16] at H
      exact absurd H (by simp)
    ·rw [if_neg c14] at H
     have c14b0:decide (x26_1 < a0_0)=false:=decide_eq_false c14
     clear c14
     replace H:=zz30.mp H
     obtain ⟨t291,A340,H⟩:=H
     replace H:(some (t291,true))=some (r1,r2):=H
     have A34:=zz31 A340
     clear A340
     simp only [Option.some.injEq,Prod.mk.injEq] at H
     obtain ⟨rfl,rfl⟩:=H
     obtain ⟨Ao35,co35,eo35⟩:=Kd.R_slice HO_9.out
     subst eo35
     go_wp2_with (first | ((with_reducible refine gate_callee (f:=45) rfl ?_);refine goesL_ (some 46) rfl rfl Try.func45 (by kernel_rfl) rfl #[.slice Ao35 x9_1.length co35] rfl (by (try simp only [zz26,zz27,zz28]);first | done | rfl | (simp only [zz24,zz25];rfl)) ?_;(with_reducible refine (slices_Sort_int_int.calls (fun k_=>some k_=(.slice Ao35 x9_1.length co35:Value).ownBlock) (.slice Ao35 x9_1.length co35) x9_1 t291 w _ ?side1 ?side2 A34.out).mono ?_);(case side1=>repeat first | exact HB.out | apply zz2 | apply zz0 | apply zz1 | refine zz3 ?_ GE282.out);(case side2=>exact Kd.R_tight rfl HO_9.out);rintro e w36 ⟨rfl,hy0,hb,hkp⟩;refine ⟨_,rfl,?_⟩;have n0_:=zz31 (Kd.R_mono (ok':=fun k_=>True) (Kd.R_keptB ((Kd.R_apart' HO_8.out (Kd.R_typed HO_9.out) (by decide))) hkp (fun k_ hk_ hs_=>(hk_.2) hs_)) (fun k_ hk_=>trivial));have n1_:=zz31 (Kd.R_reok rfl hy0 (fun k_ e_=>HO_9.out.1 k_ e_));(first | have n2_:=zz31 (blk_kept BK282.out hkp (fun hs_=>(fun e_=>(Kd.R_ne HO_9.out BK282.out (by decide)) e_) hs_)) | have n2_:=zz31 (blk_kept (by (with_reducible repeat (first | refine zz6 ?_ _ | refine zz7 ?_ | refine zz8 ?_ _));exact BK282.out) hkp (fun hs_=>(fun e_=>(Kd.R_ne HO_9.out BK282.out (by decide)) e_) hs_)));have n3_:=zz31 (hb);clear HO_8;clear HO_9;clear BK282;clear HB;have HO_8:=n0_;have HO_9:=n1_;have BK282:=n2_;have HB:=n3_;clear n0_ n1_ n2_ n3_;(try clear hb);(try clear hkp);(try clear hy0)))
     go_ret2
     exact ⟨_,by first | rfl | (simp [errW_none,errW_some] <;> rfl) | (simp [*,errW_none,errW_some] <;> rfl),by (with_reducible repeat (first | apply zz12 | apply zz13 | apply zz14));exact HO_9.out,by repeat first | exact HB.out | apply zz2 | apply zz0 | apply zz1 | refine zz3 ?_ GE282.out⟩
 ·replace c4:=Bool.eq_false_iff.mpr c4
  subst c4
  have H1:(some (([]:List Int),false))=some (r1,r2):=by rw [if_neg (show ¬ (false=true) by decide)] at H;exact H
  clear H
  have H:=H1
  clear H1
  simp only [Option.some.injEq,Prod.mk.injEq] at H
  obtain ⟨rfl,rfl⟩:=H
  go_enter Try.func13,Try.ntmps13
  go_wp2_with (first | ((with_reducible refine gate_dst (N:=2) rfl ?_);refine box_event ?hg (N:=2) ?hd (cs:=#[.int .i64 a0_0,.slice A0_1 l0_1.length c0_1]) (t:=31) ?hr ?_;(case hd=>rfl);(case hg=>rfl);(case hr=>first | (go_simp;done) | (go_simp;rfl));intro gb282 hg w37 hbox hb;have n0_:=zz31 (zz4 (by repeat first | exact HB.out | apply zz2 | apply zz0 | apply zz1) hb);have n1_:=zz31 (hbox);have n2_:=zz31 ((by rw [hg];exact (zz5 (by repeat first | exact HB.out | apply zz2 | apply zz0 | apply zz1)):w.heap.size≤gb282));have n3_:=zz31 ((by rw [hg];exact (zz5 (by repeat first | exact HB.out | apply zz2 | apply zz0 | apply zz1)):w.heap.size≤gb282));clear HB;have HB:=n0_;have BK282:=n1_;have GW282:=n2_;have GE282:=n3_;clear n0_ n1_ n2_ n3_;clear hb hbox hg;have hcz38_0:w37.cell? ⟨gb282,0,none⟩=some (.int .i64 a0_0):=(zz9 BK282.out 0).trans rfl;have hcz38_1:w37.cell? ⟨gb282,1,none⟩=some (.slice A0_1 l0_1.length c0_1):=(zz9 BK282.out 1).trans rfl;have hfz38_0:=zz10 BK282.out 0;have hfz38_1:=zz10 BK282.out 1) | ((with_reducible refine gate_callee (f:=40) rfl ?_);refine goesL_ (some 15) rfl rfl Try.func40 (by kernel_rfl) rfl #[.agg #[.int .i64 a0_0,.slice A0_1 l0_1.length c0_1],.slice A1 l1.length c1] rfl (by (try simp only [zz26,zz27,zz28]);first | done | rfl | (simp only [zz24,zz25];rfl)) ?_;(with_reducible refine (impl_IsGroup.calls k a0_0 _ _ l0_1 _ _ l1 false t284 _ ?side1 ?side2 ?side3 ?side4 A3.out).mono ?_);(case side1=>repeat (first | exact (Kd.C_below HR0_1.out HB.out) | (with_reducible refine zz18 ?_ _) | (with_reducible refine zz19 ?_ _) | (with_reducible refine zz20 ?_)));(case side2=>exact HC0_1.out);(case side3=>repeat (first | exact (Kd.C_below HR1.out HB.out) | (with_reducible refine zz18 ?_ _) | (with_reducible refine zz19 ?_ _) | (with_reducible refine zz20 ?_)));(case side4=>exact HC1.out);rintro e w39 ⟨rfl,hb⟩;refine ⟨_,rfl,?_⟩;have n0_:=zz31 (zz11 (g:=gb282) (o:=.cells #[.int .i64 a0_0,.slice A0_1 l0_1.length c0_1] 31 (0,0)) (by (with_reducible repeat (first | refine zz6 ?_ _ | refine zz7 ?_ | refine zz8 ?_ _));exact BK282.out) hb);have n1_:=zz31 (zz4 (by repeat first | exact HB.out | apply zz2 | apply zz0 | apply zz1 | refine zz3 ?_ GE282.out) hb);clear BK282;clear HB;have BK282:=n0_;have HB:=n1_;clear n0_ n1_;(try clear hb);(try clear hb2);(try clear hk);(try clear hi)))
  go_ret2
  exact ⟨_,by first | rfl | (simp [errW_none,errW_some] <;> rfl) | (simp [*,errW_none,errW_some] <;> rfl),by first | exact Kd.R_nil _ _ _ _ _ | exact Kd.N_nil _ _ _ _ _ | exact Kd.V_nil _ _ _ _ _ | exact Kd.Q_nil _ _ _ _ _ | exact Kd.S_nil _ _ _ _ _,by repeat first | exact HB.out | apply zz2 | apply zz0 | apply zz1 | refine zz3 ?_ GE282.out⟩

end Go.Proofs.Ytifkaefccghgdaa.P
