-- PRINTED by print.py (a twelfth state) out of the translation. Not trusted: Lean checks it.
import Derived.Test.YtialimbdkokdcaaPx0
namespace Go.Proofs.Ytialimbdkokdcaa.P
open Go.RowKit Go.Proofs.YtialimbdkokdcaaW.PrintWords Go.Proofs.YtialimbdkokdcaaW.PrintLast Go.Proofs.YtialimbdkokdcaaW.PrintMore
attribute [local go_sem] max2_int min2_int max_two min_two max_three min_three max_four min_four   -- for this text's walks alone
set_option linter.unusedVariables false
set_option linter.unusedSimpArgs false

/-! ### spec_trKnows: function 57 -/
def spec_trKnows.l0:Nat→List (List Bool)→Int→List Int→Int→Int→Option (Bool)
 | 0,_,_,_,_,_=>none
 | k+1,x0,x2,x9,x10,x11=>if x11 < x10 then (if 0≤x11 then (if x11 < (x9.length:Int) then (if 0≤x2 then (if x2 < (x0.length:Int) then (if 0≤(rd x9 x11) then (if (rd x9 x11) < ((rd_L4 x0 x2).length:Int) then (if (rdOf false (rd_L4 x0 x2) (rd x9 x11)=true) then (spec_trKnows.l0 k x0 x2 x9 x10 (wrap64 (x11+1))) else (some false)) else (none)) else (none)) else (none)) else (none)) else (none)) else (none)) else (some true)
def spec_trKnows.f (k:Nat) (l0:List (List Bool)) (l1:List Int) (a2:Int):Option (Bool):=spec_trKnows.l0 k l0 a2 l1 (l1.length:Int) 0
theorem spec_trKnows.mono_l:∀ k,(∀ y0 y1 y2 y3 y4,LeO (spec_trKnows.l0 k y0 y1 y2 y3 y4) (spec_trKnows.l0 (k+1) y0 y1 y2 y3 y4))
 | 0=>fun _ _ _ _ _ r h=>by simp [spec_trKnows.l0] at h
 | k+1=>by
  have ih0:=spec_trKnows.mono_l k
  ·intro y0 y1 y2 y3 y4
   unfold spec_trKnows.l0
   repeat' first
   | (with_reducible exact ih0 _ _ _ _ _)
   | (with_reducible exact LeO.refl _)
   | (with_reducible exact LeO.none _)
   | (with_reducible refine LeO.ite ?_ ?_)
   | (with_reducible refine LeO.bind ?_ (fun _=>?_))
   | exact ih0 _ _ _ _ _
   | exact LeO.none _
   | refine LeO.ite ?_ ?_
   | refine LeO.bind ?_ (fun _=>?_)
theorem spec_trKnows.mono:∀ a0 a1 a2 k,LeO (spec_trKnows.f k a0 a1 a2) (spec_trKnows.f (k+1) a0 a1 a2):=by
 intro a0 a1 a2 k
 have ih0:=spec_trKnows.mono_l k
 unfold spec_trKnows.f
 repeat' first
   | (with_reducible exact ih0 _ _ _ _ _)
   | (with_reducible exact LeO.refl _)
   | (with_reducible exact LeO.none _)
   | (with_reducible refine LeO.ite ?_ ?_)
   | (with_reducible refine LeO.bind ?_ (fun _=>?_))
   | exact ih0 _ _ _ _ _
   | exact LeO.none _
   | refine LeO.ite ?_ ?_
   | refine LeO.bind ?_ (fun _=>?_)
set_option maxHeartbeats 8000000 in
set_option maxRecDepth 100000 in
theorem spec_trKnows.calls (k:Nat) (A0:Option Addr) (c0:Nat) (l0:List (List Bool)) (A1:Option Addr) (c1:Nat) (l1:List Int) (a2:Int) (r:Bool) (w:World) (hr0:Kd.C (Kd.slice 4 Kd.bool) w A0 l0.length l0) (hc0:l0.length≤c0) (hr1:Kd.C (Kd.int .i64) w A1 l1.length l1) (hc1:l1.length≤c1) (h:spec_trKnows.f k l0 l1 a2=some r) :
  Calls Try.prog 57 #[.slice A0 l0.length c0,.slice A1 l1.length c1,.int .i64 a2] w fun e w'=>e=.returned (.bool r)∧Drawn0 w w':=by
 have HR0:=zz31 hr0
 have HC0:=zz31 hc0
 clear hr0 hc0
 have HR1:=zz31 hr1
 have HC1:=zz31 hc1
 clear hr1 hc1
 have H:(spec_trKnows.l0 k l0 a2 l1 (l1.length:Int) 0)=some r:=h
 clear h
 have H':=zz31 H
 clear H
 go_enter Try.func57,Try.ntmps57
 go_wp2
 go_loopg [11] k (fun kq v11 w'=>∃ (x11_1:Int),v11=.int .i64 x11_1∧Aside0 (spec_trKnows.l0 kq l0 a2 l1 (l1.length:Int) x11_1=some r)∧Aside0 (kq≤k)∧Drawn0 w w')
 case atStart=>exact ⟨(0),(by first | rfl | (simp;done) | (simp [*];done)),H',⟨Nat.le_refl _⟩,by repeat (first | exact Drawn0.refl _ | apply Drawn0.step)⟩
 case round =>
  clear H'
  try clear c1
  try clear p2
  obtain ⟨x11_1,rfl,HA,HK1,⟨m1,rfl⟩⟩:=hrel
  cases gk with
  | zero=>exact absurd HA.out (by simp [spec_trKnows.l0])
  | succ k1 =>
   have H:=HA.out
   clear HA
   simp only [spec_trKnows.l0] at H
   by_cases c4:x11_1 < (l1.length:Int)
   ·rw [if_pos c4] at H
    have c4b0:decide (x11_1 < (l1.length:Int))=true:=decide_eq_true c4
    clear c4
    by_cases c5:0≤x11_1
    ·rw [if_pos c5] at H
     have c5b0:decide (0≤x11_1)=true:=decide_eq_true c5
     clear c5
     by_cases c6:x11_1 < (l1.length:Int)
     ·rw [if_pos c6] at H
      have c6b0:decide (x11_1 < (l1.length:Int))=true:=decide_eq_true c6
      clear c6
      by_cases c7:0≤a2
      ·rw [if_pos c7] at H
       have c7b0:decide (0≤a2)=true:=decide_eq_true c7
       clear c7
       by_cases c8:a2 < (l0.length:Int)
       ·rw [if_pos c8] at H
        have c8b0:decide (a2 < (l0.length:Int))=true:=decide_eq_true c8
        clear c8
        by_cases c9:0≤(rd l1 x11_1)
        ·rw [if_pos c9] at H
         have c9b0:decide (0≤(rd l1 x11_1))=true:=decide_eq_true c9
         clear c9
         by_cases c10:(rd l1 x11_1) < ((rd_L4 l0 a2).length:Int)
         ·rw [if_pos c10] at H
          have c10b0:decide ((rd l1 x11_1) < ((rd_L4 l0 a2).length:Int))=true:=decide_eq_true c10
          clear c10
          obtain ⟨bq11,hbq11⟩:∃ b_:Bool,b_=(rdOf false (rd_L4 l0 a2) (rd l1 x11_1)):=⟨_,rfl⟩
          replace H:(if (bq11=true) then (spec_trKnows.l0 k1 l0 a2 l1 (l1.length:Int) (wrap64 (x11_1+1))) else (some false))=some r:=by rw [← hbq11] at H;exact H
          have Nbq11:=zz31 hbq11
          clear hbq11
          by_cases c12:(bq11=true)
          ·subst c12
           have H1:(spec_trKnows.l0 k1 l0 a2 l1 (l1.length:Int) (wrap64 (x11_1+1)))=some r:=by rw [if_pos rfl] at H;exact H
           clear H
           have H:=H1
           clear H1
           have H':=zz31 H
           clear H
           have p242:0≤(x11_1:Int):=zz29 (by first | (with_reducible assumption) | assumption)
           have q242:x11_1 < (l1.length:Int):=zz29 (by first | (with_reducible assumption) | assumption)
           obtain ⟨ad242,e242,hx242_0⟩:=Kd.at_int HR1.out x11_1 p242 q242
           cases e242
           replace p242:=eq_true p242
           replace q242:=eq_true q242
           have p243:0≤(a2:Int):=zz29 (by first | (with_reducible assumption) | assumption)
           have q243:a2 < (l0.length:Int):=zz29 (by first | (with_reducible assumption) | assumption)
           obtain ⟨ad243,A243_0,c243_0,e243,hx243_0,hl243_0,hi243_0⟩:=at_L4 HR0.out a2 p243 q243
           cases e243
           have HR243_0:=zz31 hi243_0
           have HC243_0:=zz31 hl243_0
           clear hi243_0 hl243_0
           replace p243:=eq_true p243
           replace q243:=eq_true q243
           have p244:0≤((rd l1 x11_1):Int):=zz29 (by first | (with_reducible assumption) | assumption)
           have q244:(rd l1 x11_1) < ((rd_L4 l0 a2).length:Int):=zz29 (by first | (with_reducible assumption) | assumption)
           obtain ⟨ad244,e244,hx244_0⟩:=Kd.at_bool HR243_0.out (rd l1 x11_1) p244 q244
           (try rw [← Nbq11.out] at hx244_0)
           cases e244
           replace p244:=eq_true p244
           replace q244:=eq_true q244
           go_wp2
           go_roundg k1
           case measure=>have:=HK1.out;omega
           case rel=>exact ⟨(wrap64 (x11_1+1)),(by first | rfl | (simp;done) | (simp [*];done)),H',⟨by have:=HK1.out;omega⟩,by repeat (first | exact Drawn0.refl _ | apply Drawn0.step)⟩
          ·replace c12:=Bool.eq_false_iff.mpr c12
           subst c12
           have H1:(some false)=some r:=by rw [if_neg (show ¬ (false=true) by decide)] at H;exact H
           clear H
           have H:=H1
           clear H1
           obtain rfl:=Option.some.inj H
           have p242:0≤(x11_1:Int):=zz29 (by first | (with_reducible assumption) | assumption)
           have q242:x11_1 < (l1.length:Int):=zz29 (by first | (with_reducible assumption) | assumption)
           obtain ⟨ad242,e242,hx242_0⟩:=Kd.at_int HR1.out x11_1 p242 q242
           cases e242
           replace p242:=eq_true p242
           replace q242:=eq_true q242
           have p243:0≤(a2:Int):=zz29 (by first | (with_reducible assumption) | assumption)
           have q243:a2 < (l0.length:Int):=zz29 (by first | (with_reducible assumption) | assumption)
           obtain ⟨ad243,A243_0,c243_0,e243,hx243_0,hl243_0,hi243_0⟩:=at_L4 HR0.out a2 p243 q243
           cases e243
           have HR243_0:=zz31 hi243_0
           have HC243_0:=zz31 hl243_0
           clear hi243_0 hl243_0
           replace p243:=eq_true p243
           replace q243:=eq_true q243
           have p244:0≤((rd l1 x11_1):Int):=zz29 (by first | (with_reducible assumption) | assumption)
           have q244:(rd l1 x11_1) < ((rd_L4 l0 a2).length:Int):=zz29 (by first | (with_reducible assumption) | assumption)
           obtain ⟨ad244,e244,hx244_0⟩:=Kd.at_bool HR243_0.out (rd l1 x11_1) p244 q244
           (try rw [← Nbq11.out] at hx244_0)
           cases e244
           replace p244:=eq_true p244
           replace q244:=eq_true q244
           go_wp2
           go_ret
           exact ⟨by first | rfl | (simp;done) | (simp [*];done),by repeat (first | exact Drawn0.refl _ | apply Drawn0.step)⟩
         ·rw [if_neg c10] at H
          exact absurd H (by simp)
        ·rw [if_neg c9] at H
         exact absurd H (by simp)
       ·rw [if_neg c8] at H
        exact absurd H (by simp)
      ·rw [if_neg c7] at H
       exact absurd H (by simp)
     ·rw [if_neg c6] at H
      exact absurd H (by simp)
    ·rw [if_neg c5] at H
     exact absurd H (by simp)
   ·rw [if_neg c4] at H
    have c4b0:decide (x11_1 < (l1.length:Int))=false:=decide_eq_false c4
    clear c4
    obtain rfl:=Option.some.inj H
    go_wp2
    go_ret
    exact ⟨by first | rfl | (simp;done) | (simp [*];done),by repeat (first | exact Drawn0.refl _ | apply Drawn0.step)⟩

end Go.Proofs.Ytialimbdkokdcaa.P
