-- PRINTED by print.py (a twelfth state) out of the translation. Not trusted: Lean checks it.
import Derived.Test.YtifkaefccghgdaaDoorPx0
import Derived.Test.YtifkaefccghgdaaDoorPx2
namespace Go.Proofs.YtifkaefccghgdaaDoor.P
open Go.RowKit Go.Proofs.YtifkaefccghgdaaDoorW.PrintWords Go.Proofs.YtifkaefccghgdaaDoorW.PrintLast Go.Proofs.YtifkaefccghgdaaDoorW.PrintMore
attribute [local go_sem] max2_int min2_int max_two min_two max_three min_three max_four min_four   -- for this text's walks alone
set_option linter.unusedVariables false
set_option linter.unusedSimpArgs false

/-! ### spec_trKnows: function 63 -/
def spec_trKnows.l0:Nat→List (List Bool)→Int→List Int→Int→Int→Option (Bool)
 | 0,_,_,_,_,_=>none
 | k+1,x0,x2,x9,x10,x11=>if x11 < x10 then (if 0≤x11 then (if x11 < (x9.length:Int) then (if 0≤x2 then (if x2 < (x0.length:Int) then (if 0≤(rd x9 x11) then (if (rd x9 x11) < ((rd_L4 x0 x2).length:Int) then (if (rdOf false (rd_L4 x0 x2) (rd x9 x11)=true) then (spec_trKnows.l0 k x0 x2 x9 x10 (wrap64 (x11+1))) else (some false)) else (none)) else (none)) else (none)) else (none)) else (none)) else (none)) else (some true)
def spec_trKnows.f (k:Nat) (l0:List (List Bool)) (l1:List Int) (a2:Int):Option (Bool):=spec_trKnows.l0 k l0 a2 l1 (l1.length:Int) 0
theorem spec_trKnows.mono_l:∀ k,(∀ y0 y1 y2 y3 y4,LeO (spec_trKnows.l0 k y0 y1 y2 y3 y4) (spec_trKnows.l0 (k+1) y0 y1 y2 y3 y4))
 | 0=>fun _ _ _ _ _ r h=>by simp [spec_trKnows.l0] at h
 | k+1=>by
  have ih0:=spec_trKnows.mono_l k
  ·intro y0 y1 y2 y3 y4
   unfold spec_trKnows.l0
   repeat' first
   | (with_reducible exact ih0 _ _ _ _ _)
   | (with_reducible exact LeO.refl _)
   | (with_reducible exact LeO.none _)
   | (with_reducible refine LeO.ite ?_ ?_)
   | (with_reducible refine LeO.bind ?_ (fun _=>?_))
   | exact ih0 _ _ _ _ _
   | exact LeO.none _
   | refine LeO.ite ?_ ?_
   | refine LeO.bind ?_ (fun _=>?_)
theorem spec_trKnows.mono:∀ a0 a1 a2 k,LeO (spec_trKnows.f k a0 a1 a2) (spec_trKnows.f (k+1) a0 a1 a2):=by
 intro a0 a1 a2 k
 have ih0:=spec_trKnows.mono_l k
 unfold spec_trKnows.f
 repeat' first
   | (with_reducible exact ih0 _ _ _ _ _)
   | (with_reducible exact LeO.refl _)
   | (with_reducible exact LeO.none _)
   | (with_reducible refine LeO.ite ?_ ?_)
   | (with_reducible refine LeO.bind ?_ (fun _=>?_))
   | exact ih0 _ _ _ _ _
   | exact LeO.none _
   | refine LeO.ite ?_ ?_
   | refine LeO.bind ?_ (fun _=>?_)
set_option maxHeartbeats 8000000 in
set_option maxRecDepth 100000 in
theorem spec_trKnows.calls (k:Nat) (A0:Option Addr) (c0:Nat) (l0:List (List Bool)) (A1:Option Addr) (c1:Nat) (l1:List Int) (a2:Int) (r:Bool) (w:World) (hr0:Kd.C (Kd.slice 4 Kd.bool) w A0 l0.length l0) (hc0:l0.length≤c0) (hr1:Kd.C (Kd.int .i64) w A1 l1.length l1) (hc1:l1.length≤c1) (h:spec_trKnows.f k l0 l1 a2=some r) :
  Calls Tryd.prog 63 #[.slice A0 l0.length c0,.slice A1 l1.length c1,.int .i64 a2] w fun e w'=>e=.returned (.bool r)∧Drawn0 w w':=by
 have HR0:=zz31 hr0
 have HC0:=zz31 hc0
 clear hr0 hc0
 have HR1:=zz31 hr1
 have HC1:=zz31 hc1
 clear hr1 hc1
 have H:(spec_trKnows.l0 k l0 a2 l1 (l1.length:Int) 0)=some r:=h
 clear h
 have H':=zz31 H
 clear H
 go_enter Tryd.func63,Tryd.ntmps63
 go_wp2
 go_loopg [11] k (fun kq v11 w'=>∃ (x11_1:Int),v11=.int .i64 x11_1∧Aside0 (spec_trKnows.l0 kq l0 a2 l1 (l1.length:Int) x11_1=some r)∧Aside0 (kq≤k)∧Drawn0 w w')
 case atStart=>exact ⟨(0),(by first | rfl | (simp;done) | (simp [*];done)),H',⟨Nat.le_refl _⟩,by repeat (first | exact Drawn0.refl _ | apply Drawn0.step)⟩
 case round =>
  clear H'
  try clear c1
  try clear p2
  obtain ⟨x11_1,rfl,HA,HK1,⟨m1,rfl⟩⟩:=hrel
  cases gk with
  | zero=>exact absurd HA.out (by simp [spec_trKnows.l0])
  | succ k1 =>
   have H:=HA.out
   clear HA
   simp only [spec_trKnows.l0] at H
   by_cases c4:x11_1 < (l1.length:Int)
   ·rw [if_pos c4] at H
    have c4b0:decide (x11_1 < (l1.length:Int))=true:=decide_eq_true c4
    clear c4
    by_cases c5:0≤x11_1
    ·rw [if_pos c5] at H
     have c5b0:decide (0≤x11_1)=true:=decide_eq_true c5
     clear c5
     by_cases c6:x11_1 < (l1.length:Int)
     ·rw [if_pos c6] at H
      have c6b0:decide (x11_1 < (l1.length:Int))=true:=decide_eq_true c6
      clear c6
      by_cases c7:0≤a2
      ·rw [if_pos c7] at H
       have c7b0:decide (0≤a2)=true:=decide_eq_true c7
       clear c7
       by_cases c8:a2 < (l0.length:Int)
       ·rw [if_pos c8] at H
        have c8b0:decide (a2 < (l0.length:Int))=true:=decide_eq_true c8
        clear c8
        by_cases c9:0≤(rd l1 x11_1)
        ·rw [if_pos c9] at H
         have c9b0:decide (0≤(rd l1 x11_1))=true:=decide_eq_true c9
         clear c9
         by_cases c10:(rd l1 x11_1) < ((rd_L4 l0 a2).length:Int)
         ·rw [if_pos c10] at H
          have c10b0:decide ((rd l1 x11_1) < ((rd_L4 l0 a2).length:Int))=true:=decide_eq_true c10
          clear c10
          obtain ⟨bq11,hbq11⟩:∃ b_:Bool,b_=(rdOf false (rd_L4 l0 a2) (rd l1 x11_1)):=⟨_,rfl⟩
          replace H:(if (bq11=true) then (spec_trKnows.l0 k1 l0 a2 l1 (l1.length:Int) (wrap64 (x11_1+1))) else (some false))=some r:=by rw [← hbq11] at H;exact H
          have Nbq11:=zz31 hbq11
          clear hbq11
          by_cases c12:(bq11=true)
          ·subst c12
           have H1:(spec_trKnows.l0 k1 l0 a2 l1 (l1.length:Int) (wrap64 (x11_1+1)))=some r:=by rw [if_pos rfl] at H;exact H
           clear H
           have H:=H1
           clear H1
           have H':=zz31 H
           clear H
           have p120:0≤(x11_1:Int):=zz29 (by first | (with_reducible assumption) | assumption)
           have q120:x11_1 < (l1.length:Int):=zz29 (by first | (with_reducible assumption) | assumption)
           obtain ⟨ad120,e120,hx120_0⟩:=Kd.at_int HR1.out x11_1 p120 q120
           cases e120
           replace p120:=eq_true p120
           replace q120:=eq_true q120
           have p121:0≤(a2:Int):=zz29 (by first | (with_reducible assumption) | assumption)
           have q121:a2 < (l0.length:Int):=zz29 (by first | (with_reducible assumption) | assumption)
           obtain ⟨ad121,A121_0,c121_0,e121,hx121_0,hl121_0,hi121_0⟩:=at_L4 HR0.out a2 p121 q121
           cases e121
           have HR121_0:=zz31 hi121_0
           have HC121_0:=zz31 hl121_0
           clear hi121_0 hl121_0
           replace p121:=eq_true p121
           replace q121:=eq_true q121
           have p122:0≤((rd l1 x11_1):Int):=zz29 (by first | (with_reducible assumption) | assumption)
           have q122:(rd l1 x11_1) < ((rd_L4 l0 a2).length:Int):=zz29 (by first | (with_reducible assumption) | assumption)
           obtain ⟨ad122,e122,hx122_0⟩:=Kd.at_bool HR121_0.out (rd l1 x11_1) p122 q122
           (try rw [← Nbq11.out] at hx122_0)
           cases e122
           replace p122:=eq_true p122
           replace q122:=eq_true q122
           go_wp2
           go_roundg k1
           case measure=>have:=HK1.out;omega
           case rel=>exact ⟨(wrap64 (x11_1+1)),(by first | rfl | (simp;done) | (simp [*];done)),H',⟨by have:=HK1.out;omega⟩,by repeat (first | exact Drawn0.refl _ | apply Drawn0.step)⟩
          ·replace c12:=Bool.eq_false_iff.mpr c12
           subst c12
           have H1:(some false)=some r:=by rw [if_neg (show ¬ (false=true) by decide)] at H;exact H
           clear H
           have H:=H1
           clear H1
           obtain rfl:=Option.some.inj H
           have p120:0≤(x11_1:Int):=zz29 (by first | (with_reducible assumption) | assumption)
           have q120:x11_1 < (l1.length:Int):=zz29 (by first | (with_reducible assumption) | assumption)
           obtain ⟨ad120,e120,hx120_0⟩:=Kd.at_int HR1.out x11_1 p120 q120
           cases e120
           replace p120:=eq_true p120
           replace q120:=eq_true q120
           have p121:0≤(a2:Int):=zz29 (by first | (with_reducible assumption) | assumption)
           have q121:a2 < (l0.length:Int):=zz29 (by first | (with_reducible assumption) | assumption)
           obtain ⟨ad121,A121_0,c121_0,e121,hx121_0,hl121_0,hi121_0⟩:=at_L4 HR0.out a2 p121 q121
           cases e121
           have HR121_0:=zz31 hi121_0
           have HC121_0:=zz31 hl121_0
           clear hi121_0 hl121_0
           replace p121:=eq_true p121
           replace q121:=eq_true q121
           have p122:0≤((rd l1 x11_1):Int):=zz29 (by first | (with_reducible assumption) | assumption)
           have q122:(rd l1 x11_1) < ((rd_L4 l0 a2).length:Int):=zz29 (by first | (with_reducible assumption) | assumption)
           obtain ⟨ad122,e122,hx122_0⟩:=Kd.at_bool HR121_0.out (rd l1 x11_1) p122 q122
           (try rw [← Nbq11.out] at hx122_0)
           cases e122
           replace p122:=eq_true p122
           replace q122:=eq_true q122
           go_wp2
           go_ret
           exact ⟨by first | rfl | (simp;done) | (simp [*];done),by repeat (first | exact Drawn0.refl _ | apply Drawn0.step)⟩
         ·rw [if_neg c10] at H
          exact absurd H (by simp)
        ·rw [if_neg c9] at H
         exact absurd H (by simp)
       ·rw [if_neg c8] at H
        exact absurd H (by simp)
      ·rw [if_neg c7] at H
       exact absurd H (by simp)
     ·rw [if_neg c6] at H
      exact absurd H (by simp)
    ·rw [if_neg c5] at H
     exact absurd H (by simp)
   ·rw [if_neg c4] at H
    have c4b0:decide (x11_1 < (l1.length:Int))=false:=decide_eq_false c4
    clear c4
    obtain rfl:=Option.some.inj H
    go_wp2
    go_ret
    exact ⟨by first | rfl | (simp;done) | (simp [*];done),by repeat (first | exact Drawn0.refl _ | apply Drawn0.step)⟩

/-! ### spec_trGroups: function 32 -/
mutual
def spec_trGroups.j0:Nat→List (List Bool)→List Int→Int→Int→Option ((List (List Int)))
 | 0,_,_,_,_=>none
 | k+1,x0,x1,x2,x7=>spec_trGroups.l0 k x0 x1 x2 ([]:List (List Int)) x7
def spec_trGroups.l0:Nat→List (List Bool)→List Int→Int→List (List Int)→Int→Option ((List (List Int)))
 | 0,_,_,_,_,_=>none
 | k+1,x0,x1,x2,x8,x9=>if x9 < (x0.length:Int) then ((spec_trKnows.f k x0 x1 x9).bind fun t130=>(if t130=true then ((spec_l1Own.f x1).bind fun t131=>(if t131.length < 17592186044416 then ((spec_trGroups.f k x0 (t131 ++ [x9]) x2).bind fun t137=>(if x8.length+t137.length < 5864062014805 then (spec_trGroups.l0 k x0 x1 x2 (x8 ++ t137) (wrap64 (x9+1))) else (none))) else (none))) else (spec_trGroups.l0 k x0 x1 x2 x8 (wrap64 (x9+1))))) else (some x8)
def spec_trGroups.f:Nat→List (List Bool)→List Int→Int→Option ((List (List Int)))
 | 0,_,_,_=>none
 | k+1,l0,l1,a2=>if (l1.length:Int)=a2 then ((spec_l1Own.f l1).bind fun t123=>(some (([t123]:List (List Int))))) else (if (l1.length:Int) > 0 then (if 0≤(wrap64 ((l1.length:Int) - 1)) then (if (wrap64 ((l1.length:Int) - 1)) < (l1.length:Int) then (spec_trGroups.j0 k l0 l1 a2 (wrap64 ((rd l1 (wrap64 ((l1.length:Int) - 1)))+1))) else (none)) else (none)) else (spec_trGroups.j0 k l0 l1 a2 0))
end
theorem spec_trGroups.mono_l:∀ k,(∀ y0 y1 y2,LeO (spec_trGroups.f k y0 y1 y2) (spec_trGroups.f (k+1) y0 y1 y2))∧(∀ y0 y1 y2 y3,LeO (spec_trGroups.j0 k y0 y1 y2 y3) (spec_trGroups.j0 (k+1) y0 y1 y2 y3))∧(∀ y0 y1 y2 y3 y4,LeO (spec_trGroups.l0 k y0 y1 y2 y3 y4) (spec_trGroups.l0 (k+1) y0 y1 y2 y3 y4))
 | 0=>⟨fun _ _ _ r h=>by simp [spec_trGroups.f] at h,fun _ _ _ _ r h=>by simp [spec_trGroups.j0] at h,fun _ _ _ _ _ r h=>by simp [spec_trGroups.l0] at h⟩
 | k+1=>by
  obtain ⟨ih0,ih1,ih2⟩:=spec_trGroups.mono_l k
  refine ⟨?_,?_,?_⟩
  ·intro y0 y1 y2
   unfold spec_trGroups.f
   repeat' first
   | (with_reducible exact ih0 _ _ _)
   | (with_reducible exact ih1 _ _ _ _)
   | (with_reducible exact ih2 _ _ _ _ _)
   | (with_reducible exact spec_trKnows.mono _ _ _ _)
   | (with_reducible exact LeO.refl _)
   | (with_reducible exact LeO.none _)
   | (with_reducible refine LeO.ite ?_ ?_)
   | (with_reducible refine LeO.bind ?_ (fun _=>?_))
   | exact ih0 _ _ _
   | exact ih1 _ _ _ _
   | exact ih2 _ _ _ _ _
   | exact spec_trKnows.mono _ _ _ _
   | exact LeO.none _
   | refine LeO.ite ?_ ?_
   | refine LeO.bind ?_ (fun _=>?_)
  ·intro y0 y1 y2 y3
   unfold spec_trGroups.j0
   repeat' first
   | (with_reducible exact ih0 _ _ _)
   | (with_reducible exact ih1 _ _ _ _)
   | (with_reducible exact ih2 _ _ _ _ _)
   | (with_reducible exact spec_trKnows.mono _ _ _ _)
   | (with_reducible exact LeO.refl _)
   | (with_reducible exact LeO.none _)
   | (with_reducible refine LeO.ite ?_ ?_)
   | (with_reducible refine LeO.bind ?_ (fun _=>?_))
   | exact ih0 _ _ _
   | exact ih1 _ _ _ _
   | exact ih2 _ _ _ _ _
   | exact spec_trKnows.mono _ _ _ _
   | exact LeO.none _
   | refine LeO.ite ?_ ?_
   | refine LeO.bind ?_ (fun _=>?_)
  ·intro y0 y1 y2 y3 y4
   unfold spec_trGroups.l0
   repeat' first
   | (with_reducible exact ih0 _ _ _)
   | (with_reducible exact ih1 _ _ _ _)
   | (with_reducible exact ih2 _ _ _ _ _)
   | (with_reducible exact spec_trKnows.mono _ _ _ _)
   | (with_reducible exact LeO.refl _)
   | (with_reducible exact LeO.none _)
   | (with_reducible refine LeO.ite ?_ ?_)
   | (with_reducible refine LeO.bind ?_ (fun _=>?_))
   | exact ih0 _ _ _
   | exact ih1 _ _ _ _
   | exact ih2 _ _ _ _ _
   | exact spec_trKnows.mono _ _ _ _
   | exact LeO.none _
   | refine LeO.ite ?_ ?_
   | refine LeO.bind ?_ (fun _=>?_)
theorem spec_trGroups.mono:∀ a0 a1 a2 k,LeO (spec_trGroups.f k a0 a1 a2) (spec_trGroups.f (k+1) a0 a1 a2):=by
 intro a0 a1 a2 k
 obtain ⟨ih0,ih1,ih2⟩:=spec_trGroups.mono_l k
 exact ih0 a0 a1 a2
set_option maxHeartbeats 8000000 in
set_option maxRecDepth 100000 in
theorem spec_trGroups.calls (k:Nat):∀ (A0:Option Addr) (c0:Nat) (l0:List (List Bool)) (A1:Option Addr) (c1:Nat) (l1:List Int) (a2:Int) (r:List (List Int)) (w:World) (hr0:Kd.C (Kd.slice 4 Kd.bool) w A0 l0.length l0) (hc0:l0.length≤c0) (hr1:Kd.C (Kd.int .i64) w A1 l1.length l1) (hc1:l1.length≤c1) (h:spec_trGroups.f k l0 l1 a2=some r),
  Calls Tryd.prog 32 #[.slice A0 l0.length c0,.slice A1 l1.length c1,.int .i64 a2] w fun e w'=>∃ v0_:Value,e=.returned (v0_)∧Kd.N (Kd.slice 3 (Kd.int .i64)) 34 w' w.heap.size (fun k_=>(w.heap.size≤k_)) v0_ r∧Below w.heap.size w w':=by
 induction k using Nat.strongRecOn with
 | _ k ih =>
 intro A0 c0 l0 A1 c1 l1 a2 r w hr0 hc0 hr1 hc1 h
 cases k with
 | zero=>exact absurd h (by simp [spec_trGroups.f])
 | succ k =>
 simp only [spec_trGroups.f] at h
 have HR0:=zz31 hr0
 have HC0:=zz31 hc0
 clear hr0 hc0
 have HR1:=zz31 hr1
 have HC1:=zz31 hc1
 clear hr1 hc1
 have HB:=zz31 (Below.refl w.heap.size w)
 have H:(if (l1.length:Int)=a2 then ((spec_l1Own.f l1).bind fun t123=>(some (([t123]:List (List Int))))) else (if (l1.length:Int) > 0 then (if 0≤(wrap64 ((l1.length:Int) - 1)) then (if (wrap64 ((l1.length:Int) - 1)) < (l1.length:Int) then (spec_trGroups.j0 k l0 l1 a2 (wrap64 ((rd l1 (wrap64 ((l1.length:Int) - 1)))+1))) else (none)) else (none)) else (spec_trGroups.j0 k l0 l1 a2 0)))=some r:=h
 clear h
 by_cases c4:(l1.length:Int)=a2
 ·rw [if_pos c4] at H
  have c4b0:((l1.length:Int) == a2)=true:=beq_iff_eq.mpr c4
  have c4b1:((l1.length:Int) != a2)=false:=bne_eq_false_iff_eq.mpr c4
  clear c4
  replace H:=zz30.mp H
  obtain ⟨t123,A50,H⟩:=H
  replace H:(some (([t123]:List (List Int))))=some r:=H
  have A5:=zz31 A50
  clear A50
  obtain ⟨y126,hy126⟩:∃ y_:List (List Int),y_=(([t123]:List (List Int))):=⟨_,rfl⟩
  replace H:(some y126)=some r:=by first | (rw [hy126];with_reducible exact H) | (have H2_:=(Option.bind_some _ _).symm.trans H;rw [hy126];with_reducible exact H2_) | (have H2_:=(Option.bind_some _ _).symm.trans H;with_reducible exact H2_) | with_reducible exact H | (rw [hy126];exact H) | exact H
  have Ny126:=zz31 hy126
  clear hy126
  obtain rfl:=Option.some.inj H
  go_enter Tryd.func32,Tryd.ntmps32
  go_wp2_with (first | ((with_reducible refine gate_callee (f:=62) rfl ?_);refine goesL_ (some 15) rfl rfl Tryd.func62 (by kernel_rfl) rfl #[.slice A1 l1.length c1] rfl (by (try simp only [zz26,zz27,zz28]);first | done | rfl | (simp only [zz24,zz25];rfl)) ?_;(with_reducible refine (spec_l1Own.calls _ _ l1 t123 _ ?side1 ?side2 A5.out).mono ?_);(case side1=>repeat (first | exact HR1.out | (with_reducible refine zz18 ?_ _) | (with_reducible refine zz19 ?_ _) | (with_reducible refine zz20 ?_)));(case side2=>exact HC1.out);rintro e w6 ⟨v124,rfl,ho0,hb⟩;refine ⟨_,rfl,?_⟩;have n0_:=zz31 (Kd.R_lower (Kd.R_newM (M:=fun k_=>(w.heap.size≤k_)) ho0 (zz5 (by repeat first | exact HB.out | apply zz2 | apply zz0 | apply zz1)) (fun k_ h_=>h_)) (zz5 (by repeat first | exact HB.out | apply zz2 | apply zz0 | apply zz1)));have n1_:=zz31 (zz4 (by repeat first | exact HB.out | apply zz2 | apply zz0 | apply zz1) hb);clear HB;have HO125:=n0_;have HB:=n1_;clear n0_ n1_;(try clear hb);(try clear hb2);(try clear hk);(try clear hi);(try clear ho0);obtain ⟨Ao7,co7,eo7⟩:=Kd.R_slice HO125.out;subst eo7) | ((with_reducible refine gate_dst (N:=16) rfl ?_);refine Kd.N_lit (Kd.slice 3 (Kd.int .i64)) _ 34 ?hg (N':=16) ?hd (xs:=([t123]:List (List Int))) (inner:=[.slice Ao7 t123.length co7]) (ok:=(fun k_=>(w.heap.size≤k_))) (okp:=(fun k_=>(w.heap.size≤k_))) ?hr ?hp (fun _ hk=>hk) ((show ∀ k_,w6.heap.size≤k_→(fun k_=>(w.heap.size≤k_)) k_ from fun k_ hk=>(Nat.le_trans (zz5 (by repeat first | exact HB.out | apply zz2 | apply zz0 | apply zz1)) hk)) _ (Nat.le_refl _)) (Below.refl _ _) (Nat.le_refl _) (by simp) ?_;(case hd=>rfl);(case hg=>rfl);(case hr=>first | (go_simp;done) | (go_simp;rfl));(case hp=>exact (Reps.one (show Kd.FK (Kd.slice 3 (Kd.int .i64)) _ _ t123 [.slice Ao7 t123.length co7] from (Kd.FK_slice_mk (Kd.R_reads' (Kd.R_mono (ok':=(fun k_=>(w.heap.size≤k_))) (HO125.out) (fun k_ hk=>hk.1))).2.1 (Kd.R_F (Kd.R_mono (ok':=(fun k_=>(w.heap.size≤k_))) (HO125.out) (fun k_ hk=>hk.1))))) (Reps.none _ _)));intro v127 w8 ho9 hb hg_ hnew_;clear hg_ hnew_;(first | rw [← Ny126.out] at ho9 | (simp only [Int.reduceToNat] at ho9;rw [← Ny126.out] at ho9));have n0_:=zz31 (Kd.N_lower ho9 (zz5 (by repeat first | exact HB.out | apply zz2 | apply zz0 | apply zz1)));have n1_:=zz31 (zz4 (by repeat first | exact HB.out | apply zz2 | apply zz0 | apply zz1) hb);clear HB;clear HO125;have HO128:=n0_;have HB:=n1_;clear n0_ n1_;clear hb ho9))
  go_ret
  exact ⟨_,by first | rfl | (simp [errW_none,errW_some] <;> rfl) | (simp [*,errW_none,errW_some] <;> rfl),by (with_reducible repeat (first | apply Kd.N_alloc | apply Kd.N_drewN | apply Kd.N_drew));exact HO128.out,by repeat first | exact HB.out | apply zz2 | apply zz0 | apply zz1⟩
 ·rw [if_neg c4] at H
  have c4b0:((l1.length:Int) == a2)=false:=beq_eq_false_iff_ne.mpr c4
  have c4b1:((l1.length:Int) != a2)=true:=bne_iff_ne.mpr c4
  have HC10:=zz31 H
  clear H
  go_enter Tryd.func32,Tryd.ntmps32
  go_upto_if 19 with (fail)
  go_cut [7] (fun v7 wc=>∃ (kq:Nat) (x7_9:Int),v7=.int .i64 x7_9∧Aside0 (spec_trGroups.j0 kq l0 l1 a2 x7_9=some r)∧Aside0 (kq≤k)∧Aside0 (Below w.heap.size w wc))
  case first =>
   have H:=HC10.out
   clear HC10
   by_cases c11:(l1.length:Int) > 0
   ·rw [if_pos c11] at H
    have c11b0:decide (0 < (l1.length:Int))=true:=decide_eq_true c11
    have c11n0:decide (0 < l1.length)=true:=by have:=c11b0;simpa using this
    have c11p0:0 < l1.length:=zz29 c11n0
    have c11q0:(0 < l1.length)=True:=eq_true c11p0
    have c11b1:decide (0 < l1.length)=true:=decide_eq_true (by omega)
    clear c11
    (first | rw [c11b0] | (simp only [i64_w,i32_w];rw [c11b0]) | skip)
    obtain ⟨ji12,hji12⟩:∃ j_:Int,(wrap64 ((l1.length:Int) - 1))=j_:=⟨_,rfl⟩
    replace H:(if 0≤(ji12) then (if (ji12) < (l1.length:Int) then (spec_trGroups.j0 k l0 l1 a2 (wrap64 ((rd l1 (ji12))+1))) else (none)) else (none))=some r:=by first | (rw [hji12] at H;exact H) | (simp only [hji12] at H ⊢;exact H)
    have hji12w:(IntKind.i64.wrap ((l1.length:Int) - 1))=ji12:=(i64_w _).trans hji12
    by_cases c13:0≤(ji12)
    ·rw [if_pos c13] at H
     have c13b0:decide (0≤(ji12))=true:=decide_eq_true c13
     clear c13
     by_cases c14:(ji12) < (l1.length:Int)
     ·rw [if_pos c14] at H
      have c14b0:decide ((ji12) < (l1.length:Int))=true:=decide_eq_true c14
      clear c14
      have H':=zz31 H
      clear H
      have p129:0≤((ji12):Int):=zz29 (by first | (with_reducible assumption) | assumption)
      have q129:(ji12) < (l1.length:Int):=zz29 (by first | (with_reducible assumption) | assumption)
      obtain ⟨ad129,e129,hx129_0⟩:=Kd.at_int HR1.out (ji12) p129 q129
      cases e129
      replace hx129_0:=(HB.out.cell (World.block_lt_of_cell? w _ hx129_0)).trans hx129_0
      replace p129:=eq_true p129
      replace q129:=eq_true q129
      go_wp2
      go_meet
      case rel=>exact ⟨_,(wrap64 ((rd l1 (ji12))+1)),(by first | rfl | (simp;done) | (simp only [← hji12] <;> (first | rfl | simp)) | (simp [*];done)),H',⟨by first | omega | exact Nat.le_refl _⟩,⟨by repeat first | exact HB.out | apply zz2 | apply zz0 | apply zz1⟩⟩
     ·rw [if_neg c14] at H
      exact absurd H (by simp)
    ·rw [if_neg c13] at H
     exact absurd H (by simp)
   ·rw [if_neg c11] at H
    have c11b0:decide (0 < (l1.length:Int))=false:=decide_eq_false c11
    have c11n0:decide (0 < l1.length)=false:=by have:=c11b0;simpa using this
    have c11p0:¬ (0 < l1.length):=of_decide_eq_false c11n0
    have c11q0:(0 < l1.length)=False:=eq_false c11p0
    have c11b1:decide (0 < l1.length)=false:=decide_eq_false (by omega)
    clear c11
    (first | rw [c11b0] | (simp only [i64_w,i32_w];rw [c11b0]) | skip)
    have H':=zz31 H
    clear H
    go_wp2
    go_meet
    case rel=>exact ⟨_,(0),(by first | rfl | (simp;done) | (simp [*];done)),H',⟨by first | omega | exact Nat.le_refl _⟩,⟨by repeat first | exact HB.out | apply zz2 | apply zz0 | apply zz1⟩⟩
  case rest =>
   clear HC10
   try clear c1
   try clear p1
   try clear q1
   try clear hx1
   try clear p2
   try clear c3
   try clear c4
   try clear c4b0
   try clear c4b1
   try clear c6
   try clear p6
   try clear c11
   try clear c11b0
   try clear c11b1
   try clear p12
   try clear q12
   try clear hx12
   try clear c13
   try clear c13b0
   try clear c14
   try clear c14b0
   try clear hx129_0
   try clear p129
   try clear q129
   obtain ⟨kq,x7_9,rfl,HA,HJ9,HB⟩:=hcut
   cases kq with
   | zero=>exact absurd HA.out (by simp [spec_trGroups.j0])
   | succ kj9 =>
    have H:=HA.out
    clear HA
    simp only [spec_trGroups.j0] at H
    have H':=zz31 H
    clear H
    go_wp2
    go_loopg [8,9] kj9 (fun kq v8 v9 w'=>∃ (x8_2:List (List Int)) (x9_2:Int),v9=.int .i64 x9_2∧Aside0 (spec_trGroups.l0 kq l0 l1 a2 x8_2 x9_2=some r)∧Aside0 (kq≤kj9)∧Aside0 (Kd.N (Kd.slice 3 (Kd.int .i64)) 34 w' w.heap.size (fun k_=>(w.heap.size≤k_)) v8 x8_2)∧Aside0 (Below w.heap.size w w'))
    case atStart=>exact ⟨(([]:List (List Int))),(x7_9),(by first | rfl | (simp;done) | (simp [*];done)),H',⟨Nat.le_refl _⟩,⟨by first | exact Kd.S_nil _ _ _ _ _ | exact Kd.N_nil _ _ _ _ _ | exact Kd.V_nil _ _ _ _ _ | exact Kd.Q_nil _ _ _ _ _ | exact Kd.R_nil _ _ _ _ _⟩,⟨by repeat first | exact HB.out | apply zz2 | apply zz0 | apply zz1⟩⟩
    case round =>
     clear H'
     try clear c1
     try clear p1
     try clear q1
     try clear hx1
     try clear p2
     try clear c3
     try clear c4
     try clear c4b0
     try clear c4b1
     try clear c6
     try clear p6
     try clear c11
     try clear c11b0
     try clear c11b1
     try clear p12
     try clear q12
     try clear hx12
     try clear c13
     try clear c13b0
     try clear c14
     try clear c14b0
     try clear hx129_0
     try clear p1
     try clear p12
     try clear p129
     try clear p2
     try clear p6
     try clear q1
     try clear q12
     try clear q129
     obtain ⟨x8_2,x9_2,rfl,HA,HK2,HO_8,HB⟩:=hrel
     cases gk with
     | zero=>exact absurd HA.out (by simp [spec_trGroups.l0])
     | succ k2 =>
      have H:=HA.out
      clear HA
      simp only [spec_trGroups.l0] at H
      by_cases c15:x9_2 < (l0.length:Int)
      ·rw [if_pos c15] at H
       have c15b0:decide (x9_2 < (l0.length:Int))=true:=decide_eq_true c15
       clear c15
       replace H:=zz30.mp H
       obtain ⟨t130,A160,H⟩:=H
       replace H:(if t130=true then ((spec_l1Own.f l1).bind fun t131=>(if t131.length < 17592186044416 then ((spec_trGroups.f k2 l0 (t131 ++ [x9_2]) a2).bind fun t137=>(if x8_2.length+t137.length < 5864062014805 then (spec_trGroups.l0 k2 l0 l1 a2 (x8_2 ++ t137) (wrap64 (x9_2+1))) else (none))) else (none))) else (spec_trGroups.l0 k2 l0 l1 a2 x8_2 (wrap64 (x9_2+1))))=some r:=H
       have A16:=zz31 A160
       clear A160
       by_cases c17:t130=true
       ·subst c17
        have H1:((spec_l1Own.f l1).bind fun t131=>(if t131.length < 17592186044416 then ((spec_trGroups.f k2 l0 (t131 ++ [x9_2]) a2).bind fun t137=>(if x8_2.length+t137.length < 5864062014805 then (spec_trGroups.l0 k2 l0 l1 a2 (x8_2 ++ t137) (wrap64 (x9_2+1))) else (none))) else (none)))=some r:=by rw [if_pos rfl] at H;exact H
        clear H
        have H:=H1
        clear H1
        replace H:=zz30.mp H
        obtain ⟨t131,A180,H⟩:=H
        replace H:(if t131.length < 17592186044416 then ((spec_trGroups.f k2 l0 (t131 ++ [x9_2]) a2).bind fun t137=>(if x8_2.length+t137.length < 5864062014805 then (spec_trGroups.l0 k2 l0 l1 a2 (x8_2 ++ t137) (wrap64 (x9_2+1))) else (none))) else (none))=some r:=H
        have A18:=zz31 A180
        clear A180
        by_cases c19:t131.length < 17592186044416
        ·rw [if_pos c19] at H
         have LMc19:=zz31 c19
         clear c19
         obtain ⟨y134,hy134⟩:∃ y_:List Int,y_=(t131 ++ [x9_2]):=⟨_,rfl⟩
         replace H:((spec_trGroups.f k2 l0 y134 a2).bind fun t137=>(if x8_2.length+t137.length < 5864062014805 then (spec_trGroups.l0 k2 l0 l1 a2 (x8_2 ++ t137) (wrap64 (x9_2+1))) else (none)))=some r:=by first | (rw [hy134];with_reducible exact H) | (have H2_:=(Option.bind_some _ _).symm.trans H;rw [hy134];with_reducible exact H2_) | (have H2_:=(Option.bind_some _ _).symm.trans H;with_reducible exact H2_) | with_reducible exact H | (rw [hy134];exact H) | exact H
         have Ny134:=zz31 hy134
         clear hy134
         replace H:=zz30.mp H
         obtain ⟨t137,A200,H⟩:=H
         replace H:(if x8_2.length+t137.length < 5864062014805 then (spec_trGroups.l0 k2 l0 l1 a2 (x8_2 ++ t137) (wrap64 (x9_2+1))) else (none))=some r:=H
         have A20:=zz31 A200
         clear A200
         by_cases c21:x8_2.length+t137.length < 5864062014805
         ·rw [if_pos c21] at H
          have LMc21:=zz31 c21
          clear c21
          obtain ⟨y140,hy140⟩:∃ y_:List (List Int),y_=(x8_2 ++ t137):=⟨_,rfl⟩
          replace H:(spec_trGroups.l0 k2 l0 l1 a2 y140 (wrap64 (x9_2+1)))=some r:=by first | (rw [hy140];with_reducible exact H) | (have H2_:=(Option.bind_some _ _).symm.trans H;rw [hy140];with_reducible exact H2_) | (have H2_:=(Option.bind_some _ _).symm.trans H;with_reducible exact H2_) | with_reducible exact H | (rw [hy140];exact H) | exact H
          have Ny140:=zz31 hy140
          clear hy140
          have H':=zz31 H
          clear H
          go_wp2_with (first | ((with_reducible refine gate_callee (f:=63) rfl ?_);refine goesL_ (some 37) rfl rfl Tryd.func63 (by kernel_rfl) rfl #[.slice A0 l0.length c0,.slice A1 l1.length c1,.int .i64 x9_2] rfl (by (try simp only [zz26,zz27,zz28]);first | done | rfl | (simp only [zz24,zz25];rfl)) ?_;(with_reducible refine (spec_trKnows.calls k2 _ _ l0 _ _ l1 x9_2 true _ ?side1 ?side2 ?side3 ?side4 A16.out).mono ?_);(case side1=>repeat (first | exact (Kd.C_below HR0.out HB.out) | (with_reducible refine zz18 ?_ _) | (with_reducible refine zz19 ?_ _) | (with_reducible refine zz20 ?_)));(case side2=>exact HC0.out);(case side3=>repeat (first | exact (Kd.C_below HR1.out HB.out) | (with_reducible refine zz18 ?_ _) | (with_reducible refine zz19 ?_ _) | (with_reducible refine zz20 ?_)));(case side4=>exact HC1.out);rintro e w' ⟨rfl,⟨nd,rfl⟩⟩;refine ⟨_,rfl,?_⟩) | ((with_reducible refine gate_callee (f:=62) rfl ?_);refine goesL_ (some 41) rfl rfl Tryd.func62 (by kernel_rfl) rfl #[.slice A1 l1.length c1] rfl (by (try simp only [zz26,zz27,zz28]);first | done | rfl | (simp only [zz24,zz25];rfl)) ?_;(with_reducible refine (spec_l1Own.calls _ _ l1 t131 _ ?side1 ?side2 A18.out).mono ?_);(case side1=>repeat (first | exact (Kd.C_below HR1.out (by repeat first | exact HB.out | apply zz2 | apply zz0 | apply zz1)) | (with_reducible refine zz18 ?_ _) | (with_reducible refine zz19 ?_ _) | (with_reducible refine zz20 ?_)));(case side2=>exact HC1.out);rintro e w22 ⟨v132,rfl,ho0,hb⟩;refine ⟨_,rfl,?_⟩;have n0_:=zz31 (Kd.N_elder' (by (with_reducible repeat (first | apply Kd.N_alloc | apply Kd.N_drewN | apply Kd.N_drew));exact HO_8.out) (Kd.R_base ho0) hb);have n1_:=zz31 (Kd.R_lower (Kd.R_newM (M:=fun k_=>(w.heap.size≤k_)) ho0 (zz5 (by repeat first | exact HB.out | apply zz2 | apply zz0 | apply zz1)) (fun k_ h_=>h_)) (zz5 (by repeat first | exact HB.out | apply zz2 | apply zz0 | apply zz1)));have n2_:=zz31 (zz4 (by repeat first | exact HB.out | apply zz2 | apply zz0 | apply zz1) hb);clear HO_8;clear HB;have HO_8:=n0_;have HO133:=n1_;have HB:=n2_;clear n0_ n1_ n2_;(try clear hb);(try clear hb2);(try clear hk);(try clear hi);(try clear ho0)) | ((with_reducible refine gate_builtin (b:=.append) (xs:=#[.tmp 41,.tmp 43]) rfl ?_);at_builtin;refine Kd.R_append (Kd.int .i64) (w0:=w) w.heap.size rfl (.tmp 41) (.tmp 43) 34 3 (.int .i64 0) 8 rfl Tryd.underlying34 info3 rfl (by decide) (by omega) v132 t131 x9_2 [.int .i64 x9_2] (fun k_=>(w.heap.size≤k_)) (fun _=>False) rfl rfl ?aP (fun _ hk=>hk.elim) ?aF ?aO ?aB ?aS ?aL ?_;(case aP=>exact rfl);(case aB=>exact (by repeat first | exact HB.out | apply zz2 | apply zz0 | apply zz1));(case aF=>exact (fun k_ hk=>(Nat.le_trans (zz5 (by repeat first | exact HB.out | apply zz2 | apply zz0 | apply zz1)) hk)));(case aO=>exact (by (with_reducible repeat (first | apply zz12 | apply zz13 | apply zz14));exact Kd.R_mono HO133.out (fun _ hk=>hk.1)));(case aS=>exact (zz5 (by repeat first | exact HB.out | apply zz2 | apply zz0 | apply zz1)));(case aL=>have:=LMc19.out;omega);intro v135 w23 ho hb hg hat;rw [← Ny134.out] at ho;have n0_:=zz31 (Kd.N_afterv (ok:=(fun k_=>(w.heap.size≤k_))) (by (with_reducible repeat (first | apply Kd.N_alloc | apply Kd.N_drewN | apply Kd.N_drew));exact HO_8.out) hg hat);have n1_:=zz31 (hb);have n2_:=zz31 (ho);clear HO_8;clear HB;clear HO133;have HO_8:=n0_;have HB:=n1_;have HO136:=n2_;clear n0_ n1_ n2_;clear ho hb hg hat;obtain ⟨Ao24,co24,eo24⟩:=Kd.R_slice HO136.out;subst eo24) | ((with_reducible refine gate_callee (f:=32) rfl ?_);refine goesL_ (some 46) rfl rfl Tryd.func32 (by kernel_rfl) rfl #[.slice A0 l0.length c0,.slice Ao24 y134.length co24,.int .i64 a2] rfl (by (try simp only [zz26,zz27,zz28]);first | done | rfl | (simp only [zz24,zz25];rfl)) ?_;(with_reducible refine (ih k2 (by have:=HJ9.out;have:=HK2.out;omega) _ _ l0 _ _ y134 a2 t137 _ ?side1 ?side2 ?side3 ?side4 A20.out).mono ?_);(case side1=>repeat (first | exact (Kd.C_below HR0.out HB.out) | (with_reducible refine zz18 ?_ _) | (with_reducible refine zz19 ?_ _) | (with_reducible refine zz20 ?_)));(case side2=>exact HC0.out);(case side3=>repeat (first | exact (Kd.R_reads' HO136.out).2.2 | (with_reducible refine zz18 ?_ _) | (with_reducible refine zz19 ?_ _) | (with_reducible refine zz20 ?_)));(case side4=>exact (Kd.R_reads' HO136.out).2.1);rintro e w25 ⟨v138,rfl,ho0,hb⟩;refine ⟨_,rfl,?_⟩;have n0_:=zz31 (Kd.N_elder' (by (with_reducible repeat (first | apply Kd.N_alloc | apply Kd.N_drewN | apply Kd.N_drew));exact HO_8.out) (Kd.N_base ho0) hb);have n1_:=zz31 (Kd.R_below (by (with_reducible repeat (first | apply zz12 | apply zz13 | apply zz14));exact HO136.out) hb);have n2_:=zz31 (Kd.N_lower (Kd.N_mono (ok':=fun k_=>(w.heap.size≤k_)∧some k_ ≠ (u8:Value).ownBlock∧some k_ ≠ (.slice Ao24 y134.length co24:Value).ownBlock) ho0 (fun k_ hk_=>⟨(Nat.le_trans (zz5 (by repeat first | exact HB.out | apply zz2 | apply zz0 | apply zz1)) hk_),(Kd.fresh' (Kd.N_lt (by (with_reducible repeat (first | apply Kd.N_alloc | apply Kd.N_drewN | apply Kd.N_drew));exact HO_8.out)) k_ hk_),(Kd.fresh' (Kd.R_lt (by (with_reducible repeat (first | apply zz12 | apply zz13 | apply zz14));exact HO136.out)) k_ hk_)⟩)) (zz5 (by repeat first | exact HB.out | apply zz2 | apply zz0 | apply zz1)));have n3_:=zz31 (zz4 (by repeat first | exact HB.out | apply zz2 | apply zz0 | apply zz1) hb);clear HO_8;clear HO136;clear HB;have HO_8:=n0_;have HO136:=n1_;have HO139:=n2_;have HB:=n3_;clear n0_ n1_ n2_ n3_;(try clear hb);(try clear hb2);(try clear hk);(try clear hi);(try clear ho0);obtain ⟨Ao27,co27,eo27⟩:=Kd.N_slice HO139.out;subst eo27) | ((with_reducible refine gate_builtin (b:=.append) (xs:=#[.tmp 38,.tmp 46]) rfl ?_);at_builtin;refine Kd.N_append_rows (Kd.slice 3 (Kd.int .i64)) (w0:=w) w.heap.size rfl (.tmp 38) (.tmp 46) 47 34 (.slice none 0 0) 24 rfl Tryd.underlying47 info34 rfl (by decide) (by omega) u8 x8_2 t137 _ _ _ (fun k_=>(w.heap.size≤k_)∧some k_ ≠ (.slice Ao24 y134.length co24:Value).ownBlock) (fun k_=>((fun k_=>(w.heap.size≤k_)∧some k_ ≠ (.slice Ao24 y134.length co24:Value).ownBlock)) k_∧some k_ ≠ (u8:Value).ownBlock) rfl rfl ?aO ?aR (fun _ hk=>hk) ?aF ?aB ?aS ?aL ?_;(case aR=>exact (by skip;exact Kd.N_F (Kd.N_mono (ok':=(fun k_=>((fun k_=>(w.heap.size≤k_)∧some k_ ≠ (.slice Ao24 y134.length co24:Value).ownBlock)) k_∧some k_ ≠ (u8:Value).ownBlock)) (HO139.out) (fun k_ hk=>⟨⟨hk.1,hk.2.2⟩,hk.2.1⟩))));(case aB=>exact (by repeat first | exact HB.out | apply zz2 | apply zz0 | apply zz1));(case aF=>exact (fun k_ hk=>⟨(Nat.le_trans (zz5 (by repeat first | exact HB.out | apply zz2 | apply zz0 | apply zz1)) hk),Kd.fresh' (Kd.R_lt (by (with_reducible repeat (first | apply zz12 | apply zz13 | apply zz14));exact HO136.out)) k_ hk⟩));(case aO=>exact (by (with_reducible repeat (first | apply Kd.N_alloc | apply Kd.N_drewN | apply Kd.N_drew));exact Kd.N_mono HO_8.out (fun _ hk=>⟨hk.1.1,hk.1.2⟩)));(case aS=>exact (zz5 (by repeat first | exact HB.out | apply zz2 | apply zz0 | apply zz1)));(case aL=>have:=LMc21.out;omega);intro v141 w26 ho hb hg hat;rw [← Ny140.out] at ho;have n0_:=zz31 (Kd.R_over' (by (with_reducible repeat (first | apply zz12 | apply zz13 | apply zz14));exact HO136.out) (Kd.N_typed (by (with_reducible repeat (first | apply Kd.N_alloc | apply Kd.N_drewN | apply Kd.N_drew));exact HO_8.out)) (by decide) hg);have n1_:=zz31 (Kd.N_afterv (ok:=(fun k_=>(w.heap.size≤k_)∧some k_ ≠ (.slice Ao24 y134.length co24:Value).ownBlock)) (by (with_reducible repeat (first | apply Kd.N_alloc | apply Kd.N_drewN | apply Kd.N_drew));exact Kd.N_mono HO139.out (fun _ hk=>⟨⟨hk.1,hk.2.2⟩,hk.2.1⟩)) hg hat);have n2_:=zz31 (hb);have n3_:=zz31 (ho);clear HO136;clear HO139;clear HB;clear HO_8;have HO136:=n0_;have HO139:=n1_;have HB:=n2_;have HO142:=n3_;clear n0_ n1_ n2_ n3_;clear ho hb hg hat))
          go_roundg k2
          case measure=>have:=HJ9.out;have:=HK2.out;omega
          case rel=>exact ⟨(y140),(wrap64 (x9_2+1)),(by first | rfl | (simp;done) | (simp [*];done)),H',⟨by have:=HJ9.out;have:=HK2.out;omega⟩,⟨by (with_reducible repeat (first | apply Kd.N_alloc | apply Kd.N_drewN | apply Kd.N_drew));exact Kd.N_mono HO142.out (fun _ hk=>hk.1)⟩,⟨by repeat first | exact HB.out | apply zz2 | apply zz0 | apply zz1⟩⟩
         ·rw [if_neg c21] at H
          exact absurd H (by simp)
        ·rw [if_neg c19] at H
         exact absurd H (by simp)
       ·replace c17:=Bool.eq_false_iff.mpr c17
        subst c17
        have H1:(spec_trGroups.l0 k2 l0 l1 a2 x8_2 (wrap64 (x9_2+1)))=some r:=by rw [if_neg (show ¬ (false=true) by decide)] at H;exact H
        clear H
        have H:=H1
        clear H1
        have H':=zz31 H
        clear H
        go_wp2_with (first | ((with_reducible refine gate_callee (f:=63) rfl ?_);refine goesL_ (some 37) rfl rfl Tryd.func63 (by kernel_rfl) rfl #[.slice A0 l0.length c0,.slice A1 l1.length c1,.int .i64 x9_2] rfl (by (try simp only [zz26,zz27,zz28]);first | done | rfl | (simp only [zz24,zz25];rfl)) ?_;(with_reducible refine (spec_trKnows.calls k2 _ _ l0 _ _ l1 x9_2 false _ ?side1 ?side2 ?side3 ?side4 A16.out).mono ?_);(case side1=>repeat (first | exact (Kd.C_below HR0.out HB.out) | (with_reducible refine zz18 ?_ _) | (with_reducible refine zz19 ?_ _) | (with_reducible refine zz20 ?_)));(case side2=>exact HC0.out);(case side3=>repeat (first | exact (Kd.C_below HR1.out HB.out) | (with_reducible refine zz18 ?_ _) | (with_reducible refine zz19 ?_ _) | (with_reducible refine zz20 ?_)));(case side4=>exact HC1.out);rintro e w' ⟨rfl,⟨nd,rfl⟩⟩;refine ⟨_,rfl,?_⟩))
        go_roundg k2
        case measure=>have:=HJ9.out;have:=HK2.out;omega
        case rel=>exact ⟨(x8_2),(wrap64 (x9_2+1)),(by first | rfl | (simp;done) | (simp [*];done)),H',⟨by have:=HJ9.out;have:=HK2.out;omega⟩,⟨by (with_reducible repeat (first | apply Kd.N_alloc | apply Kd.N_drewN | apply Kd.N_drew));exact HO_8.out⟩,⟨by repeat first | exact HB.out | apply zz2 | apply zz0 | apply zz1⟩⟩
      ·rw [if_neg c15] at H
       have c15b0:decide (x9_2 < (l0.length:Int))=false:=decide_eq_false c15
       clear c15
       obtain rfl:=Option.some.inj H
       go_wp2
       go_ret
       exact ⟨_,by first | rfl | (simp [errW_none,errW_some] <;> rfl) | (simp [*,errW_none,errW_some] <;> rfl),by (with_reducible repeat (first | apply Kd.N_alloc | apply Kd.N_drewN | apply Kd.N_drew));exact HO_8.out,by repeat first | exact HB.out | apply zz2 | apply zz0 | apply zz1⟩

end Go.Proofs.YtifkaefccghgdaaDoor.P
