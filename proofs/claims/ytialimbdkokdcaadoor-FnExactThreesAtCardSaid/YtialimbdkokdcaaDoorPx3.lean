-- PRINTED by print.py (a twelfth state) out of the translation. Not trusted: Lean checks it.
import Derived.Test.YtialimbdkokdcaaDoorPx0
import Derived.Test.YtialimbdkokdcaaDoorPx1
import Derived.Test.YtialimbdkokdcaaDoorPx2
import Derived.Test.YtialimbdkokdcaaDoorPx4
import Derived.Test.YtialimbdkokdcaaDoorPx5
namespace Go.Proofs.YtialimbdkokdcaaDoor.P
open Go.RowKit Go.Proofs.YtialimbdkokdcaaDoorW.PrintWords Go.Proofs.YtialimbdkokdcaaDoorW.PrintLast Go.Proofs.YtialimbdkokdcaaDoorW.PrintMore
open Bool renaming true → T, false → F
attribute [local go_sem] max2_int min2_int max_two min_two max_three min_three max_four min_four   -- for this text's walks alone
set_option linter.unusedVariables false
set_option linter.unusedSimpArgs false

/-! ### spec_l1Own: function 42 -/
def spec_l1Own.f (l0:List Int):Option (List Int):=(some (([]:List Int):List Int)).bind fun y116=>(if y116.length+l0.length < 17592186044416 then (some (y116 ++ l0)) else (none))
set_option maxHeartbeats 8000000 in
set_option maxRecDepth 100000 in
theorem spec_l1Own.calls (A0:Option Addr) (c0:Nat) (l0:List Int) (r:List Int) (w:World) (hr0:Kd.C (Kd.int .i64) w A0 l0.length l0) (hc0:l0.length≤c0) (h:spec_l1Own.f l0=some r) :
  Calls Tryd.prog 42 #[.slice A0 l0.length c0] w fun e w'=>∃ v0_:Value,e=.returned (v0_)∧Kd.R (Kd.int .i64) 3 w' w.heap.size (fun _=>True) v0_ r∧Below w.heap.size w w':=by
 have HR0:=zz31 hr0
 have HC0:=zz31 hc0
 clear hr0 hc0
 have HB:=zz31 (Below.refl w.heap.size w)
 have H:((some (([]:List Int):List Int)).bind fun y116=>(if y116.length+l0.length < 17592186044416 then (some (y116 ++ l0)) else (none)))=some r:=h
 clear h
 obtain ⟨y116,hy116⟩:∃ y_:List Int,y_=(([]:List Int)):=⟨_,rfl⟩
 replace H:(if y116.length+l0.length < 17592186044416 then (some (y116 ++ l0)) else (none))=some r:=by first | (rw [hy116];with_reducible exact H) | (have H2_:=(Option.bind_some _ _).symm.trans H;rw [hy116];with_reducible exact H2_) | (have H2_:=(Option.bind_some _ _).symm.trans H;with_reducible exact H2_) | with_reducible exact H | (rw [hy116];exact H) | exact H
 have Ny116:=zz31 hy116
 clear hy116
 by_cases c2:y116.length+l0.length < 17592186044416
 ·rw [if_pos c2] at H
  have LMc2:=zz31 c2
  clear c2
  obtain ⟨y119,hy119⟩:∃ y_:List Int,y_=(y116 ++ l0):=⟨_,rfl⟩
  replace H:(some y119)=some r:=by first | (rw [hy119];with_reducible exact H) | (have H2_:=(Option.bind_some _ _).symm.trans H;rw [hy119];with_reducible exact H2_) | (have H2_:=(Option.bind_some _ _).symm.trans H;with_reducible exact H2_) | with_reducible exact H | (rw [hy119];exact H) | exact H
  have Ny119:=zz31 hy119
  clear hy119
  obtain rfl:=Option.some.inj H
  go_enter Tryd.func42,Tryd.ntmps42
  go_wp2_with (first | ((with_reducible refine gate_dst (N:=3) rfl ?_);refine Kd.R_lit (Kd.int .i64) _ 3 ?hg (N:=3) ?hd (xs:=([]:List Int)) (inner:=[]) (ok:=fun _=>True) (okp:=fun _=>True) ?hr ?hp (fun _ hk=>hk) trivial (Below.refl _ _) (Nat.le_refl _) (by simp) ?_;(case hd=>rfl);(case hg=>rfl);(case hr=>first | (go_simp;done) | (go_simp;rfl));(case hp=>exact (Reps.none _ _));intro v117 w3 ho4 hb hg_ hnew_;clear hg_ hnew_;(first | rw [← Ny116.out] at ho4 | (simp only [Int.reduceToNat] at ho4;rw [← Ny116.out] at ho4));have n0_:=zz31 (Kd.R_lower ho4 (zz5 (by repeat first | exact HB.out | apply zz2 | apply zz0 | apply zz1)));have n1_:=zz31 (zz4 (by repeat first | exact HB.out | apply zz2 | apply zz0 | apply zz1) hb);clear HB;have HO118:=n0_;have HB:=n1_;clear n0_ n1_;clear hb ho4) | ((with_reducible refine gate_builtin (b:=.append) (xs:=#[.tmp 3,.tmp 4]) rfl ?_);at_builtin;refine Kd.R_append_rows (Kd.int .i64) (w0:=w) w.heap.size rfl (.tmp 3) (.tmp 4) 34 3 (.int .i64 0) 8 rfl Tryd.underlying34 info3 rfl (by decide) (by omega) v117 y116 l0 _ _ _ (fun _=>True) (fun _=>False) rfl rfl ?aO ?aR (fun _ _ h=>h) (fun _ h=>h.elim) ?aF ?aB ?aS ?aL ?_;(case aR=>repeat (first | exact (Kd.C_below HR0.out HB.out) | (with_reducible refine zz18 ?_ _) | (with_reducible refine zz19 ?_ _) | (with_reducible refine zz20 ?_)));(case aB=>exact (by repeat first | exact HB.out | apply zz2 | apply zz0 | apply zz1));(case aF=>exact (fun _ _=>trivial));(case aO=>exact (by (with_reducible repeat (first | apply zz12 | apply zz13 | apply zz14));exact HO118.out));(case aS=>exact (zz5 (by repeat first | exact HB.out | apply zz2 | apply zz0 | apply zz1)));(case aL=>have:=LMc2.out;omega);intro v120 w5 ho hb hg hat;rw [← Ny119.out] at ho;have n0_:=zz31 (hb);have n1_:=zz31 (ho);clear HB;clear HO118;have HB:=n0_;have HO121:=n1_;clear n0_ n1_;clear ho hb hg hat))
  go_ret
  exact ⟨_,by first | rfl | (simp [errW_none,errW_some] <;> rfl) | (simp [*,errW_none,errW_some] <;> rfl),by (with_reducible repeat (first | apply zz12 | apply zz13 | apply zz14));exact HO121.out,by repeat first | exact HB.out | apply zz2 | apply zz0 | apply zz1⟩
 ·rw [if_neg c2] at H
  exact absurd H (by simp)

/-! ### spec_trKnows: function 43 -/
def spec_trKnows.l0:Nat→List (List Bool)→Int→List Int→Int→Int→Option (Bool)
 | 0,_,_,_,_,_=>none
 | k+1,x0,x2,x9,x10,x11=>if x11 < x10 then (if 0≤x11 then (if x11 < (x9.length:Int) then (if 0≤x2 then (if x2 < (x0.length:Int) then (if 0≤(rd x9 x11) then (if (rd x9 x11) < ((rd_L4 x0 x2).length:Int) then (if (rdOf false (rd_L4 x0 x2) (rd x9 x11)=true) then (spec_trKnows.l0 k x0 x2 x9 x10 (wrap64 (x11+1))) else (some false)) else (none)) else (none)) else (none)) else (none)) else (none)) else (none)) else (some true)
def spec_trKnows.f (k:Nat) (l0:List (List Bool)) (l1:List Int) (a2:Int):Option (Bool):=spec_trKnows.l0 k l0 a2 l1 (l1.length:Int) 0
theorem spec_trKnows.mono_l:∀ k,(∀ y0 y1 y2 y3 y4,LeO (spec_trKnows.l0 k y0 y1 y2 y3 y4) (spec_trKnows.l0 (k+1) y0 y1 y2 y3 y4))
 | 0=>fun _ _ _ _ _ r h=>by simp [spec_trKnows.l0] at h
 | k+1=>by
  have ih0:=spec_trKnows.mono_l k
  ·intro y0 y1 y2 y3 y4
   unfold spec_trKnows.l0
   repeat' first
   | (with_reducible exact ih0 _ _ _ _ _)
   | (with_reducible exact LeO.refl _)
   | (with_reducible exact LeO.none _)
   | (with_reducible refine LeO.ite ?_ ?_)
   | (with_reducible refine LeO.bind ?_ (fun _=>?_))
   | exact ih0 _ _ _ _ _
   | exact LeO.none _
   | refine LeO.ite ?_ ?_
   | refine LeO.bind ?_ (fun _=>?_)
theorem spec_trKnows.mono:∀ a0 a1 a2 k,LeO (spec_trKnows.f k a0 a1 a2) (spec_trKnows.f (k+1) a0 a1 a2):=by
 intro a0 a1 a2 k
 have ih0:=spec_trKnows.mono_l k
 unfold spec_trKnows.f
 repeat' first
   | (with_reducible exact ih0 _ _ _ _ _)
   | (with_reducible exact LeO.refl _)
   | (with_reducible exact LeO.none _)
   | (with_reducible refine LeO.ite ?_ ?_)
   | (with_reducible refine LeO.bind ?_ (fun _=>?_))
   | exact ih0 _ _ _ _ _
   | exact LeO.none _
   | refine LeO.ite ?_ ?_
   | refine LeO.bind ?_ (fun _=>?_)
set_option maxHeartbeats 8000000 in
set_option maxRecDepth 100000 in
theorem spec_trKnows.calls (k:Nat) (A0:Option Addr) (c0:Nat) (l0:List (List Bool)) (A1:Option Addr) (c1:Nat) (l1:List Int) (a2:Int) (r:Bool) (w:World) (hr0:Kd.C (Kd.slice 4 Kd.bool) w A0 l0.length l0) (hc0:l0.length≤c0) (hr1:Kd.C (Kd.int .i64) w A1 l1.length l1) (hc1:l1.length≤c1) (h:spec_trKnows.f k l0 l1 a2=some r) :
  Calls Tryd.prog 43 #[.slice A0 l0.length c0,.slice A1 l1.length c1,.int .i64 a2] w fun e w'=>e=.returned (.bool r)∧Drawn0 w w':=by
 have HR0:=zz31 hr0
 have HC0:=zz31 hc0
 clear hr0 hc0
 have HR1:=zz31 hr1
 have HC1:=zz31 hc1
 clear hr1 hc1
 have H:(spec_trKnows.l0 k l0 a2 l1 (l1.length:Int) 0)=some r:=h
 clear h
 have H':=zz31 H
 clear H
 go_enter Tryd.func43,Tryd.ntmps43
 go_wp2
 go_loopg [11] k (fun kq v11 w'=>∃ (x11_1:Int),v11=.int .i64 x11_1∧Aside0 (spec_trKnows.l0 kq l0 a2 l1 (l1.length:Int) x11_1=some r)∧Aside0 (kq≤k)∧Drawn0 w w')
 case atStart=>exact ⟨(0),(by first | rfl | (simp;done) | (simp [*];done)),H',⟨Nat.le_refl _⟩,by repeat (first | exact Drawn0.refl _ | apply Drawn0.step)⟩
 case round =>
  clear H'
  try clear c1
  try clear p2
  obtain ⟨x11_1,rfl,HA,HK1,⟨m1,rfl⟩⟩:=hrel
  cases gk with
  | zero=>exact absurd HA.out (by simp [spec_trKnows.l0])
  | succ k1 =>
   have H:=HA.out
   clear HA
   simp only [spec_trKnows.l0] at H
   by_cases c4:x11_1 < (l1.length:Int)
   ·rw [if_pos c4] at H
    have c4b0:decide (x11_1 < (l1.length:Int))=true:=decide_eq_true c4
    clear c4
    by_cases c5:0≤x11_1
    ·rw [if_pos c5] at H
     have c5b0:decide (0≤x11_1)=true:=decide_eq_true c5
     clear c5
     by_cases c6:x11_1 < (l1.length:Int)
     ·rw [if_pos c6] at H
      have c6b0:decide (x11_1 < (l1.length:Int))=true:=decide_eq_true c6
      clear c6
      by_cases c7:0≤a2
      ·rw [if_pos c7] at H
       have c7b0:decide (0≤a2)=true:=decide_eq_true c7
       clear c7
       by_cases c8:a2 < (l0.length:Int)
       ·rw [if_pos c8] at H
        have c8b0:decide (a2 < (l0.length:Int))=true:=decide_eq_true c8
        clear c8
        by_cases c9:0≤(rd l1 x11_1)
        ·rw [if_pos c9] at H
         have c9b0:decide (0≤(rd l1 x11_1))=true:=decide_eq_true c9
         clear c9
         by_cases c10:(rd l1 x11_1) < ((rd_L4 l0 a2).length:Int)
         ·rw [if_pos c10] at H
          have c10b0:decide ((rd l1 x11_1) < ((rd_L4 l0 a2).length:Int))=true:=decide_eq_true c10
          clear c10
          obtain ⟨bq11,hbq11⟩:∃ b_:Bool,b_=(rdOf false (rd_L4 l0 a2) (rd l1 x11_1)):=⟨_,rfl⟩
          replace H:(if (bq11=true) then (spec_trKnows.l0 k1 l0 a2 l1 (l1.length:Int) (wrap64 (x11_1+1))) else (some false))=some r:=by rw [← hbq11] at H;exact H
          have Nbq11:=zz31 hbq11
          clear hbq11
          by_cases c12:(bq11=true)
          ·subst c12
           have H1:(spec_trKnows.l0 k1 l0 a2 l1 (l1.length:Int) (wrap64 (x11_1+1)))=some r:=by rw [if_pos rfl] at H;exact H
           clear H
           have H:=H1
           clear H1
           have H':=zz31 H
           clear H
           have p122:0≤(x11_1:Int):=zz29 (by first | (with_reducible assumption) | assumption)
           have q122:x11_1 < (l1.length:Int):=zz29 (by first | (with_reducible assumption) | assumption)
           obtain ⟨ad122,e122,hx122_0⟩:=Kd.at_int HR1.out x11_1 p122 q122
           cases e122
           replace p122:=eq_true p122
           replace q122:=eq_true q122
           have p123:0≤(a2:Int):=zz29 (by first | (with_reducible assumption) | assumption)
           have q123:a2 < (l0.length:Int):=zz29 (by first | (with_reducible assumption) | assumption)
           obtain ⟨ad123,A123_0,c123_0,e123,hx123_0,hl123_0,hi123_0⟩:=at_L4 HR0.out a2 p123 q123
           cases e123
           have HR123_0:=zz31 hi123_0
           have HC123_0:=zz31 hl123_0
           clear hi123_0 hl123_0
           replace p123:=eq_true p123
           replace q123:=eq_true q123
           have p124:0≤((rd l1 x11_1):Int):=zz29 (by first | (with_reducible assumption) | assumption)
           have q124:(rd l1 x11_1) < ((rd_L4 l0 a2).length:Int):=zz29 (by first | (with_reducible assumption) | assumption)
           obtain ⟨ad124,e124,hx124_0⟩:=Kd.at_bool HR123_0.out (rd l1 x11_1) p124 q124
           (try rw [← Nbq11.out] at hx124_0)
           cases e124
           replace p124:=eq_true p124
           replace q124:=eq_true q124
           go_wp2
           go_roundg k1
           case measure=>have:=HK1.out;omega
           case rel=>exact ⟨(wrap64 (x11_1+1)),(by first | rfl | (simp;done) | (simp [*];done)),H',⟨by have:=HK1.out;omega⟩,by repeat (first | exact Drawn0.refl _ | apply Drawn0.step)⟩
          ·replace c12:=Bool.eq_false_iff.mpr c12
           subst c12
           have H1:(some false)=some r:=by rw [if_neg (show ¬ (false=true) by decide)] at H;exact H
           clear H
           have H:=H1
           clear H1
           obtain rfl:=Option.some.inj H
           have p122:0≤(x11_1:Int):=zz29 (by first | (with_reducible assumption) | assumption)
           have q122:x11_1 < (l1.length:Int):=zz29 (by first | (with_reducible assumption) | assumption)
           obtain ⟨ad122,e122,hx122_0⟩:=Kd.at_int HR1.out x11_1 p122 q122
           cases e122
           replace p122:=eq_true p122
           replace q122:=eq_true q122
           have p123:0≤(a2:Int):=zz29 (by first | (with_reducible assumption) | assumption)
           have q123:a2 < (l0.length:Int):=zz29 (by first | (with_reducible assumption) | assumption)
           obtain ⟨ad123,A123_0,c123_0,e123,hx123_0,hl123_0,hi123_0⟩:=at_L4 HR0.out a2 p123 q123
           cases e123
           have HR123_0:=zz31 hi123_0
           have HC123_0:=zz31 hl123_0
           clear hi123_0 hl123_0
           replace p123:=eq_true p123
           replace q123:=eq_true q123
           have p124:0≤((rd l1 x11_1):Int):=zz29 (by first | (with_reducible assumption) | assumption)
           have q124:(rd l1 x11_1) < ((rd_L4 l0 a2).length:Int):=zz29 (by first | (with_reducible assumption) | assumption)
           obtain ⟨ad124,e124,hx124_0⟩:=Kd.at_bool HR123_0.out (rd l1 x11_1) p124 q124
           (try rw [← Nbq11.out] at hx124_0)
           cases e124
           replace p124:=eq_true p124
           replace q124:=eq_true q124
           go_wp2
           go_ret
           exact ⟨by first | rfl | (simp;done) | (simp [*];done),by repeat (first | exact Drawn0.refl _ | apply Drawn0.step)⟩
         ·rw [if_neg c10] at H
          exact absurd H (by simp)
        ·rw [if_neg c9] at H
         exact absurd H (by simp)
       ·rw [if_neg c8] at H
        exact absurd H (by simp)
      ·rw [if_neg c7] at H
       exact absurd H (by simp)
     ·rw [if_neg c6] at H
      exact absurd H (by simp)
    ·rw [if_neg c5] at H
     exact absurd H (by simp)
   ·rw [if_neg c4] at H
    have c4b0:decide (x11_1 < (l1.length:Int))=false:=decide_eq_false c4
    clear c4
    obtain rfl:=Option.some.inj H
    go_wp2
    go_ret
    exact ⟨by first | rfl | (simp;done) | (simp [*];done),by repeat (first | exact Drawn0.refl _ | apply Drawn0.step)⟩

/-! ### spec_trGroups: function 25 -/
mutual
def spec_trGroups.j0:Nat→List (List Bool)→List Int→Int→Int→Option ((List (List Int)))
 | 0,_,_,_,_=>none
 | k+1,x0,x1,x2,x7=>spec_trGroups.l0 k x0 x1 x2 ([]:List (List Int)) x7
def spec_trGroups.l0:Nat→List (List Bool)→List Int→Int→List (List Int)→Int→Option ((List (List Int)))
 | 0,_,_,_,_,_=>none
 | k+1,x0,x1,x2,x8,x9=>if x9 < (x0.length:Int) then ((spec_trKnows.f k x0 x1 x9).bind fun t132=>(if t132=true then ((spec_l1Own.f x1).bind fun t133=>(if t133.length < 17592186044416 then ((spec_trGroups.f k x0 (t133 ++ [x9]) x2).bind fun t139=>(if x8.length+t139.length < 5864062014805 then (spec_trGroups.l0 k x0 x1 x2 (x8 ++ t139) (wrap64 (x9+1))) else (none))) else (none))) else (spec_trGroups.l0 k x0 x1 x2 x8 (wrap64 (x9+1))))) else (some x8)
def spec_trGroups.f:Nat→List (List Bool)→List Int→Int→Option ((List (List Int)))
 | 0,_,_,_=>none
 | k+1,l0,l1,a2=>if (l1.length:Int)=a2 then ((spec_l1Own.f l1).bind fun t125=>(some (([t125]:List (List Int))))) else (if (l1.length:Int) > 0 then (if 0≤(wrap64 ((l1.length:Int) - 1)) then (if (wrap64 ((l1.length:Int) - 1)) < (l1.length:Int) then (spec_trGroups.j0 k l0 l1 a2 (wrap64 ((rd l1 (wrap64 ((l1.length:Int) - 1)))+1))) else (none)) else (none)) else (spec_trGroups.j0 k l0 l1 a2 0))
end
theorem spec_trGroups.mono_l:∀ k,(∀ y0 y1 y2,LeO (spec_trGroups.f k y0 y1 y2) (spec_trGroups.f (k+1) y0 y1 y2))∧(∀ y0 y1 y2 y3,LeO (spec_trGroups.j0 k y0 y1 y2 y3) (spec_trGroups.j0 (k+1) y0 y1 y2 y3))∧(∀ y0 y1 y2 y3 y4,LeO (spec_trGroups.l0 k y0 y1 y2 y3 y4) (spec_trGroups.l0 (k+1) y0 y1 y2 y3 y4))
 | 0=>⟨fun _ _ _ r h=>by simp [spec_trGroups.f] at h,fun _ _ _ _ r h=>by simp [spec_trGroups.j0] at h,fun _ _ _ _ _ r h=>by simp [spec_trGroups.l0] at h⟩
 | k+1=>by
  obtain ⟨ih0,ih1,ih2⟩:=spec_trGroups.mono_l k
  refine ⟨?_,?_,?_⟩
  ·intro y0 y1 y2
   unfold spec_trGroups.f
   repeat' first
   | (with_reducible exact ih0 _ _ _)
   | (with_reducible exact ih1 _ _ _ _)
   | (with_reducible exact ih2 _ _ _ _ _)
   | (with_reducible exact spec_trKnows.mono _ _ _ _)
   | (with_reducible exact LeO.refl _)
   | (with_reducible exact LeO.none _)
   | (with_reducible refine LeO.ite ?_ ?_)
   | (with_reducible refine LeO.bind ?_ (fun _=>?_))
   | exact ih0 _ _ _
   | exact ih1 _ _ _ _
   | exact ih2 _ _ _ _ _
   | exact spec_trKnows.mono _ _ _ _
   | exact LeO.none _
   | refine LeO.ite ?_ ?_
   | refine LeO.bind ?_ (fun _=>?_)
  ·intro y0 y1 y2 y3
   unfold spec_trGroups.j0
   repeat' first
   | (with_reducible exact ih0 _ _ _)
   | (with_reducible exact ih1 _ _ _ _)
   | (with_reducible exact ih2 _ _ _ _ _)
   | (with_reducible exact spec_trKnows.mono _ _ _ _)
   | (with_reducible exact LeO.refl _)
   | (with_reducible exact LeO.none _)
   | (with_reducible refine LeO.ite ?_ ?_)
   | (with_reducible refine LeO.bind ?_ (fun _=>?_))
   | exact ih0 _ _ _
   | exact ih1 _ _ _ _
   | exact ih2 _ _ _ _ _
   | exact spec_trKnows.mono _ _ _ _
   | exact LeO.none _
   | refine LeO.ite ?_ ?_
   | refine LeO.bind ?_ (fun _=>?_)
  ·intro y0 y1 y2 y3 y4
   unfold spec_trGroups.l0
   repeat' first
   | (with_reducible exact ih0 _ _ _)
   | (with_reducible exact ih1 _ _ _ _)
   | (with_reducible exact ih2 _ _ _ _ _)
   | (with_reducible exact spec_trKnows.mono _ _ _ _)
   | (with_reducible exact LeO.refl _)
   | (with_reducible exact LeO.none _)
   | (with_reducible refine LeO.ite ?_ ?_)
   | (with_reducible refine LeO.bind ?_ (fun _=>?_))
   | exact ih0 _ _ _
   | exact ih1 _ _ _ _
   | exact ih2 _ _ _ _ _
   | exact spec_trKnows.mono _ _ _ _
   | exact LeO.none _
   | refine LeO.ite ?_ ?_
   | refine LeO.bind ?_ (fun _=>?_)
theorem spec_trGroups.mono:∀ a0 a1 a2 k,LeO (spec_trGroups.f k a0 a1 a2) (spec_trGroups.f (k+1) a0 a1 a2):=by
 intro a0 a1 a2 k
 obtain ⟨ih0,ih1,ih2⟩:=spec_trGroups.mono_l k
 exact ih0 a0 a1 a2
set_option maxHeartbeats 8000000 in
set_option maxRecDepth 100000 in
theorem spec_trGroups.calls (k:Nat):∀ (A0:Option Addr) (c0:Nat) (l0:List (List Bool)) (A1:Option Addr) (c1:Nat) (l1:List Int) (a2:Int) (r:List (List Int)) (w:World) (hr0:Kd.C (Kd.slice 4 Kd.bool) w A0 l0.length l0) (hc0:l0.length≤c0) (hr1:Kd.C (Kd.int .i64) w A1 l1.length l1) (hc1:l1.length≤c1) (h:spec_trGroups.f k l0 l1 a2=some r),
  Calls Tryd.prog 25 #[.slice A0 l0.length c0,.slice A1 l1.length c1,.int .i64 a2] w fun e w'=>∃ v0_:Value,e=.returned (v0_)∧Kd.N (Kd.slice 3 (Kd.int .i64)) 34 w' w.heap.size (fun k_=>(w.heap.size≤k_)) v0_ r∧Below w.heap.size w w':=by
 induction k using Nat.strongRecOn with
 | _ k ih =>
 intro A0 c0 l0 A1 c1 l1 a2 r w hr0 hc0 hr1 hc1 h
 cases k with
 | zero=>exact absurd h (by simp [spec_trGroups.f])
 | succ k =>
 simp only [spec_trGroups.f] at h
 have HR0:=zz31 hr0
 have HC0:=zz31 hc0
 clear hr0 hc0
 have HR1:=zz31 hr1
 have HC1:=zz31 hc1
 clear hr1 hc1
 have HB:=zz31 (Below.refl w.heap.size w)
 have H:(if (l1.length:Int)=a2 then ((spec_l1Own.f l1).bind fun t125=>(some (([t125]:List (List Int))))) else (if (l1.length:Int) > 0 then (if 0≤(wrap64 ((l1.length:Int) - 1)) then (if (wrap64 ((l1.length:Int) - 1)) < (l1.length:Int) then (spec_trGroups.j0 k l0 l1 a2 (wrap64 ((rd l1 (wrap64 ((l1.length:Int) - 1)))+1))) else (none)) else (none)) else (spec_trGroups.j0 k l0 l1 a2 0)))=some r:=h
 clear h
 by_cases c4:(l1.length:Int)=a2
 ·rw [if_pos c4] at H
  have c4b0:((l1.length:Int) == a2)=true:=beq_iff_eq.mpr c4
  have c4b1:((l1.length:Int) != a2)=false:=bne_eq_false_iff_eq.mpr c4
  clear c4
  replace H:=zz30.mp H
  obtain ⟨t125,A50,H⟩:=H
  replace H:(some (([t125]:List (List Int))))=some r:=H
  have A5:=zz31 A50
  clear A50
  obtain ⟨y128,hy128⟩:∃ y_:List (List Int),y_=(([t125]:List (List Int))):=⟨_,rfl⟩
  replace H:(some y128)=some r:=by first | (rw [hy128];with_reducible exact H) | (have H2_:=(Option.bind_some _ _).symm.trans H;rw [hy128];with_reducible exact H2_) | (have H2_:=(Option.bind_some _ _).symm.trans H;with_reducible exact H2_) | with_reducible exact H | (rw [hy128];exact H) | exact H
  have Ny128:=zz31 hy128
  clear hy128
  obtain rfl:=Option.some.inj H
  go_enter Tryd.func25,Tryd.ntmps25
  go_wp2_with (first | ((with_reducible refine gate_callee (f:=42) rfl ?_);refine goesL_ (some 15) rfl rfl Tryd.func42 (by kernel_rfl) rfl #[.slice A1 l1.length c1] rfl (by (try simp only [zz26,zz27,zz28]);first | done | rfl | (simp only [zz24,zz25];rfl)) ?_;(with_reducible refine (spec_l1Own.calls _ _ l1 t125 _ ?side1 ?side2 A5.out).mono ?_);(case side1=>repeat (first | exact HR1.out | (with_reducible refine zz18 ?_ _) | (with_reducible refine zz19 ?_ _) | (with_reducible refine zz20 ?_)));(case side2=>exact HC1.out);rintro e w6 ⟨v126,rfl,ho0,hb⟩;refine ⟨_,rfl,?_⟩;have n0_:=zz31 (Kd.R_lower (Kd.R_newM (M:=fun k_=>(w.heap.size≤k_)) ho0 (zz5 (by repeat first | exact HB.out | apply zz2 | apply zz0 | apply zz1)) (fun k_ h_=>h_)) (zz5 (by repeat first | exact HB.out | apply zz2 | apply zz0 | apply zz1)));have n1_:=zz31 (zz4 (by repeat first | exact HB.out | apply zz2 | apply zz0 | apply zz1) hb);clear HB;have HO127:=n0_;have HB:=n1_;clear n0_ n1_;(try clear hb);(try clear hb2);(try clear hk);(try clear hi);(try clear ho0);obtain ⟨Ao7,co7,eo7⟩:=Kd.R_slice HO127.out;subst eo7) | ((with_reducible refine gate_dst (N:=16) rfl ?_);refine Kd.N_lit (Kd.slice 3 (Kd.int .i64)) _ 34 ?hg (N':=16) ?hd (xs:=([t125]:List (List Int))) (inner:=[.slice Ao7 t125.length co7]) (ok:=(fun k_=>(w.heap.size≤k_))) (okp:=(fun k_=>(w.heap.size≤k_))) ?hr ?hp (fun _ hk=>hk) ((show ∀ k_,w6.heap.size≤k_→(fun k_=>(w.heap.size≤k_)) k_ from fun k_ hk=>(Nat.le_trans (zz5 (by repeat first | exact HB.out | apply zz2 | apply zz0 | apply zz1)) hk)) _ (Nat.le_refl _)) (Below.refl _ _) (Nat.le_refl _) (by simp) ?_;(case hd=>rfl);(case hg=>rfl);(case hr=>first | (go_simp;done) | (go_simp;rfl));(case hp=>exact (Reps.one (show Kd.FK (Kd.slice 3 (Kd.int .i64)) _ _ t125 [.slice Ao7 t125.length co7] from (Kd.FK_slice_mk (Kd.R_reads' (Kd.R_mono (ok':=(fun k_=>(w.heap.size≤k_))) (HO127.out) (fun k_ hk=>hk.1))).2.1 (Kd.R_F (Kd.R_mono (ok':=(fun k_=>(w.heap.size≤k_))) (HO127.out) (fun k_ hk=>hk.1))))) (Reps.none _ _)));intro v129 w8 ho9 hb hg_ hnew_;clear hg_ hnew_;(first | rw [← Ny128.out] at ho9 | (simp only [Int.reduceToNat] at ho9;rw [← Ny128.out] at ho9));have n0_:=zz31 (Kd.N_lower ho9 (zz5 (by repeat first | exact HB.out | apply zz2 | apply zz0 | apply zz1)));have n1_:=zz31 (zz4 (by repeat first | exact HB.out | apply zz2 | apply zz0 | apply zz1) hb);clear HB;clear HO127;have HO130:=n0_;have HB:=n1_;clear n0_ n1_;clear hb ho9))
  go_ret
  exact ⟨_,by first | rfl | (simp [errW_none,errW_some] <;> rfl) | (simp [*,errW_none,errW_some] <;> rfl),by (with_reducible repeat (first | apply Kd.N_alloc | apply Kd.N_drewN | apply Kd.N_drew));exact HO130.out,by repeat first | exact HB.out | apply zz2 | apply zz0 | apply zz1⟩
 ·rw [if_neg c4] at H
  have c4b0:((l1.length:Int) == a2)=false:=beq_eq_false_iff_ne.mpr c4
  have c4b1:((l1.length:Int) != a2)=true:=bne_iff_ne.mpr c4
  have HC10:=zz31 H
  clear H
  go_enter Tryd.func25,Tryd.ntmps25
  go_upto_if 19 with (fail)
  go_cut [7] (fun v7 wc=>∃ (kq:Nat) (x7_9:Int),v7=.int .i64 x7_9∧Aside0 (spec_trGroups.j0 kq l0 l1 a2 x7_9=some r)∧Aside0 (kq≤k)∧Aside0 (Below w.heap.size w wc))
  case first =>
   have H:=HC10.out
   clear HC10
   by_cases c11:(l1.length:Int) > 0
   ·rw [if_pos c11] at H
    have c11b0:decide (0 < (l1.length:Int))=true:=decide_eq_true c11
    have c11n0:decide (0 < l1.length)=true:=by have:=c11b0;simpa using this
    have c11p0:0 < l1.length:=zz29 c11n0
    have c11q0:(0 < l1.length)=True:=eq_true c11p0
    have c11b1:decide (0 < l1.length)=true:=decide_eq_true (by omega)
    clear c11
    (first | rw [c11b0] | (simp only [i64_w,i32_w];rw [c11b0]) | skip)
    obtain ⟨ji12,hji12⟩:∃ j_:Int,(wrap64 ((l1.length:Int) - 1))=j_:=⟨_,rfl⟩
    replace H:(if 0≤(ji12) then (if (ji12) < (l1.length:Int) then (spec_trGroups.j0 k l0 l1 a2 (wrap64 ((rd l1 (ji12))+1))) else (none)) else (none))=some r:=by first | (rw [hji12] at H;exact H) | (simp only [hji12] at H ⊢;exact H)
    have hji12w:(IntKind.i64.wrap ((l1.length:Int) - 1))=ji12:=(i64_w _).trans hji12
    by_cases c13:0≤(ji12)
    ·rw [if_pos c13] at H
     have c13b0:decide (0≤(ji12))=true:=decide_eq_true c13
     clear c13
     by_cases c14:(ji12) < (l1.length:Int)
     ·rw [if_pos c14] at H
      have c14b0:decide ((ji12) < (l1.length:Int))=true:=decide_eq_true c14
      clear c14
      have H':=zz31 H
      clear H
      have p131:0≤((ji12):Int):=zz29 (by first | (with_reducible assumption) | assumption)
      have q131:(ji12) < (l1.length:Int):=zz29 (by first | (with_reducible assumption) | assumption)
      obtain ⟨ad131,e131,hx131_0⟩:=Kd.at_int HR1.out (ji12) p131 q131
      cases e131
      replace hx131_0:=(HB.out.cell (World.block_lt_of_cell? w _ hx131_0)).trans hx131_0
      replace p131:=eq_true p131
      replace q131:=eq_true q131
      go_wp2
      go_meet
      case rel=>exact ⟨_,(wrap64 ((rd l1 (ji12))+1)),(by first | rfl | (simp;done) | (simp only [← hji12] <;> (first | rfl | simp)) | (simp [*];done)),H',⟨by first | omega | exact Nat.le_refl _⟩,⟨by repeat first | exact HB.out | apply zz2 | apply zz0 | apply zz1⟩⟩
     ·rw [if_neg c14] at H
      exact absurd H (by simp)
    ·rw [if_neg c13] at H
     exact absurd H (by simp)
   ·rw [if_neg c11] at H
    have c11b0:decide (0 < (l1.length:Int))=false:=decide_eq_false c11
    have c11n0:decide (0 < l1.length)=false:=by have:=c11b0;simpa using this
    have c11p0:¬ (0 < l1.length):=of_decide_eq_false c11n0
    have c11q0:(0 < l1.length)=False:=eq_false c11p0
    have c11b1:decide (0 < l1.length)=false:=decide_eq_false (by omega)
    clear c11
    (first | rw [c11b0] | (simp only [i64_w,i32_w];rw [c11b0]) | skip)
    have H':=zz31 H
    clear H
    go_wp2
    go_meet
    case rel=>exact ⟨_,(0),(by first | rfl | (simp;done) | (simp [*];done)),H',⟨by first | omega | exact Nat.le_refl _⟩,⟨by repeat first | exact HB.out | apply zz2 | apply zz0 | apply zz1⟩⟩
  case rest =>
   clear HC10
   try clear c1
   try clear p1
   try clear q1
   try clear hx1
   try clear c2
   try clear p2
   try clear c4
   try clear c4b0
   try clear c4b1
   try clear p6
   try clear c11
   try clear c11b0
   try clear c11b1
   try clear c13
   try clear c13b0
   try clear p13
   try clear q13
   try clear hx13
   try clear c14
   try clear c14b0
   try clear hx131_0
   try clear p131
   try clear q131
   obtain ⟨kq,x7_9,rfl,HA,HJ9,HB⟩:=hcut
   cases kq with
   | zero=>exact absurd HA.out (by simp [spec_trGroups.j0])
   | succ kj9 =>
    have H:=HA.out
    clear HA
    simp only [spec_trGroups.j0] at H
    have H':=zz31 H
    clear H
    go_wp2
    go_loopg [8,9] kj9 (fun kq v8 v9 w'=>∃ (x8_2:List (List Int)) (x9_2:Int),v9=.int .i64 x9_2∧Aside0 (spec_trGroups.l0 kq l0 l1 a2 x8_2 x9_2=some r)∧Aside0 (kq≤kj9)∧Aside0 (Kd.N (Kd.slice 3 (Kd.int .i64)) 34 w' w.heap.size (fun k_=>(w.heap.size≤k_)) v8 x8_2)∧Aside0 (Below w.heap.size w w'))
    case atStart=>exact ⟨(([]:List (List Int))),(x7_9),(by first | rfl | (simp;done) | (simp [*];done)),H',⟨Nat.le_refl _⟩,⟨by first | exact Kd.S_nil _ _ _ _ _ | exact Kd.N_nil _ _ _ _ _ | exact Kd.V_nil _ _ _ _ _ | exact Kd.Q_nil _ _ _ _ _ | exact Kd.R_nil _ _ _ _ _⟩,⟨by repeat first | exact HB.out | apply zz2 | apply zz0 | apply zz1⟩⟩
    case round =>
     clear H'
     try clear c1
     try clear p1
     try clear q1
     try clear hx1
     try clear c2
     try clear p2
     try clear c4
     try clear c4b0
     try clear c4b1
     try clear p6
     try clear c11
     try clear c11b0
     try clear c11b1
     try clear c13
     try clear c13b0
     try clear p13
     try clear q13
     try clear hx13
     try clear c14
     try clear c14b0
     try clear hx131_0
     try clear p1
     try clear p13
     try clear p131
     try clear p2
     try clear p6
     try clear q1
     try clear q13
     try clear q131
     obtain ⟨x8_2,x9_2,rfl,HA,HK2,HO_8,HB⟩:=hrel
     cases gk with
     | zero=>exact absurd HA.out (by simp [spec_trGroups.l0])
     | succ k2 =>
      have H:=HA.out
      clear HA
      simp only [spec_trGroups.l0] at H
      by_cases c15:x9_2 < (l0.length:Int)
      ·rw [if_pos c15] at H
       have c15b0:decide (x9_2 < (l0.length:Int))=true:=decide_eq_true c15
       clear c15
       replace H:=zz30.mp H
       obtain ⟨t132,A160,H⟩:=H
       replace H:(if t132=true then ((spec_l1Own.f l1).bind fun t133=>(if t133.length < 17592186044416 then ((spec_trGroups.f k2 l0 (t133 ++ [x9_2]) a2).bind fun t139=>(if x8_2.length+t139.length < 5864062014805 then (spec_trGroups.l0 k2 l0 l1 a2 (x8_2 ++ t139) (wrap64 (x9_2+1))) else (none))) else (none))) else (spec_trGroups.l0 k2 l0 l1 a2 x8_2 (wrap64 (x9_2+1))))=some r:=H
       have A16:=zz31 A160
       clear A160
       by_cases c17:t132=true
       ·subst c17
        have H1:((spec_l1Own.f l1).bind fun t133=>(if t133.length < 17592186044416 then ((spec_trGroups.f k2 l0 (t133 ++ [x9_2]) a2).bind fun t139=>(if x8_2.length+t139.length < 5864062014805 then (spec_trGroups.l0 k2 l0 l1 a2 (x8_2 ++ t139) (wrap64 (x9_2+1))) else (none))) else (none)))=some r:=by rw [if_pos rfl] at H;exact H
        clear H
        have H:=H1
        clear H1
        replace H:=zz30.mp H
        obtain ⟨t133,A180,H⟩:=H
        replace H:(if t133.length < 17592186044416 then ((spec_trGroups.f k2 l0 (t133 ++ [x9_2]) a2).bind fun t139=>(if x8_2.length+t139.length < 5864062014805 then (spec_trGroups.l0 k2 l0 l1 a2 (x8_2 ++ t139) (wrap64 (x9_2+1))) else (none))) else (none))=some r:=H
        have A18:=zz31 A180
        clear A180
        by_cases c19:t133.length < 17592186044416
        ·rw [if_pos c19] at H
         have LMc19:=zz31 c19
         clear c19
         obtain ⟨y136,hy136⟩:∃ y_:List Int,y_=(t133 ++ [x9_2]):=⟨_,rfl⟩
         replace H:((spec_trGroups.f k2 l0 y136 a2).bind fun t139=>(if x8_2.length+t139.length < 5864062014805 then (spec_trGroups.l0 k2 l0 l1 a2 (x8_2 ++ t139) (wrap64 (x9_2+1))) else (none)))=some r:=by first | (rw [hy136];with_reducible exact H) | (have H2_:=(Option.bind_some _ _).symm.trans H;rw [hy136];with_reducible exact H2_) | (have H2_:=(Option.bind_some _ _).symm.trans H;with_reducible exact H2_) | with_reducible exact H | (rw [hy136];exact H) | exact H
         have Ny136:=zz31 hy136
         clear hy136
         replace H:=zz30.mp H
         obtain ⟨t139,A200,H⟩:=H
         replace H:(if x8_2.length+t139.length < 5864062014805 then (spec_trGroups.l0 k2 l0 l1 a2 (x8_2 ++ t139) (wrap64 (x9_2+1))) else (none))=some r:=H
         have A20:=zz31 A200
         clear A200
         by_cases c21:x8_2.length+t139.length < 5864062014805
         ·rw [if_pos c21] at H
          have LMc21:=zz31 c21
          clear c21
          obtain ⟨y142,hy142⟩:∃ y_:List (List Int),y_=(x8_2 ++ t139):=⟨_,rfl⟩
          replace H:(spec_trGroups.l0 k2 l0 l1 a2 y142 (wrap64 (x9_2+1)))=some r:=by first | (rw [hy142];with_reducible exact H) | (have H2_:=(Option.bind_some _ _).symm.trans H;rw [hy142];with_reducible exact H2_) | (have H2_:=(Option.bind_some _ _).symm.trans H;with_reducible exact H2_) | with_reducible exact H | (rw [hy142];exact H) | exact H
          have Ny142:=zz31 hy142
          clear hy142
          have H':=zz31 H
          clear H
          go_wp2_with (first | ((with_reducible refine gate_callee (f:=43) rfl ?_);refine goesL_ (some 37) rfl rfl Tryd.func43 (by kernel_rfl) rfl #[.slice A0 l0.length c0,.slice A1 l1.length c1,.int .i64 x9_2] rfl (by (try simp only [zz26,zz27,zz28]);first | done | rfl | (simp only [zz24,zz25];rfl)) ?_;(with_reducible refine (spec_trKnows.calls k2 _ _ l0 _ _ l1 x9_2 true _ ?side1 ?side2 ?side3 ?side4 A16.out).mono ?_);(case side1=>repeat (first | exact (Kd.C_below HR0.out HB.out) | (with_reducible refine zz18 ?_ _) | (with_reducible refine zz19 ?_ _) | (with_reducible refine zz20 ?_)));(case side2=>exact HC0.out);(case side3=>repeat (first | exact (Kd.C_below HR1.out HB.out) | (with_reducible refine zz18 ?_ _) | (with_reducible refine zz19 ?_ _) | (with_reducible refine zz20 ?_)));(case side4=>exact HC1.out);rintro e w' ⟨rfl,⟨nd,rfl⟩⟩;refine ⟨_,rfl,?_⟩) | ((with_reducible refine gate_callee (f:=42) rfl ?_);refine goesL_ (some 41) rfl rfl Tryd.func42 (by kernel_rfl) rfl #[.slice A1 l1.length c1] rfl (by (try simp only [zz26,zz27,zz28]);first | done | rfl | (simp only [zz24,zz25];rfl)) ?_;(with_reducible refine (spec_l1Own.calls _ _ l1 t133 _ ?side1 ?side2 A18.out).mono ?_);(case side1=>repeat (first | exact (Kd.C_below HR1.out (by repeat first | exact HB.out | apply zz2 | apply zz0 | apply zz1)) | (with_reducible refine zz18 ?_ _) | (with_reducible refine zz19 ?_ _) | (with_reducible refine zz20 ?_)));(case side2=>exact HC1.out);rintro e w22 ⟨v134,rfl,ho0,hb⟩;refine ⟨_,rfl,?_⟩;have n0_:=zz31 (Kd.N_elder' (by (with_reducible repeat (first | apply Kd.N_alloc | apply Kd.N_drewN | apply Kd.N_drew));exact HO_8.out) (Kd.R_base ho0) hb);have n1_:=zz31 (Kd.R_lower (Kd.R_newM (M:=fun k_=>(w.heap.size≤k_)) ho0 (zz5 (by repeat first | exact HB.out | apply zz2 | apply zz0 | apply zz1)) (fun k_ h_=>h_)) (zz5 (by repeat first | exact HB.out | apply zz2 | apply zz0 | apply zz1)));have n2_:=zz31 (zz4 (by repeat first | exact HB.out | apply zz2 | apply zz0 | apply zz1) hb);clear HO_8;clear HB;have HO_8:=n0_;have HO135:=n1_;have HB:=n2_;clear n0_ n1_ n2_;(try clear hb);(try clear hb2);(try clear hk);(try clear hi);(try clear ho0)) | ((with_reducible refine gate_builtin (b:=.append) (xs:=#[.tmp 41,.tmp 43]) rfl ?_);at_builtin;refine Kd.R_append (Kd.int .i64) (w0:=w) w.heap.size rfl (.tmp 41) (.tmp 43) 34 3 (.int .i64 0) 8 rfl Tryd.underlying34 info3 rfl (by decide) (by omega) v134 t133 x9_2 [.int .i64 x9_2] (fun k_=>(w.heap.size≤k_)) (fun _=>False) rfl rfl ?aP (fun _ hk=>hk.elim) ?aF ?aO ?aB ?aS ?aL ?_;(case aP=>exact rfl);(case aB=>exact (by repeat first | exact HB.out | apply zz2 | apply zz0 | apply zz1));(case aF=>exact (fun k_ hk=>(Nat.le_trans (zz5 (by repeat first | exact HB.out | apply zz2 | apply zz0 | apply zz1)) hk)));(case aO=>exact (by (with_reducible repeat (first | apply zz12 | apply zz13 | apply zz14));exact Kd.R_mono HO135.out (fun _ hk=>hk.1)));(case aS=>exact (zz5 (by repeat first | exact HB.out | apply zz2 | apply zz0 | apply zz1)));(case aL=>have:=LMc19.out;omega);intro v137 w23 ho hb hg hat;rw [← Ny136.out] at ho;have n0_:=zz31 (Kd.N_afterv (ok:=(fun k_=>(w.heap.size≤k_))) (by (with_reducible repeat (first | apply Kd.N_alloc | apply Kd.N_drewN | apply Kd.N_drew));exact HO_8.out) hg hat);have n1_:=zz31 (hb);have n2_:=zz31 (ho);clear HO_8;clear HB;clear HO135;have HO_8:=n0_;have HB:=n1_;have HO138:=n2_;clear n0_ n1_ n2_;clear ho hb hg hat;obtain ⟨Ao24,co24,eo24⟩:=Kd.R_slice HO138.out;subst eo24) | ((with_reducible refine gate_callee (f:=25) rfl ?_);refine goesL_ (some 46) rfl rfl Tryd.func25 (by kernel_rfl) rfl #[.slice A0 l0.length c0,.slice Ao24 y136.length co24,.int .i64 a2] rfl (by (try simp only [zz26,zz27,zz28]);first | done | rfl | (simp only [zz24,zz25];rfl)) ?_;(with_reducible refine (ih k2 (by have:=HJ9.out;have:=HK2.out;omega) _ _ l0 _ _ y136 a2 t139 _ ?side1 ?side2 ?side3 ?side4 A20.out).mono ?_);(case side1=>repeat (first | exact (Kd.C_below HR0.out HB.out) | (with_reducible refine zz18 ?_ _) | (with_reducible refine zz19 ?_ _) | (with_reducible refine zz20 ?_)));(case side2=>exact HC0.out);(case side3=>repeat (first | exact (Kd.R_reads' HO138.out).2.2 | (with_reducible refine zz18 ?_ _) | (with_reducible refine zz19 ?_ _) | (with_reducible refine zz20 ?_)));(case side4=>exact (Kd.R_reads' HO138.out).2.1);rintro e w25 ⟨v140,rfl,ho0,hb⟩;refine ⟨_,rfl,?_⟩;have n0_:=zz31 (Kd.N_elder' (by (with_reducible repeat (first | apply Kd.N_alloc | apply Kd.N_drewN | apply Kd.N_drew));exact HO_8.out) (Kd.N_base ho0) hb);have n1_:=zz31 (Kd.R_below (by (with_reducible repeat (first | apply zz12 | apply zz13 | apply zz14));exact HO138.out) hb);have n2_:=zz31 (Kd.N_lower (Kd.N_mono (ok':=fun k_=>(w.heap.size≤k_)∧some k_ ≠ (u8:Value).ownBlock∧some k_ ≠ (.slice Ao24 y136.length co24:Value).ownBlock) ho0 (fun k_ hk_=>⟨(Nat.le_trans (zz5 (by repeat first | exact HB.out | apply zz2 | apply zz0 | apply zz1)) hk_),(Kd.fresh' (Kd.N_lt (by (with_reducible repeat (first | apply Kd.N_alloc | apply Kd.N_drewN | apply Kd.N_drew));exact HO_8.out)) k_ hk_),(Kd.fresh' (Kd.R_lt (by (with_reducible repeat (first | apply zz12 | apply zz13 | apply zz14));exact HO138.out)) k_ hk_)⟩)) (zz5 (by repeat first | exact HB.out | apply zz2 | apply zz0 | apply zz1)));have n3_:=zz31 (zz4 (by repeat first | exact HB.out | apply zz2 | apply zz0 | apply zz1) hb);clear HO_8;clear HO138;clear HB;have HO_8:=n0_;have HO138:=n1_;have HO141:=n2_;have HB:=n3_;clear n0_ n1_ n2_ n3_;(try clear hb);(try clear hb2);(try clear hk);(try clear hi);(try clear ho0);obtain ⟨Ao27,co27,eo27⟩:=Kd.N_slice HO141.out;subst eo27) | ((with_reducible refine gate_builtin (b:=.append) (xs:=#[.tmp 38,.tmp 46]) rfl ?_);at_builtin;refine Kd.N_append_rows (Kd.slice 3 (Kd.int .i64)) (w0:=w) w.heap.size rfl (.tmp 38) (.tmp 46) 40 34 (.slice none 0 0) 24 rfl Tryd.underlying40 info34 rfl (by decide) (by omega) u8 x8_2 t139 _ _ _ (fun k_=>(w.heap.size≤k_)∧some k_ ≠ (.slice Ao24 y136.length co24:Value).ownBlock) (fun k_=>((fun k_=>(w.heap.size≤k_)∧some k_ ≠ (.slice Ao24 y136.length co24:Value).ownBlock)) k_∧some k_ ≠ (u8:Value).ownBlock) rfl rfl ?aO ?aR (fun _ hk=>hk) ?aF ?aB ?aS ?aL ?_;(case aR=>exact (by skip;exact Kd.N_F (Kd.N_mono (ok':=(fun k_=>((fun k_=>(w.heap.size≤k_)∧some k_ ≠ (.slice Ao24 y136.length co24:Value).ownBlock)) k_∧some k_ ≠ (u8:Value).ownBlock)) (HO141.out) (fun k_ hk=>⟨⟨hk.1,hk.2.2⟩,hk.2.1⟩))));(case aB=>exact (by repeat first | exact HB.out | apply zz2 | apply zz0 | apply zz1));(case aF=>exact (fun k_ hk=>⟨(Nat.le_trans (zz5 (by repeat first | exact HB.out | apply zz2 | apply zz0 | apply zz1)) hk),Kd.fresh' (Kd.R_lt (by (with_reducible repeat (first | apply zz12 | apply zz13 | apply zz14));exact HO138.out)) k_ hk⟩));(case aO=>exact (by (with_reducible repeat (first | apply Kd.N_alloc | apply Kd.N_drewN | apply Kd.N_drew));exact Kd.N_mono HO_8.out (fun _ hk=>⟨hk.1.1,hk.1.2⟩)));(case aS=>exact (zz5 (by repeat first | exact HB.out | apply zz2 | apply zz0 | apply zz1)));(case aL=>have:=LMc21.out;omega);intro v143 w26 ho hb hg hat;rw [← Ny142.out] at ho;have n0_:=zz31 (Kd.R_over' (by (with_reducible repeat (first | apply zz12 | apply zz13 | apply zz14));exact HO138.out) (Kd.N_typed (by (with_reducible repeat (first | apply Kd.N_alloc | apply Kd.N_drewN | apply Kd.N_drew));exact HO_8.out)) (by decide) hg);have n1_:=zz31 (Kd.N_afterv (ok:=(fun k_=>(w.heap.size≤k_)∧some k_ ≠ (.slice Ao24 y136.length co24:Value).ownBlock)) (by (with_reducible repeat (first | apply Kd.N_alloc | apply Kd.N_drewN | apply Kd.N_drew));exact Kd.N_mono HO141.out (fun _ hk=>⟨⟨hk.1,hk.2.2⟩,hk.2.1⟩)) hg hat);have n2_:=zz31 (hb);have n3_:=zz31 (ho);clear HO138;clear HO141;clear HB;clear HO_8;have HO138:=n0_;have HO141:=n1_;have HB:=n2_;have HO144:=n3_;clear n0_ n1_ n2_ n3_;clear ho hb hg hat))
          go_roundg k2
          case measure=>have:=HJ9.out;have:=HK2.out;omega
          case rel=>exact ⟨(y142),(wrap64 (x9_2+1)),(by first | rfl | (simp;done) | (simp [*];done)),H',⟨by have:=HJ9.out;have:=HK2.out;omega⟩,⟨by (with_reducible repeat (first | apply Kd.N_alloc | apply Kd.N_drewN | apply Kd.N_drew));exact Kd.N_mono HO144.out (fun _ hk=>hk.1)⟩,⟨by repeat first | exact HB.out | apply zz2 | apply zz0 | apply zz1⟩⟩
         ·rw [if_neg c21] at H
          exact absurd H (by simp)
        ·rw [if_neg c19] at H
         exact absurd H (by simp)
       ·replace c17:=Bool.eq_false_iff.mpr c17
        subst c17
        have H1:(spec_trGroups.l0 k2 l0 l1 a2 x8_2 (wrap64 (x9_2+1)))=some r:=by rw [if_neg (show ¬ (false=true) by decide)] at H;exact H
        clear H
        have H:=H1
        clear H1
        have H':=zz31 H
        clear H
        go_wp2_with (first | ((with_reducible refine gate_callee (f:=43) rfl ?_);refine goesL_ (some 37) rfl rfl Tryd.func43 (by kernel_rfl) rfl #[.slice A0 l0.length c0,.slice A1 l1.length c1,.int .i64 x9_2] rfl (by (try simp only [zz26,zz27,zz28]);first | done | rfl | (simp only [zz24,zz25];rfl)) ?_;(with_reducible refine (spec_trKnows.calls k2 _ _ l0 _ _ l1 x9_2 false _ ?side1 ?side2 ?side3 ?side4 A16.out).mono ?_);(case side1=>repeat (first | exact (Kd.C_below HR0.out HB.out) | (with_reducible refine zz18 ?_ _) | (with_reducible refine zz19 ?_ _) | (with_reducible refine zz20 ?_)));(case side2=>exact HC0.out);(case side3=>repeat (first | exact (Kd.C_below HR1.out HB.out) | (with_reducible refine zz18 ?_ _) | (with_reducible refine zz19 ?_ _) | (with_reducible refine zz20 ?_)));(case side4=>exact HC1.out);rintro e w' ⟨rfl,⟨nd,rfl⟩⟩;refine ⟨_,rfl,?_⟩))
        go_roundg k2
        case measure=>have:=HJ9.out;have:=HK2.out;omega
        case rel=>exact ⟨(x8_2),(wrap64 (x9_2+1)),(by first | rfl | (simp;done) | (simp [*];done)),H',⟨by have:=HJ9.out;have:=HK2.out;omega⟩,⟨by (with_reducible repeat (first | apply Kd.N_alloc | apply Kd.N_drewN | apply Kd.N_drew));exact HO_8.out⟩,⟨by repeat first | exact HB.out | apply zz2 | apply zz0 | apply zz1⟩⟩
      ·rw [if_neg c15] at H
       have c15b0:decide (x9_2 < (l0.length:Int))=false:=decide_eq_false c15
       clear c15
       obtain rfl:=Option.some.inj H
       go_wp2
       go_ret
       exact ⟨_,by first | rfl | (simp [errW_none,errW_some] <;> rfl) | (simp [*,errW_none,errW_some] <;> rfl),by (with_reducible repeat (first | apply Kd.N_alloc | apply Kd.N_drewN | apply Kd.N_drew));exact HO_8.out,by repeat first | exact HB.out | apply zz2 | apply zz0 | apply zz1⟩

/-! ### spec_l1Has: function 27 -/
def spec_l1Has.l0:Nat→Int→List Int→Int→Int→Option (Bool)
 | 0,_,_,_,_=>none
 | k+1,x1,x7,x8,x9=>if x9 < x8 then (if 0≤x9 then (if x9 < (x7.length:Int) then (if (rd x7 x9)=x1 then (some true) else (spec_l1Has.l0 k x1 x7 x8 (wrap64 (x9+1)))) else (none)) else (none)) else (some false)
def spec_l1Has.f (k:Nat) (l0:List Int) (a1:Int):Option (Bool):=spec_l1Has.l0 k a1 l0 (l0.length:Int) 0
theorem spec_l1Has.mono_l:∀ k,(∀ y0 y1 y2 y3,LeO (spec_l1Has.l0 k y0 y1 y2 y3) (spec_l1Has.l0 (k+1) y0 y1 y2 y3))
 | 0=>fun _ _ _ _ r h=>by simp [spec_l1Has.l0] at h
 | k+1=>by
  have ih0:=spec_l1Has.mono_l k
  ·intro y0 y1 y2 y3
   unfold spec_l1Has.l0
   repeat' first
   | (with_reducible exact ih0 _ _ _ _)
   | (with_reducible exact LeO.refl _)
   | (with_reducible exact LeO.none _)
   | (with_reducible refine LeO.ite ?_ ?_)
   | (with_reducible refine LeO.bind ?_ (fun _=>?_))
   | exact ih0 _ _ _ _
   | exact LeO.none _
   | refine LeO.ite ?_ ?_
   | refine LeO.bind ?_ (fun _=>?_)
theorem spec_l1Has.mono:∀ a0 a1 k,LeO (spec_l1Has.f k a0 a1) (spec_l1Has.f (k+1) a0 a1):=by
 intro a0 a1 k
 have ih0:=spec_l1Has.mono_l k
 unfold spec_l1Has.f
 repeat' first
   | (with_reducible exact ih0 _ _ _ _)
   | (with_reducible exact LeO.refl _)
   | (with_reducible exact LeO.none _)
   | (with_reducible refine LeO.ite ?_ ?_)
   | (with_reducible refine LeO.bind ?_ (fun _=>?_))
   | exact ih0 _ _ _ _
   | exact LeO.none _
   | refine LeO.ite ?_ ?_
   | refine LeO.bind ?_ (fun _=>?_)
set_option maxHeartbeats 8000000 in
set_option maxRecDepth 100000 in
theorem spec_l1Has.calls (k:Nat) (A0:Option Addr) (c0:Nat) (l0:List Int) (a1:Int) (r:Bool) (w:World) (hr0:Kd.C (Kd.int .i64) w A0 l0.length l0) (hc0:l0.length≤c0) (h:spec_l1Has.f k l0 a1=some r) :
  Calls Tryd.prog 27 #[.slice A0 l0.length c0,.int .i64 a1] w fun e w'=>e=.returned (.bool r)∧Drawn0 w w':=by
 have HR0:=zz31 hr0
 have HC0:=zz31 hc0
 clear hr0 hc0
 have H:(spec_l1Has.l0 k a1 l0 (l0.length:Int) 0)=some r:=h
 clear h
 have H':=zz31 H
 clear H
 go_enter Tryd.func27,Tryd.ntmps27
 go_wp2
 go_loopg [9] k (fun kq v9 w'=>∃ (x9_1:Int),v9=.int .i64 x9_1∧Aside0 (spec_l1Has.l0 kq a1 l0 (l0.length:Int) x9_1=some r)∧Aside0 (kq≤k)∧Drawn0 w w')
 case atStart=>exact ⟨(0),(by first | rfl | (simp;done) | (simp [*];done)),H',⟨Nat.le_refl _⟩,by repeat (first | exact Drawn0.refl _ | apply Drawn0.step)⟩
 case round =>
  clear H'
  try clear c2
  try clear p2
  obtain ⟨x9_1,rfl,HA,HK1,⟨m1,rfl⟩⟩:=hrel
  cases gk with
  | zero=>exact absurd HA.out (by simp [spec_l1Has.l0])
  | succ k1 =>
   have H:=HA.out
   clear HA
   simp only [spec_l1Has.l0] at H
   by_cases c3:x9_1 < (l0.length:Int)
   ·rw [if_pos c3] at H
    have c3b0:decide (x9_1 < (l0.length:Int))=true:=decide_eq_true c3
    clear c3
    by_cases c4:0≤x9_1
    ·rw [if_pos c4] at H
     have c4b0:decide (0≤x9_1)=true:=decide_eq_true c4
     clear c4
     by_cases c5:x9_1 < (l0.length:Int)
     ·rw [if_pos c5] at H
      have c5b0:decide (x9_1 < (l0.length:Int))=true:=decide_eq_true c5
      clear c5
      by_cases c6:(rd l0 x9_1)=a1
      ·rw [if_pos c6] at H
       have c6b0:((rd l0 x9_1) == a1)=true:=beq_iff_eq.mpr c6
       have c6b1:((rd l0 x9_1) != a1)=false:=bne_eq_false_iff_eq.mpr c6
       clear c6
       obtain rfl:=Option.some.inj H
       have p162:0≤(x9_1:Int):=zz29 (by first | (with_reducible assumption) | assumption)
       have q162:x9_1 < (l0.length:Int):=zz29 (by first | (with_reducible assumption) | assumption)
       obtain ⟨ad162,e162,hx162_0⟩:=Kd.at_int HR0.out x9_1 p162 q162
       cases e162
       replace p162:=eq_true p162
       replace q162:=eq_true q162
       go_wp2
       go_ret
       exact ⟨by first | rfl | (simp;done) | (simp [*];done),by repeat (first | exact Drawn0.refl _ | apply Drawn0.step)⟩
      ·rw [if_neg c6] at H
       have c6b0:((rd l0 x9_1) == a1)=false:=beq_eq_false_iff_ne.mpr c6
       have c6b1:((rd l0 x9_1) != a1)=true:=bne_iff_ne.mpr c6
       have H':=zz31 H
       clear H
       have p162:0≤(x9_1:Int):=zz29 (by first | (with_reducible assumption) | assumption)
       have q162:x9_1 < (l0.length:Int):=zz29 (by first | (with_reducible assumption) | assumption)
       obtain ⟨ad162,e162,hx162_0⟩:=Kd.at_int HR0.out x9_1 p162 q162
       cases e162
       replace p162:=eq_true p162
       replace q162:=eq_true q162
       go_wp2
       go_roundg k1
       case measure=>have:=HK1.out;omega
       case rel=>exact ⟨(wrap64 (x9_1+1)),(by first | rfl | (simp;done) | (simp [*];done)),H',⟨by have:=HK1.out;omega⟩,by repeat (first | exact Drawn0.refl _ | apply Drawn0.step)⟩
     ·rw [if_neg c5] at H
      exact absurd H (by simp)
    ·rw [if_neg c4] at H
     exact absurd H (by simp)
   ·rw [if_neg c3] at H
    have c3b0:decide (x9_1 < (l0.length:Int))=false:=decide_eq_false c3
    clear c3
    obtain rfl:=Option.some.inj H
    go_wp2
    go_ret
    exact ⟨by first | rfl | (simp;done) | (simp [*];done),by repeat (first | exact Drawn0.refl _ | apply Drawn0.step)⟩

/-! ### spec_ThreesAt: function 7 -/
mutual
def spec_ThreesAt.j0:Nat→Int→Bool→Int→List (S68)→Option (Int × Bool)
 | 0,_,_,_,_=>none
 | k+1,x1,x17,x164000,x164001=>if x17=true then (some (0,false)) else ((spec_paTable.f k x164000 x164001).bind fun t166=>((spec_trGroups.f k t166 ([]:List Int) 3).bind fun t169=>(spec_ThreesAt.l0 k x1 0 t169 (t169.length:Int) 0)))
def spec_ThreesAt.l0:Nat→Int→Int→List (List Int)→Int→Int→Option (Int × Bool)
 | 0,_,_,_,_,_=>none
 | k+1,x1,x6,x20,x21,x22=>if x22 < x21 then (if 0≤x22 then (if x22 < (x20.length:Int) then ((spec_l1Has.f k (rd_L5 x20 x22) x1).bind fun t173=>(if t173=true then (spec_ThreesAt.l0 k x1 (wrap64 (x6+1)) x20 x21 (wrap64 (x22+1))) else (spec_ThreesAt.l0 k x1 x6 x20 x21 (wrap64 (x22+1))))) else (none)) else (none)) else (some (x6,true))
end
def spec_ThreesAt.f (k:Nat) (a0_0:Int) (l0_1:List (S68)) (a1:Int):Option (Int × Bool):=(spec_paGood.f k a0_0 l0_1).bind fun t164=>(if t164=true then ((spec_paHas.f a0_0 l0_1 a1).bind fun t165=>(spec_ThreesAt.j0 k a1 (!t165) a0_0 l0_1)) else (spec_ThreesAt.j0 k a1 true a0_0 l0_1))
theorem spec_ThreesAt.mono_l:∀ k,(∀ y0 y1 y2 y3,LeO (spec_ThreesAt.j0 k y0 y1 y2 y3) (spec_ThreesAt.j0 (k+1) y0 y1 y2 y3))∧(∀ y0 y1 y2 y3 y4,LeO (spec_ThreesAt.l0 k y0 y1 y2 y3 y4) (spec_ThreesAt.l0 (k+1) y0 y1 y2 y3 y4))
 | 0=>⟨fun _ _ _ _ r h=>by simp [spec_ThreesAt.j0] at h,fun _ _ _ _ _ r h=>by simp [spec_ThreesAt.l0] at h⟩
 | k+1=>by
  obtain ⟨ih0,ih1⟩:=spec_ThreesAt.mono_l k
  refine ⟨?_,?_⟩
  ·intro y0 y1 y2 y3
   unfold spec_ThreesAt.j0
   repeat' first
   | (with_reducible exact ih0 _ _ _ _)
   | (with_reducible exact ih1 _ _ _ _ _)
   | (with_reducible exact spec_l1Has.mono _ _ _)
   | (with_reducible exact spec_paGood.mono _ _ _)
   | (with_reducible exact spec_paTable.mono _ _ _)
   | (with_reducible exact spec_trGroups.mono _ _ _ _)
   | (with_reducible exact LeO.refl _)
   | (with_reducible exact LeO.none _)
   | (with_reducible refine LeO.ite ?_ ?_)
   | (with_reducible refine LeO.bind ?_ (fun _=>?_))
   | exact ih0 _ _ _ _
   | exact ih1 _ _ _ _ _
   | exact spec_l1Has.mono _ _ _
   | exact spec_paGood.mono _ _ _
   | exact spec_paTable.mono _ _ _
   | exact spec_trGroups.mono _ _ _ _
   | exact LeO.none _
   | refine LeO.ite ?_ ?_
   | refine LeO.bind ?_ (fun _=>?_)
  ·intro y0 y1 y2 y3 y4
   unfold spec_ThreesAt.l0
   repeat' first
   | (with_reducible exact ih0 _ _ _ _)
   | (with_reducible exact ih1 _ _ _ _ _)
   | (with_reducible exact spec_l1Has.mono _ _ _)
   | (with_reducible exact spec_paGood.mono _ _ _)
   | (with_reducible exact spec_paTable.mono _ _ _)
   | (with_reducible exact spec_trGroups.mono _ _ _ _)
   | (with_reducible exact LeO.refl _)
   | (with_reducible exact LeO.none _)
   | (with_reducible refine LeO.ite ?_ ?_)
   | (with_reducible refine LeO.bind ?_ (fun _=>?_))
   | exact ih0 _ _ _ _
   | exact ih1 _ _ _ _ _
   | exact spec_l1Has.mono _ _ _
   | exact spec_paGood.mono _ _ _
   | exact spec_paTable.mono _ _ _
   | exact spec_trGroups.mono _ _ _ _
   | exact LeO.none _
   | refine LeO.ite ?_ ?_
   | refine LeO.bind ?_ (fun _=>?_)
theorem spec_ThreesAt.mono:∀ a0 a1 a2 k,LeO (spec_ThreesAt.f k a0 a1 a2) (spec_ThreesAt.f (k+1) a0 a1 a2):=by
 intro a0 a1 a2 k
 obtain ⟨ih0,ih1⟩:=spec_ThreesAt.mono_l k
 unfold spec_ThreesAt.f
 repeat' first
   | (with_reducible exact ih0 _ _ _ _)
   | (with_reducible exact ih1 _ _ _ _ _)
   | (with_reducible exact spec_l1Has.mono _ _ _)
   | (with_reducible exact spec_paGood.mono _ _ _)
   | (with_reducible exact spec_paTable.mono _ _ _)
   | (with_reducible exact spec_trGroups.mono _ _ _ _)
   | (with_reducible exact LeO.refl _)
   | (with_reducible exact LeO.none _)
   | (with_reducible refine LeO.ite ?_ ?_)
   | (with_reducible refine LeO.bind ?_ (fun _=>?_))
   | exact ih0 _ _ _ _
   | exact ih1 _ _ _ _ _
   | exact spec_l1Has.mono _ _ _
   | exact spec_paGood.mono _ _ _
   | exact spec_paTable.mono _ _ _
   | exact spec_trGroups.mono _ _ _ _
   | exact LeO.none _
   | refine LeO.ite ?_ ?_
   | refine LeO.bind ?_ (fun _=>?_)
set_option maxHeartbeats 8000000 in
set_option maxRecDepth 100000 in
theorem spec_ThreesAt.calls (k:Nat) (a0_0:Int) (A0_1:Option Addr) (c0_1:Nat) (l0_1:List (S68)) (a1:Int) (r1:Int) (r2:Bool) (w:World) (hr0_1:Kd.C k68 w A0_1 l0_1.length l0_1) (hc0_1:l0_1.length≤c0_1) (h:spec_ThreesAt.f k a0_0 l0_1 a1=some (r1,r2)) :
  Calls Tryd.prog 7 #[.agg #[.int .i64 a0_0,.slice A0_1 l0_1.length c0_1],.int .i64 a1] w fun e w'=>e=.returned (.tuple #[.int .i64 r1,.bool r2])∧Below w.heap.size w w':=by
 have hu30:=Tryd.underlying30
 have HR0_1:=zz31 hr0_1
 have HC0_1:=zz31 hc0_1
 clear hr0_1 hc0_1
 have HB:=zz31 (Below.refl w.heap.size w)
 have H:((spec_paGood.f k a0_0 l0_1).bind fun t164=>(if t164=true then ((spec_paHas.f a0_0 l0_1 a1).bind fun t165=>(spec_ThreesAt.j0 k a1 (!t165) a0_0 l0_1)) else (spec_ThreesAt.j0 k a1 true a0_0 l0_1)))=some (r1,r2):=h
 clear h
 have HC3:=zz31 H
 clear H
 go_enter Tryd.func7,Tryd.ntmps7
 go_upto_region 1 with (first | ((with_reducible refine gate_dst (N:=2) rfl ?_);refine box_event ?hg (N:=2) ?hd (cs:=#[.int .i64 a0_0,.slice A0_1 l0_1.length c0_1]) (t:=30) ?hr ?_;(case hd=>rfl);(case hg=>rfl);(case hr=>first | (go_simp;done) | (go_simp;rfl));intro gb163 hg w4 hbox hb;have n0_:=zz31 (zz4 (by repeat first | exact HB.out | apply zz2 | apply zz0 | apply zz1) hb);have n1_:=zz31 (hbox);have n2_:=zz31 ((by rw [hg];exact (zz5 (by repeat first | exact HB.out | apply zz2 | apply zz0 | apply zz1)):w.heap.size≤gb163));have n3_:=zz31 ((by rw [hg];exact (zz5 (by repeat first | exact HB.out | apply zz2 | apply zz0 | apply zz1)):w.heap.size≤gb163));clear HB;have HB:=n0_;have BK163:=n1_;have GW163:=n2_;have GE163:=n3_;clear n0_ n1_ n2_ n3_;clear hb hbox hg))
 (try simp only [Act.put,zz21,zz22,zz23])
 go_cut [17] (fun v17 wc=>∃ (kq:Nat) (x17_2:Bool),v17=.bool x17_2∧Aside0 (spec_ThreesAt.j0 kq a1 x17_2 a0_0 l0_1=some (r1,r2))∧Aside0 (kq≤k)∧Aside0 (wc.heap[gb163]?=some (.cells #[.int .i64 a0_0,(.slice A0_1 l0_1.length c0_1)] 30 (0,0)))∧Aside0 (Below w.heap.size w wc))
 case first =>
  have H:=HC3.out
  clear HC3
  replace H:=zz30.mp H
  obtain ⟨t164,A50,H⟩:=H
  replace H:(if t164=true then ((spec_paHas.f a0_0 l0_1 a1).bind fun t165=>(spec_ThreesAt.j0 k a1 (!t165) a0_0 l0_1)) else (spec_ThreesAt.j0 k a1 true a0_0 l0_1))=some (r1,r2):=H
  have A5:=zz31 A50
  clear A50
  by_cases c6:t164=true
  ·subst c6
   have H1:((spec_paHas.f a0_0 l0_1 a1).bind fun t165=>(spec_ThreesAt.j0 k a1 (!t165) a0_0 l0_1))=some (r1,r2):=by rw [if_pos rfl] at H;exact H
   clear H
   have H:=H1
   clear H1
   replace H:=zz30.mp H
   obtain ⟨t165,A70,H⟩:=H
   replace H:(spec_ThreesAt.j0 k a1 (!t165) a0_0 l0_1)=some (r1,r2):=H
   have A7:=zz31 A70
   clear A70
   have H':=zz31 H
   clear H
   have hcz8_0:w4.cell? ⟨gb163,0,none⟩=some (.int .i64 a0_0):=(zz9 BK163.out 0).trans rfl
   have hcz8_1:w4.cell? ⟨gb163,1,none⟩=some (.slice A0_1 l0_1.length c0_1):=(zz9 BK163.out 1).trans rfl
   have hfz8_0:=zz10 BK163.out 0
   have hfz8_1:=zz10 BK163.out 1
   go_wp2_with (first | ((with_reducible refine gate_callee (f:=23) rfl ?_);refine goesL_ (some 10) rfl rfl Tryd.func23 (by kernel_rfl) rfl #[.agg #[.int .i64 a0_0,.slice A0_1 l0_1.length c0_1]] rfl (by (try simp only [zz26,zz27,zz28]);first | done | rfl | (simp only [zz24,zz25];rfl)) ?_;(with_reducible refine (spec_paGood.calls k a0_0 _ _ l0_1 true _ ?side1 ?side2 A5.out).mono ?_);(case side1=>repeat (first | exact (Kd.C_below HR0_1.out HB.out) | (with_reducible refine zz18 ?_ _) | (with_reducible refine zz19 ?_ _) | (with_reducible refine zz20 ?_)));(case side2=>exact HC0_1.out);rintro e w9 ⟨rfl,hb⟩;refine ⟨_,rfl,?_⟩;have n0_:=zz31 (zz11 (g:=gb163) (o:=.cells #[.int .i64 a0_0,.slice A0_1 l0_1.length c0_1] 30 (0,0)) (by (with_reducible repeat (first | refine zz6 ?_ _ | refine zz7 ?_ | refine zz8 ?_ _));exact BK163.out) hb);have n1_:=zz31 (zz4 (by repeat first | exact HB.out | apply zz2 | apply zz0 | apply zz1 | refine zz3 ?_ GE163.out) hb);clear BK163;clear HB;have BK163:=n0_;have HB:=n1_;clear n0_ n1_;(try clear hb);(try clear hb2);(try clear hk);(try clear hi);have hcz10_0:w9.cell? ⟨gb163,0,none⟩=some (.int .i64 a0_0):=(zz9 BK163.out 0).trans rfl;have hcz10_1:w9.cell? ⟨gb163,1,none⟩=some (.slice A0_1 l0_1.length c0_1):=(zz9 BK163.out 1).trans rfl;have hfz10_0:=zz10 BK163.out 0;have hfz10_1:=zz10 BK163.out 1) | (go_at_call 24;(with_reducible refine (spec_paHas.calls a0_0 _ _ l0_1 a1 t165 _ ?side1 ?side2 A7.out).mono ?_);(case side1=>repeat (first | exact (Kd.C_below HR0_1.out HB.out) | (with_reducible refine zz18 ?_ _) | (with_reducible refine zz19 ?_ _) | (with_reducible refine zz20 ?_)));(case side2=>exact HC0_1.out);rintro e w11 ⟨rfl,hb⟩;have n0_:=zz31 (zz11 (g:=gb163) (o:=.cells #[.int .i64 a0_0,.slice A0_1 l0_1.length c0_1] 30 (0,0)) (by (with_reducible repeat (first | refine zz6 ?_ _ | refine zz7 ?_ | refine zz8 ?_ _));exact BK163.out) hb);have n1_:=zz31 (zz4 (by repeat first | exact HB.out | apply zz2 | apply zz0 | apply zz1 | refine zz3 ?_ GE163.out) hb);clear BK163;clear HB;have BK163:=n0_;have HB:=n1_;clear n0_ n1_;(try clear hb);(try clear hb2);(try clear hk);(try clear hi)))
   go_meet
   case rel=>exact ⟨_,(!t165),(by first | rfl | (simp;done) | (simp [*];done)),H',⟨by first | omega | exact Nat.le_refl _⟩,⟨by (with_reducible repeat (first | refine zz6 ?_ _ | refine zz7 ?_ | refine zz8 ?_ _));exact BK163.out⟩,⟨by repeat first | exact HB.out | apply zz2 | apply zz0 | apply zz1 | refine zz3 ?_ GE163.out⟩⟩
  ·replace c6:=Bool.eq_false_iff.mpr c6
   subst c6
   have H1:(spec_ThreesAt.j0 k a1 true a0_0 l0_1)=some (r1,r2):=by rw [if_neg (show ¬ (false=true) by decide)] at H;exact H
   clear H
   have H:=H1
   clear H1
   have H':=zz31 H
   clear H
   have hcz12_0:w4.cell? ⟨gb163,0,none⟩=some (.int .i64 a0_0):=(zz9 BK163.out 0).trans rfl
   have hcz12_1:w4.cell? ⟨gb163,1,none⟩=some (.slice A0_1 l0_1.length c0_1):=(zz9 BK163.out 1).trans rfl
   have hfz12_0:=zz10 BK163.out 0
   have hfz12_1:=zz10 BK163.out 1
   go_wp2_with (first | ((with_reducible refine gate_callee (f:=23) rfl ?_);refine goesL_ (some 10) rfl rfl Tryd.func23 (by kernel_rfl) rfl #[.agg #[.int .i64 a0_0,.slice A0_1 l0_1.length c0_1]] rfl (by (try simp only [zz26,zz27,zz28]);first | done | rfl | (simp only [zz24,zz25];rfl)) ?_;(with_reducible refine (spec_paGood.calls k a0_0 _ _ l0_1 false _ ?side1 ?side2 A5.out).mono ?_);(case side1=>repeat (first | exact (Kd.C_below HR0_1.out HB.out) | (with_reducible refine zz18 ?_ _) | (with_reducible refine zz19 ?_ _) | (with_reducible refine zz20 ?_)));(case side2=>exact HC0_1.out);rintro e w13 ⟨rfl,hb⟩;refine ⟨_,rfl,?_⟩;have n0_:=zz31 (zz11 (g:=gb163) (o:=.cells #[.int .i64 a0_0,.slice A0_1 l0_1.length c0_1] 30 (0,0)) (by (with_reducible repeat (first | refine zz6 ?_ _ | refine zz7 ?_ | refine zz8 ?_ _));exact BK163.out) hb);have n1_:=zz31 (zz4 (by repeat first | exact HB.out | apply zz2 | apply zz0 | apply zz1 | refine zz3 ?_ GE163.out) hb);clear BK163;clear HB;have BK163:=n0_;have HB:=n1_;clear n0_ n1_;(try clear hb);(try clear hb2);(try clear hk);(try clear hi)))
   go_meet
   case rel=>exact ⟨_,(true),(by first | rfl | (simp;done) | (simp [*];done)),H',⟨by first | omega | exact Nat.le_refl _⟩,⟨by (with_reducible repeat (first | refine zz6 ?_ _ | refine zz7 ?_ | refine zz8 ?_ _));exact BK163.out⟩,⟨by repeat first | exact HB.out | apply zz2 | apply zz0 | apply zz1 | refine zz3 ?_ GE163.out⟩⟩
 case rest =>
  clear HC3
  try clear c2
  try clear p2
  try clear c6
  try clear c7
  try clear hcz10_0
  try clear hcz10_1
  try clear hcz12_0
  try clear hcz12_1
  try clear hcz8_0
  try clear hcz8_1
  try clear hfz10_0
  try clear hfz10_1
  try clear hfz12_0
  try clear hfz12_1
  try clear hfz8_0
  try clear hfz8_1
  obtain ⟨kq,x17_2,rfl,HA,HJ2,BK163,HB⟩:=hcut
  cases kq with
  | zero=>exact absurd HA.out (by simp [spec_ThreesAt.j0])
  | succ kj2 =>
   have H:=HA.out
   clear HA
   simp only [spec_ThreesAt.j0] at H
   by_cases c14:x17_2=true
   ·subst c14
    have H1:(some (0,false))=some (r1,r2):=by rw [if_pos rfl] at H;exact H
    clear H
    have H:=H1
    clear H1
    simp only [Option.some.injEq,Prod.mk.injEq] at H
    obtain ⟨rfl,rfl⟩:=H
    go_wp2
    go_ret2
    exact ⟨by first | rfl | (simp [errW_none,errW_some] <;> rfl) | (simp [*,errW_none,errW_some] <;> rfl),by repeat first | exact HB.out | apply zz2 | apply zz0 | apply zz1 | refine zz3 ?_ GE163.out⟩
   ·replace c14:=Bool.eq_false_iff.mpr c14
    subst c14
    have H1:((spec_paTable.f kj2 a0_0 l0_1).bind fun t166=>((spec_trGroups.f kj2 t166 ([]:List Int) 3).bind fun t169=>(spec_ThreesAt.l0 kj2 a1 0 t169 (t169.length:Int) 0)))=some (r1,r2):=by rw [if_neg (show ¬ (false=true) by decide)] at H;exact H
    clear H
    have H:=H1
    clear H1
    replace H:=zz30.mp H
    obtain ⟨t166,A150,H⟩:=H
    replace H:((spec_trGroups.f kj2 t166 ([]:List Int) 3).bind fun t169=>(spec_ThreesAt.l0 kj2 a1 0 t169 (t169.length:Int) 0))=some (r1,r2):=H
    have A15:=zz31 A150
    clear A150
    replace H:=zz30.mp H
    obtain ⟨t169,A160,H⟩:=H
    replace H:(spec_ThreesAt.l0 kj2 a1 0 t169 (t169.length:Int) 0)=some (r1,r2):=H
    have A16:=zz31 A160
    clear A160
    have H':=zz31 H
    clear H
    have hcz17_0:wc.cell? ⟨gb163,0,none⟩=some (.int .i64 a0_0):=(zz9 BK163.out 0).trans rfl
    have hcz17_1:wc.cell? ⟨gb163,1,none⟩=some (.slice A0_1 l0_1.length c0_1):=(zz9 BK163.out 1).trans rfl
    have hfz17_0:=zz10 BK163.out 0
    have hfz17_1:=zz10 BK163.out 1
    go_wp2_with (first | ((with_reducible refine gate_callee (f:=26) rfl ?_);refine goesL_ (some 19) rfl rfl Tryd.func26 (by kernel_rfl) rfl #[.agg #[.int .i64 a0_0,.slice A0_1 l0_1.length c0_1]] rfl (by (try simp only [zz26,zz27,zz28]);first | done | rfl | (simp only [zz24,zz25];rfl)) ?_;(with_reducible refine (spec_paTable.calls kj2 a0_0 _ _ l0_1 t166 _ ?side1 ?side2 A15.out).mono ?_);(case side1=>repeat (first | exact (Kd.C_below HR0_1.out HB.out) | (with_reducible refine zz18 ?_ _) | (with_reducible refine zz19 ?_ _) | (with_reducible refine zz20 ?_)));(case side2=>exact HC0_1.out);rintro e w18 ⟨v167,rfl,ho0,hb⟩;refine ⟨_,rfl,?_⟩;have n0_:=zz31 (Kd.N_lower (Kd.N_mono (ok':=fun k_=>k_ ≠ gb163) (Kd.S_N (Kd.S_bound ho0)) (fun k_ hk_=>(Kd.freshB (g:=gb163) (o:=.cells #[.int .i64 a0_0,.slice A0_1 l0_1.length c0_1] 30 (0,0)) (by (with_reducible repeat (first | refine zz6 ?_ _ | refine zz7 ?_ | refine zz8 ?_ _));exact BK163.out) k_ hk_.2.1))) (zz5 (by repeat first | exact HB.out | apply zz2 | apply zz0 | apply zz1 | refine zz3 ?_ GE163.out)));have n1_:=zz31 (zz11 (g:=gb163) (o:=.cells #[.int .i64 a0_0,.slice A0_1 l0_1.length c0_1] 30 (0,0)) (by (with_reducible repeat (first | refine zz6 ?_ _ | refine zz7 ?_ | refine zz8 ?_ _));exact BK163.out) hb);have n2_:=zz31 (zz4 (by repeat first | exact HB.out | apply zz2 | apply zz0 | apply zz1 | refine zz3 ?_ GE163.out) hb);clear BK163;clear HB;have HO168:=n0_;have BK163:=n1_;have HB:=n2_;clear n0_ n1_ n2_;(try clear hb);(try clear hb2);(try clear hk);(try clear hi);(try clear ho0);obtain ⟨Ao19,co19,eo19⟩:=Kd.N_slice HO168.out;subst eo19) | ((with_reducible refine gate_callee (f:=25) rfl ?_);refine goesL_ (some 20) rfl rfl Tryd.func25 (by kernel_rfl) rfl #[.slice Ao19 t166.length co19,.slice none 0 0,.int .i64 3] rfl (by (try simp only [zz26,zz27,zz28]);first | done | rfl | (simp only [zz24,zz25];rfl)) ?_;(refine (spec_trGroups.calls kj2 _ _ t166 _ _ ([]:List Int) 3 t169 _ ?side1 ?side2 ?side3 ?side4 A16.out).mono ?_);(case side1=>repeat (first | exact (Kd.N_reads' HO168.out).2.2 | (with_reducible refine zz18 ?_ _) | (with_reducible refine zz19 ?_ _) | (with_reducible refine zz20 ?_)));(case side2=>exact (Kd.N_reads' HO168.out).2.1);(case side3=>exact Kd.C_nil _ _);(case side4=>exact Nat.le_refl _);rintro e w20 ⟨v170,rfl,ho0,hb⟩;refine ⟨_,rfl,?_⟩;have n0_:=zz31 (Kd.N_elder' (by (with_reducible repeat (first | apply Kd.N_alloc | apply Kd.N_drewN | apply Kd.N_drew));exact HO168.out) (Kd.N_base ho0) hb);have n1_:=zz31 (Kd.N_lower (Kd.N_mono (ok':=fun k_=>some k_ ≠ (.slice Ao19 t166.length co19:Value).ownBlock∧k_ ≠ gb163) ho0 (fun k_ hk_=>⟨(Kd.fresh' (Kd.N_lt (by (with_reducible repeat (first | apply Kd.N_alloc | apply Kd.N_drewN | apply Kd.N_drew));exact HO168.out)) k_ hk_),(Kd.freshB (g:=gb163) (o:=.cells #[.int .i64 a0_0,.slice A0_1 l0_1.length c0_1] 30 (0,0)) (by (with_reducible repeat (first | refine zz6 ?_ _ | refine zz7 ?_ | refine zz8 ?_ _));exact BK163.out) k_ hk_)⟩)) (zz5 (by repeat first | exact HB.out | apply zz2 | apply zz0 | apply zz1 | refine zz3 ?_ GE163.out)));have n2_:=zz31 (zz11 (g:=gb163) (o:=.cells #[.int .i64 a0_0,.slice A0_1 l0_1.length c0_1] 30 (0,0)) (by (with_reducible repeat (first | refine zz6 ?_ _ | refine zz7 ?_ | refine zz8 ?_ _));exact BK163.out) hb);have n3_:=zz31 (zz4 (by repeat first | exact HB.out | apply zz2 | apply zz0 | apply zz1 | refine zz3 ?_ GE163.out) hb);clear HO168;clear BK163;clear HB;have HO168:=n0_;have HO171:=n1_;have BK163:=n2_;have HB:=n3_;clear n0_ n1_ n2_ n3_;(try clear hb);(try clear hb2);(try clear hk);(try clear hi);(try clear ho0);obtain ⟨Ao21,co21,eo21⟩:=Kd.N_slice HO171.out;subst eo21))
    go_loopg [6,22] kj2 (fun kq v6 v22 w'=>∃ (x6_2:Int) (x22_2:Int),v6=.int .i64 x6_2∧v22=.int .i64 x22_2∧Aside0 (spec_ThreesAt.l0 kq a1 x6_2 t169 (t169.length:Int) x22_2=some (r1,r2))∧Aside0 (kq≤kj2)∧Aside0 (Kd.N (Kd.slice 3 (Kd.int .i64)) 34 w' w.heap.size (fun k_=>k_ ≠ gb163) (.slice Ao21 t169.length co21) t169)∧Aside0 (w'.heap[gb163]?=some (.cells #[.int .i64 a0_0,(.slice A0_1 l0_1.length c0_1)] 30 (0,0)))∧Aside0 (Below w.heap.size w w'))
    case atStart=>exact ⟨(0),(0),(by first | rfl | (simp;done) | (simp [*];done)),(by first | rfl | (simp;done) | (simp [*];done)),H',⟨Nat.le_refl _⟩,⟨by (with_reducible repeat (first | apply Kd.N_alloc | apply Kd.N_drewN | apply Kd.N_drew));exact Kd.N_mono HO171.out (fun _ hk=>hk.2)⟩,⟨by (with_reducible repeat (first | refine zz6 ?_ _ | refine zz7 ?_ | refine zz8 ?_ _));exact BK163.out⟩,⟨by repeat first | exact HB.out | apply zz2 | apply zz0 | apply zz1 | refine zz3 ?_ GE163.out⟩⟩
    case round =>
     clear H'
     try clear c1
     try clear c2
     try clear p2
     try clear c6
     try clear c7
     try clear c14
     try clear hcz10_0
     try clear hcz10_1
     try clear hcz12_0
     try clear hcz12_1
     try clear hcz17_0
     try clear hcz17_1
     try clear hcz8_0
     try clear hcz8_1
     try clear hfz10_0
     try clear hfz10_1
     try clear hfz12_0
     try clear hfz12_1
     try clear hfz17_0
     try clear hfz17_1
     try clear hfz8_0
     try clear hfz8_1
     try clear p2
     obtain ⟨x6_2,x22_2,rfl,rfl,HA,HK2,HO_20,BK163,HB⟩:=hrel
     cases gk with
     | zero=>exact absurd HA.out (by simp [spec_ThreesAt.l0])
     | succ k2 =>
      have H:=HA.out
      clear HA
      simp only [spec_ThreesAt.l0] at H
      by_cases c22:x22_2 < (t169.length:Int)
      ·rw [if_pos c22] at H
       have c22b0:decide (x22_2 < (t169.length:Int))=true:=decide_eq_true c22
       clear c22
       by_cases c23:0≤x22_2
       ·rw [if_pos c23] at H
        have c23b0:decide (0≤x22_2)=true:=decide_eq_true c23
        clear c23
        by_cases c24:x22_2 < (t169.length:Int)
        ·rw [if_pos c24] at H
         have c24b0:decide (x22_2 < (t169.length:Int))=true:=decide_eq_true c24
         clear c24
         replace H:=zz30.mp H
         obtain ⟨t173,A250,H⟩:=H
         replace H:(if t173=true then (spec_ThreesAt.l0 k2 a1 (wrap64 (x6_2+1)) t169 (t169.length:Int) (wrap64 (x22_2+1))) else (spec_ThreesAt.l0 k2 a1 x6_2 t169 (t169.length:Int) (wrap64 (x22_2+1))))=some (r1,r2):=H
         have A25:=zz31 A250
         clear A250
         by_cases c26:t173=true
         ·subst c26
          have H1:(spec_ThreesAt.l0 k2 a1 (wrap64 (x6_2+1)) t169 (t169.length:Int) (wrap64 (x22_2+1)))=some (r1,r2):=by rw [if_pos rfl] at H;exact H
          clear H
          have H:=H1
          clear H1
          have H':=zz31 H
          clear H
          have p172:0≤(x22_2:Int):=zz29 (by first | (with_reducible assumption) | assumption)
          have q172:x22_2 < (t169.length:Int):=zz29 (by first | (with_reducible assumption) | assumption)
          obtain ⟨ad172,A172_0,c172_0,e172,hx172_0,hl172_0,hi172_0⟩:=at_L5 (Kd.N_reads' HO_20.out).2.2 x22_2 p172 q172
          cases e172
          obtain ⟨ce172,hce172,hMe172,hcc172⟩:=Kd.N_get HO_20.out [] x22_2 p172 (by first | exact q172 | exact zz29 (by first | (with_reducible assumption) | assumption) | (have e_:=(Kd.N_reads' HO_20.out).1;omega))
          obtain ⟨ua172_0,uc172_0,rfl,ul172_0,ge172_0⟩:=Kd.FK_slice_open hMe172
          have hv172_0:=hcc172 0 _ rfl
          rw [Nat.add_zero,show ((Kd.slice 3 (Kd.int .i64))).sz=1 from rfl,Nat.mul_one] at hv172_0
          replace hv172_0:=Option.some.inj (hv172_0.symm.trans hx172_0)
          injection hv172_0 with hva_ hvn_ hvc_
          rw [hva_] at ge172_0
          rw [hvc_] at ul172_0
          have HL172_0:=zz31 (show Kd.V (Kd.int .i64) 3 _ w.heap.size _ _ (rd_L5 t169 x22_2) from Kd.V_mk ul172_0 ge172_0)
          clear hva_ hvn_ hvc_ ge172_0 ul172_0
          clear hcc172 hce172
          have HR172_0:=zz31 hi172_0
          have HC172_0:=zz31 hl172_0
          clear hi172_0 hl172_0
          replace p172:=eq_true p172
          replace q172:=eq_true q172
          go_wp2_with (first | ((with_reducible refine gate_callee (f:=27) rfl ?_);refine goesL_ (some 28) rfl rfl Tryd.func27 (by kernel_rfl) rfl #[.slice A172_0 (rd_L5 t169 x22_2).length c172_0,.int .i64 a1] rfl (by (try simp only [zz26,zz27,zz28]);first | done | rfl | (simp only [zz24,zz25];rfl)) ?_;(with_reducible refine (spec_l1Has.calls k2 _ _ (rd_L5 t169 x22_2) a1 true _ ?side1 ?side2 A25.out).mono ?_);(case side1=>repeat (first | exact (by repeat (first | (with_reducible exact HR172_0.out) | (with_reducible refine zz18 ?_ _) | (with_reducible refine zz19 ?_ _) | (with_reducible refine zz20 ?_) | exact HR172_0.out)) | (with_reducible refine zz18 ?_ _) | (with_reducible refine zz19 ?_ _) | (with_reducible refine zz20 ?_)));(case side2=>exact HC172_0.out);rintro e w' ⟨rfl,⟨nd,rfl⟩⟩;refine ⟨_,rfl,?_⟩))
          go_roundg k2
          case measure=>have:=HJ2.out;have:=HK2.out;omega
          case rel=>exact ⟨(wrap64 (x6_2+1)),(wrap64 (x22_2+1)),(by first | rfl | (simp;done) | (simp [*];done)),(by first | rfl | (simp;done) | (simp [*];done)),H',⟨by have:=HJ2.out;have:=HK2.out;omega⟩,⟨by (with_reducible repeat (first | apply Kd.N_alloc | apply Kd.N_drewN | apply Kd.N_drew));exact HO_20.out⟩,⟨by (with_reducible repeat (first | refine zz6 ?_ _ | refine zz7 ?_ | refine zz8 ?_ _));exact BK163.out⟩,⟨by repeat first | exact HB.out | apply zz2 | apply zz0 | apply zz1 | refine zz3 ?_ GE163.out⟩⟩
         ·replace c26:=Bool.eq_false_iff.mpr c26
          subst c26
          have H1:(spec_ThreesAt.l0 k2 a1 x6_2 t169 (t169.length:Int) (wrap64 (x22_2+1)))=some (r1,r2):=by rw [if_neg (show ¬ (false=true) by decide)] at H;exact H
          clear H
          have H:=H1
          clear H1
          have H':=zz31 H
          clear H
          have p172:0≤(x22_2:Int):=zz29 (by first | (with_reducible assumption) | assumption)
          have q172:x22_2 < (t169.length:Int):=zz29 (by first | (with_reducible assumption) | assumption)
          obtain ⟨ad172,A172_0,c172_0,e172,hx172_0,hl172_0,hi172_0⟩:=at_L5 (Kd.N_reads' HO_20.out).2.2 x22_2 p172 q172
          cases e172
          obtain ⟨ce172,hce172,hMe172,hcc172⟩:=Kd.N_get HO_20.out [] x22_2 p172 (by first | exact q172 | exact zz29 (by first | (with_reducible assumption) | assumption) | (have e_:=(Kd.N_reads' HO_20.out).1;omega))
          obtain ⟨ua172_0,uc172_0,rfl,ul172_0,ge172_0⟩:=Kd.FK_slice_open hMe172
          have hv172_0:=hcc172 0 _ rfl
          rw [Nat.add_zero,show ((Kd.slice 3 (Kd.int .i64))).sz=1 from rfl,Nat.mul_one] at hv172_0
          replace hv172_0:=Option.some.inj (hv172_0.symm.trans hx172_0)
          injection hv172_0 with hva_ hvn_ hvc_
          rw [hva_] at ge172_0
          rw [hvc_] at ul172_0
          have HL172_0:=zz31 (show Kd.V (Kd.int .i64) 3 _ w.heap.size _ _ (rd_L5 t169 x22_2) from Kd.V_mk ul172_0 ge172_0)
          clear hva_ hvn_ hvc_ ge172_0 ul172_0
          clear hcc172 hce172
          have HR172_0:=zz31 hi172_0
          have HC172_0:=zz31 hl172_0
          clear hi172_0 hl172_0
          replace p172:=eq_true p172
          replace q172:=eq_true q172
          go_wp2_with (first | ((with_reducible refine gate_callee (f:=27) rfl ?_);refine goesL_ (some 28) rfl rfl Tryd.func27 (by kernel_rfl) rfl #[.slice A172_0 (rd_L5 t169 x22_2).length c172_0,.int .i64 a1] rfl (by (try simp only [zz26,zz27,zz28]);first | done | rfl | (simp only [zz24,zz25];rfl)) ?_;(with_reducible refine (spec_l1Has.calls k2 _ _ (rd_L5 t169 x22_2) a1 false _ ?side1 ?side2 A25.out).mono ?_);(case side1=>repeat (first | exact (by repeat (first | (with_reducible exact HR172_0.out) | (with_reducible refine zz18 ?_ _) | (with_reducible refine zz19 ?_ _) | (with_reducible refine zz20 ?_) | exact HR172_0.out)) | (with_reducible refine zz18 ?_ _) | (with_reducible refine zz19 ?_ _) | (with_reducible refine zz20 ?_)));(case side2=>exact HC172_0.out);rintro e w' ⟨rfl,⟨nd,rfl⟩⟩;refine ⟨_,rfl,?_⟩))
          go_roundg k2
          case measure=>have:=HJ2.out;have:=HK2.out;omega
          case rel=>exact ⟨(x6_2),(wrap64 (x22_2+1)),(by first | rfl | (simp;done) | (simp [*];done)),(by first | rfl | (simp;done) | (simp [*];done)),H',⟨by have:=HJ2.out;have:=HK2.out;omega⟩,⟨by (with_reducible repeat (first | apply Kd.N_alloc | apply Kd.N_drewN | apply Kd.N_drew));exact HO_20.out⟩,⟨by (with_reducible repeat (first | refine zz6 ?_ _ | refine zz7 ?_ | refine zz8 ?_ _));exact BK163.out⟩,⟨by repeat first | exact HB.out | apply zz2 | apply zz0 | apply zz1 | refine zz3 ?_ GE163.out⟩⟩
        ·rw [if_neg c24] at H
         exact absurd H (by simp)
       ·rw [if_neg c23] at H
        exact absurd H (by simp)
      ·rw [if_neg c22] at H
       have c22b0:decide (x22_2 < (t169.length:Int))=false:=decide_eq_false c22
       clear c22
       simp only [Option.some.injEq,Prod.mk.injEq] at H
       obtain ⟨rfl,rfl⟩:=H
       go_wp2
       go_ret2
       exact ⟨by first | rfl | (simp [errW_none,errW_some] <;> rfl) | (simp [*,errW_none,errW_some] <;> rfl),by repeat first | exact HB.out | apply zz2 | apply zz0 | apply zz1 | refine zz3 ?_ GE163.out⟩

/-! ### bits_OnesCount16: function 32 -/
def bits_OnesCount16.f (a0:Int):Option (Int):=if 0≤(a0 / 256) then (if (a0 / 256) < 256 then (if 0≤(Go.bits .and .u16 a0 255) then (if (Go.bits .and .u16 a0 255) < 256 then (some (((bt (⟨#[0,1,1,2,1,2,2,3,1,2,2,3,2,3,3,4,1,2,2,3,2,3,3,4,2,3,3,4,3,4,4,5,1,2,2,3,2,3,3,4,2,3,3,4,3,4,4,5,2,3,3,4,3,4,4,5,3,4,4,5,4,5,5,6,1,2,2,3,2,3,3,4,2,3,3,4,3,4,4,5,2,3,3,4,3,4,4,5,3,4,4,5,4,5,5,6,2,3,3,4,3,4,4,5,3,4,4,5,4,5,5,6,3,4,4,5,4,5,5,6,4,5,5,6,5,6,6,7,1,2,2,3,2,3,3,4,2,3,3,4,3,4,4,5,2,3,3,4,3,4,4,5,3,4,4,5,4,5,5,6,2,3,3,4,3,4,4,5,3,4,4,5,4,5,5,6,3,4,4,5,4,5,5,6,4,5,5,6,5,6,6,7,2,3,3,4,3,4,4,5,3,4,4,5,4,5,5,6,3,4,4,5,4,5,5,6,4,5,5,6,5,6,6,7,3,4,4,5,4,5,5,6,4,5,5,6,5,6,6,7,4,5,5,6,5,6,6,7,5,6,6,7,6,7,7,8]⟩:ByteArray) (a0 / 256))+(bt (⟨#[0,1,1,2,1,2,2,3,1,2,2,3,2,3,3,4,1,2,2,3,2,3,3,4,2,3,3,4,3,4,4,5,1,2,2,3,2,3,3,4,2,3,3,4,3,4,4,5,2,3,3,4,3,4,4,5,3,4,4,5,4,5,5,6,1,2,2,3,2,3,3,4,2,3,3,4,3,4,4,5,2,3,3,4,3,4,4,5,3,4,4,5,4,5,5,6,2,3,3,4,3,4,4,5,3,4,4,5,4,5,5,6,3,4,4,5,4,5,5,6,4,5,5,6,5,6,6,7,1,2,2,3,2,3,3,4,2,3,3,4,3,4,4,5,2,3,3,4,3,4,4,5,3,4,4,5,4,5,5,6,2,3,3,4,3,4,4,5,3,4,4,5,4,5,5,6,3,4,4,5,4,5,5,6,4,5,5,6,5,6,6,7,2,3,3,4,3,4,4,5,3,4,4,5,4,5,5,6,3,4,4,5,4,5,5,6,4,5,5,6,5,6,6,7,3,4,4,5,4,5,5,6,4,5,5,6,5,6,6,7,4,5,5,6,5,6,6,7,5,6,6,7,6,7,7,8]⟩:ByteArray) (Go.bits .and .u16 a0 255))) % 256)) else (none)) else (none)) else (none)) else (none)
set_option maxHeartbeats 8000000 in
set_option maxRecDepth 100000 in
theorem bits_OnesCount16.calls (a0:Int) (r:Int) (w:World) (h:bits_OnesCount16.f a0=some r) :
  Calls Tryd.prog 32 #[.int .u16 a0] w fun e w'=>e=.returned (.int .i64 r)∧Drawn0 w w':=by
 have H:(if 0≤(a0 / 256) then (if (a0 / 256) < 256 then (if 0≤(Go.bits .and .u16 a0 255) then (if (Go.bits .and .u16 a0 255) < 256 then (some (((bt (⟨#[0,1,1,2,1,2,2,3,1,2,2,3,2,3,3,4,1,2,2,3,2,3,3,4,2,3,3,4,3,4,4,5,1,2,2,3,2,3,3,4,2,3,3,4,3,4,4,5,2,3,3,4,3,4,4,5,3,4,4,5,4,5,5,6,1,2,2,3,2,3,3,4,2,3,3,4,3,4,4,5,2,3,3,4,3,4,4,5,3,4,4,5,4,5,5,6,2,3,3,4,3,4,4,5,3,4,4,5,4,5,5,6,3,4,4,5,4,5,5,6,4,5,5,6,5,6,6,7,1,2,2,3,2,3,3,4,2,3,3,4,3,4,4,5,2,3,3,4,3,4,4,5,3,4,4,5,4,5,5,6,2,3,3,4,3,4,4,5,3,4,4,5,4,5,5,6,3,4,4,5,4,5,5,6,4,5,5,6,5,6,6,7,2,3,3,4,3,4,4,5,3,4,4,5,4,5,5,6,3,4,4,5,4,5,5,6,4,5,5,6,5,6,6,7,3,4,4,5,4,5,5,6,4,5,5,6,5,6,6,7,4,5,5,6,5,6,6,7,5,6,6,7,6,7,7,8]⟩:ByteArray) (a0 / 256))+(bt (⟨#[0,1,1,2,1,2,2,3,1,2,2,3,2,3,3,4,1,2,2,3,2,3,3,4,2,3,3,4,3,4,4,5,1,2,2,3,2,3,3,4,2,3,3,4,3,4,4,5,2,3,3,4,3,4,4,5,3,4,4,5,4,5,5,6,1,2,2,3,2,3,3,4,2,3,3,4,3,4,4,5,2,3,3,4,3,4,4,5,3,4,4,5,4,5,5,6,2,3,3,4,3,4,4,5,3,4,4,5,4,5,5,6,3,4,4,5,4,5,5,6,4,5,5,6,5,6,6,7,1,2,2,3,2,3,3,4,2,3,3,4,3,4,4,5,2,3,3,4,3,4,4,5,3,4,4,5,4,5,5,6,2,3,3,4,3,4,4,5,3,4,4,5,4,5,5,6,3,4,4,5,4,5,5,6,4,5,5,6,5,6,6,7,2,3,3,4,3,4,4,5,3,4,4,5,4,5,5,6,3,4,4,5,4,5,5,6,4,5,5,6,5,6,6,7,3,4,4,5,4,5,5,6,4,5,5,6,5,6,6,7,4,5,5,6,5,6,6,7,5,6,6,7,6,7,7,8]⟩:ByteArray) (Go.bits .and .u16 a0 255))) % 256)) else (none)) else (none)) else (none)) else (none))=some r:=h
 clear h
 obtain ⟨ji2,hji2⟩:∃ j_:Int,(a0 / 256)=j_:=⟨_,rfl⟩
 replace H:(if 0≤(ji2) then (if (ji2) < 256 then (if 0≤(Go.bits .and .u16 a0 255) then (if (Go.bits .and .u16 a0 255) < 256 then (some (((bt (⟨#[0,1,1,2,1,2,2,3,1,2,2,3,2,3,3,4,1,2,2,3,2,3,3,4,2,3,3,4,3,4,4,5,1,2,2,3,2,3,3,4,2,3,3,4,3,4,4,5,2,3,3,4,3,4,4,5,3,4,4,5,4,5,5,6,1,2,2,3,2,3,3,4,2,3,3,4,3,4,4,5,2,3,3,4,3,4,4,5,3,4,4,5,4,5,5,6,2,3,3,4,3,4,4,5,3,4,4,5,4,5,5,6,3,4,4,5,4,5,5,6,4,5,5,6,5,6,6,7,1,2,2,3,2,3,3,4,2,3,3,4,3,4,4,5,2,3,3,4,3,4,4,5,3,4,4,5,4,5,5,6,2,3,3,4,3,4,4,5,3,4,4,5,4,5,5,6,3,4,4,5,4,5,5,6,4,5,5,6,5,6,6,7,2,3,3,4,3,4,4,5,3,4,4,5,4,5,5,6,3,4,4,5,4,5,5,6,4,5,5,6,5,6,6,7,3,4,4,5,4,5,5,6,4,5,5,6,5,6,6,7,4,5,5,6,5,6,6,7,5,6,6,7,6,7,7,8]⟩:ByteArray) (ji2))+(bt (⟨#[0,1,1,2,1,2,2,3,1,2,2,3,2,3,3,4,1,2,2,3,2,3,3,4,2,3,3,4,3,4,4,5,1,2,2,3,2,3,3,4,2,3,3,4,3,4,4,5,2,3,3,4,3,4,4,5,3,4,4,5,4,5,5,6,1,2,2,3,2,3,3,4,2,3,3,4,3,4,4,5,2,3,3,4,3,4,4,5,3,4,4,5,4,5,5,6,2,3,3,4,3,4,4,5,3,4,4,5,4,5,5,6,3,4,4,5,4,5,5,6,4,5,5,6,5,6,6,7,1,2,2,3,2,3,3,4,2,3,3,4,3,4,4,5,2,3,3,4,3,4,4,5,3,4,4,5,4,5,5,6,2,3,3,4,3,4,4,5,3,4,4,5,4,5,5,6,3,4,4,5,4,5,5,6,4,5,5,6,5,6,6,7,2,3,3,4,3,4,4,5,3,4,4,5,4,5,5,6,3,4,4,5,4,5,5,6,4,5,5,6,5,6,6,7,3,4,4,5,4,5,5,6,4,5,5,6,5,6,6,7,4,5,5,6,5,6,6,7,5,6,6,7,6,7,7,8]⟩:ByteArray) (Go.bits .and .u16 a0 255))) % 256)) else (none)) else (none)) else (none)) else (none))=some r:=by first | (rw [hji2] at H;exact H) | (simp only [hji2] at H ⊢;exact H)
 by_cases c3:0≤(ji2)
 ·rw [if_pos c3] at H
  have c3b0:decide (0≤(ji2))=true:=decide_eq_true c3
  clear c3
  by_cases c4:(ji2) < 256
  ·rw [if_pos c4] at H
   have c4b0:decide ((ji2) < 256)=true:=decide_eq_true c4
   clear c4
   by_cases c6:0≤(Go.bits .and .u16 a0 255)
   ·rw [if_pos c6] at H
    have c6b0:decide (0≤(Go.bits .and .u16 a0 255))=true:=decide_eq_true c6
    clear c6
    by_cases c7:(Go.bits .and .u16 a0 255) < 256
    ·rw [if_pos c7] at H
     have c7b0:decide ((Go.bits .and .u16 a0 255) < 256)=true:=decide_eq_true c7
     clear c7
     obtain rfl:=Option.some.inj H
     have p5:0≤((ji2):Int):=zz29 (by first | (with_reducible assumption) | assumption)
     have q5:(ji2) < (256:Int):=zz29 (by first | (with_reducible assumption) | assumption)
     have hx5:=bt_at (⟨#[0,1,1,2,1,2,2,3,1,2,2,3,2,3,3,4,1,2,2,3,2,3,3,4,2,3,3,4,3,4,4,5,1,2,2,3,2,3,3,4,2,3,3,4,3,4,4,5,2,3,3,4,3,4,4,5,3,4,4,5,4,5,5,6,1,2,2,3,2,3,3,4,2,3,3,4,3,4,4,5,2,3,3,4,3,4,4,5,3,4,4,5,4,5,5,6,2,3,3,4,3,4,4,5,3,4,4,5,4,5,5,6,3,4,4,5,4,5,5,6,4,5,5,6,5,6,6,7,1,2,2,3,2,3,3,4,2,3,3,4,3,4,4,5,2,3,3,4,3,4,4,5,3,4,4,5,4,5,5,6,2,3,3,4,3,4,4,5,3,4,4,5,4,5,5,6,3,4,4,5,4,5,5,6,4,5,5,6,5,6,6,7,2,3,3,4,3,4,4,5,3,4,4,5,4,5,5,6,3,4,4,5,4,5,5,6,4,5,5,6,5,6,6,7,3,4,4,5,4,5,5,6,4,5,5,6,5,6,6,7,4,5,5,6,5,6,6,7,5,6,6,7,6,7,7,8]⟩:ByteArray) (ji2)
     replace p5:=eq_true p5
     replace q5:=eq_true q5
     have p8:0≤((Go.bits .and .u16 a0 255):Int):=zz29 (by first | (with_reducible assumption) | assumption)
     have q8:(Go.bits .and .u16 a0 255) < (256:Int):=zz29 (by first | (with_reducible assumption) | assumption)
     have hx8:=bt_at (⟨#[0,1,1,2,1,2,2,3,1,2,2,3,2,3,3,4,1,2,2,3,2,3,3,4,2,3,3,4,3,4,4,5,1,2,2,3,2,3,3,4,2,3,3,4,3,4,4,5,2,3,3,4,3,4,4,5,3,4,4,5,4,5,5,6,1,2,2,3,2,3,3,4,2,3,3,4,3,4,4,5,2,3,3,4,3,4,4,5,3,4,4,5,4,5,5,6,2,3,3,4,3,4,4,5,3,4,4,5,4,5,5,6,3,4,4,5,4,5,5,6,4,5,5,6,5,6,6,7,1,2,2,3,2,3,3,4,2,3,3,4,3,4,4,5,2,3,3,4,3,4,4,5,3,4,4,5,4,5,5,6,2,3,3,4,3,4,4,5,3,4,4,5,4,5,5,6,3,4,4,5,4,5,5,6,4,5,5,6,5,6,6,7,2,3,3,4,3,4,4,5,3,4,4,5,4,5,5,6,3,4,4,5,4,5,5,6,4,5,5,6,5,6,6,7,3,4,4,5,4,5,5,6,4,5,5,6,5,6,6,7,4,5,5,6,5,6,6,7,5,6,6,7,6,7,7,8]⟩:ByteArray) (Go.bits .and .u16 a0 255)
     replace p8:=eq_true p8
     replace q8:=eq_true q8
     go_enter Tryd.func32,Tryd.ntmps32
     go_wp2
     repeat (go_quiet (fail);try go_wp2)
     go_ret
     exact ⟨by first | rfl | (simp;done) | (simp only [← hji2] <;> (first | rfl | simp)) | (simp [*];done),by repeat (first | exact Drawn0.refl _ | apply Drawn0.step)⟩
    ·rw [if_neg c7] at H
     exact absurd H (by simp)
   ·rw [if_neg c6] at H
    exact absurd H (by simp)
  ·rw [if_neg c4] at H
   exact absurd H (by simp)
 ·rw [if_neg c3] at H
  exact absurd H (by simp)

/-! ### impl_ThreesAt: function 9 -/
def impl_ThreesAt.l0:Nat→Int→List Int→Int→List Int→Int→Int→Option (Int × Bool)
 | 0,_,_,_,_,_,_=>none
 | k+1,x1,x6,x7,x21,x22,x23=>if x23 < x22 then (if 0≤x23 then (if x23 < (x21.length:Int) then (if 0≤x1 then (if x1 < (x6.length:Int) then (if 0≤(rd x21 x23) then (if (rd x21 x23) < (x6.length:Int) then ((bits_OnesCount16.f (Go.bits .and .u16 (rd x6 x1) (rd x6 (rd x21 x23)))).bind fun t243=>(impl_ThreesAt.l0 k x1 x6 (wrap64 (x7+t243)) x21 x22 (wrap64 (x23+1)))) else (none)) else (none)) else (none)) else (none)) else (none)) else (none)) else (some (wrap64 (Int.tdiv x7 2),true))
def impl_ThreesAt.f (k:Nat) (a0_0:Int) (l0_1:List (S68)) (a1:Int):Option (Int × Bool):=(impl_arePeople.f k a0_0 l0_1 (([a1]:List Int))).bind fun t232=>(if t232=true then ((impl_Party_table.f k a0_0 l0_1).bind fun t233=>(if 0≤a1 then (if a1 < (t233.length:Int) then ((impl_listed.f k (rd t233 a1)).bind fun t237=>(impl_ThreesAt.l0 k a1 t233 0 t237 (t237.length:Int) 0)) else (none)) else (none))) else (some (0,false)))
theorem impl_ThreesAt.mono_l:∀ k,(∀ y0 y1 y2 y3 y4 y5,LeO (impl_ThreesAt.l0 k y0 y1 y2 y3 y4 y5) (impl_ThreesAt.l0 (k+1) y0 y1 y2 y3 y4 y5))
 | 0=>fun _ _ _ _ _ _ r h=>by simp [impl_ThreesAt.l0] at h
 | k+1=>by
  have ih0:=impl_ThreesAt.mono_l k
  ·intro y0 y1 y2 y3 y4 y5
   unfold impl_ThreesAt.l0
   repeat' first
   | (with_reducible exact ih0 _ _ _ _ _ _)
   | (with_reducible exact impl_Party_table.mono _ _ _)
   | (with_reducible exact impl_arePeople.mono _ _ _ _)
   | (with_reducible exact impl_listed.mono _ _)
   | (with_reducible exact LeO.refl _)
   | (with_reducible exact LeO.none _)
   | (with_reducible refine LeO.ite ?_ ?_)
   | (with_reducible refine LeO.bind ?_ (fun _=>?_))
   | exact ih0 _ _ _ _ _ _
   | exact impl_Party_table.mono _ _ _
   | exact impl_arePeople.mono _ _ _ _
   | exact impl_listed.mono _ _
   | exact LeO.none _
   | refine LeO.ite ?_ ?_
   | refine LeO.bind ?_ (fun _=>?_)
theorem impl_ThreesAt.mono:∀ a0 a1 a2 k,LeO (impl_ThreesAt.f k a0 a1 a2) (impl_ThreesAt.f (k+1) a0 a1 a2):=by
 intro a0 a1 a2 k
 have ih0:=impl_ThreesAt.mono_l k
 unfold impl_ThreesAt.f
 repeat' first
   | (with_reducible exact ih0 _ _ _ _ _ _)
   | (with_reducible exact impl_Party_table.mono _ _ _)
   | (with_reducible exact impl_arePeople.mono _ _ _ _)
   | (with_reducible exact impl_listed.mono _ _)
   | (with_reducible exact LeO.refl _)
   | (with_reducible exact LeO.none _)
   | (with_reducible refine LeO.ite ?_ ?_)
   | (with_reducible refine LeO.bind ?_ (fun _=>?_))
   | exact ih0 _ _ _ _ _ _
   | exact impl_Party_table.mono _ _ _
   | exact impl_arePeople.mono _ _ _ _
   | exact impl_listed.mono _ _
   | exact LeO.none _
   | refine LeO.ite ?_ ?_
   | refine LeO.bind ?_ (fun _=>?_)
set_option maxHeartbeats 8000000 in
set_option maxRecDepth 100000 in
theorem impl_ThreesAt.calls (k:Nat) (a0_0:Int) (A0_1:Option Addr) (c0_1:Nat) (l0_1:List (S68)) (a1:Int) (r1:Int) (r2:Bool) (w:World) (hr0_1:Kd.C k68 w A0_1 l0_1.length l0_1) (hc0_1:l0_1.length≤c0_1) (h:impl_ThreesAt.f k a0_0 l0_1 a1=some (r1,r2)) (hT:Tz w) :
  Calls Tryd.prog 9 #[.agg #[.int .i64 a0_0,.slice A0_1 l0_1.length c0_1],.int .i64 a1] w fun e w'=>e=.returned (.tuple #[.int .i64 r1,.bool r2])∧Below w.heap.size w w':=by
 have hu30:=Tryd.underlying30
 have HR0_1:=zz31 hr0_1
 have HC0_1:=zz31 hc0_1
 clear hr0_1 hc0_1
 have HB:=zz31 (Below.refl w.heap.size w)
 have HT:=zz31 hT
 clear hT
 have H:((impl_arePeople.f k a0_0 l0_1 (([a1]:List Int))).bind fun t232=>(if t232=true then ((impl_Party_table.f k a0_0 l0_1).bind fun t233=>(if 0≤a1 then (if a1 < (t233.length:Int) then ((impl_listed.f k (rd t233 a1)).bind fun t237=>(impl_ThreesAt.l0 k a1 t233 0 t237 (t237.length:Int) 0)) else (none)) else (none))) else (some (0,false))))=some (r1,r2):=h
 clear h
 obtain ⟨y229,hy229⟩:∃ y_:List Int,y_=(([a1]:List Int)):=⟨_,rfl⟩
 replace H:((impl_arePeople.f k a0_0 l0_1 y229).bind fun t232=>(if t232=true then ((impl_Party_table.f k a0_0 l0_1).bind fun t233=>(if 0≤a1 then (if a1 < (t233.length:Int) then ((impl_listed.f k (rd t233 a1)).bind fun t237=>(impl_ThreesAt.l0 k a1 t233 0 t237 (t237.length:Int) 0)) else (none)) else (none))) else (some (0,false))))=some (r1,r2):=by first | (rw [hy229];with_reducible exact H) | (have H2_:=(Option.bind_some _ _).symm.trans H;rw [hy229];with_reducible exact H2_) | (have H2_:=(Option.bind_some _ _).symm.trans H;with_reducible exact H2_) | with_reducible exact H | (rw [hy229];exact H) | exact H
 have Ny229:=zz31 hy229
 clear hy229
 replace H:=zz30.mp H
 obtain ⟨t232,A30,H⟩:=H
 replace H:(if t232=true then ((impl_Party_table.f k a0_0 l0_1).bind fun t233=>(if 0≤a1 then (if a1 < (t233.length:Int) then ((impl_listed.f k (rd t233 a1)).bind fun t237=>(impl_ThreesAt.l0 k a1 t233 0 t237 (t237.length:Int) 0)) else (none)) else (none))) else (some (0,false)))=some (r1,r2):=H
 have A3:=zz31 A30
 clear A30
 by_cases c4:t232=true
 ·subst c4
  have H1:((impl_Party_table.f k a0_0 l0_1).bind fun t233=>(if 0≤a1 then (if a1 < (t233.length:Int) then ((impl_listed.f k (rd t233 a1)).bind fun t237=>(impl_ThreesAt.l0 k a1 t233 0 t237 (t237.length:Int) 0)) else (none)) else (none)))=some (r1,r2):=by rw [if_pos rfl] at H;exact H
  clear H
  have H:=H1
  clear H1
  replace H:=zz30.mp H
  obtain ⟨t233,A50,H⟩:=H
  replace H:(if 0≤a1 then (if a1 < (t233.length:Int) then ((impl_listed.f k (rd t233 a1)).bind fun t237=>(impl_ThreesAt.l0 k a1 t233 0 t237 (t237.length:Int) 0)) else (none)) else (none))=some (r1,r2):=H
  have A5:=zz31 A50
  clear A50
  by_cases c6:0≤a1
  ·rw [if_pos c6] at H
   have c6b0:decide (0≤a1)=true:=decide_eq_true c6
   clear c6
   by_cases c7:a1 < (t233.length:Int)
   ·rw [if_pos c7] at H
    have c7b0:decide (a1 < (t233.length:Int))=true:=decide_eq_true c7
    clear c7
    replace H:=zz30.mp H
    obtain ⟨t237,A80,H⟩:=H
    replace H:(impl_ThreesAt.l0 k a1 t233 0 t237 (t237.length:Int) 0)=some (r1,r2):=H
    have A8:=zz31 A80
    clear A80
    have H':=zz31 H
    clear H
    go_enter Tryd.func9,Tryd.ntmps9
    go_wp2_with (first | ((with_reducible refine gate_dst (N:=2) rfl ?_);refine box_event ?hg (N:=2) ?hd (cs:=#[.int .i64 a0_0,.slice A0_1 l0_1.length c0_1]) (t:=30) ?hr ?_;(case hd=>rfl);(case hg=>rfl);(case hr=>first | (go_simp;done) | (go_simp;rfl));intro gb228 hg w9 hbox hb;have n0_:=zz31 (zz4 (by repeat first | exact HB.out | apply zz2 | apply zz0 | apply zz1) hb);have n1_:=zz31 (hbox);have n2_:=zz31 ((by rw [hg];exact (zz5 (by repeat first | exact HB.out | apply zz2 | apply zz0 | apply zz1)):w.heap.size≤gb228));have n3_:=zz31 ((by rw [hg];exact (zz5 (by repeat first | exact HB.out | apply zz2 | apply zz0 | apply zz1)):w.heap.size≤gb228));clear HB;have HB:=n0_;have BK228:=n1_;have GW228:=n2_;have GE228:=n3_;clear n0_ n1_ n2_ n3_;clear hb hbox hg;have hcz10_0:w9.cell? ⟨gb228,0,none⟩=some (.int .i64 a0_0):=(zz9 BK228.out 0).trans rfl;have hcz10_1:w9.cell? ⟨gb228,1,none⟩=some (.slice A0_1 l0_1.length c0_1):=(zz9 BK228.out 1).trans rfl;have hfz10_0:=zz10 BK228.out 0;have hfz10_1:=zz10 BK228.out 1) | ((with_reducible refine gate_dst (N:=12) rfl ?_);refine Kd.R_lit (Kd.int .i64) _ 3 ?hg (N:=12) ?hd (xs:=([a1]:List Int)) (inner:=[.int .i64 a1]) (ok:=fun _=>True) (okp:=fun _=>True) ?hr ?hp (fun _ hk=>hk) trivial (Below.refl _ _) (Nat.le_refl _) (by simp) ?_;(case hd=>rfl);(case hg=>rfl);(case hr=>first | (go_simp;done) | (go_simp;rfl));(case hp=>exact (Reps.one (show Kd.M (Kd.int .i64) _ _ _ a1 [.int .i64 a1] from rfl) (Reps.none _ _)));intro v230 w11 ho12 hb hg_ hnew_;clear hg_ hnew_;(first | rw [← Ny229.out] at ho12 | (simp only [Int.reduceToNat] at ho12;rw [← Ny229.out] at ho12));have n0_:=zz31 (Kd.R_lower ho12 (zz5 (by repeat first | exact HB.out | apply zz2 | apply zz0 | apply zz1 | refine zz3 ?_ GE228.out)));have n1_:=zz31 (zz11 (g:=gb228) (o:=.cells #[.int .i64 a0_0,.slice A0_1 l0_1.length c0_1] 30 (0,0)) (by (with_reducible repeat (first | refine zz6 ?_ _ | refine zz7 ?_ | refine zz8 ?_ _));exact BK228.out) hb);have n2_:=zz31 (zz4 (by repeat first | exact HB.out | apply zz2 | apply zz0 | apply zz1 | refine zz3 ?_ GE228.out) hb);clear BK228;clear HB;have HO231:=n0_;have BK228:=n1_;have HB:=n2_;clear n0_ n1_ n2_;clear hb ho12;obtain ⟨Ao13,co13,eo13⟩:=Kd.R_slice HO231.out;subst eo13) | (go_at_call 29;(with_reducible refine (impl_arePeople.calls k a0_0 _ _ l0_1 _ _ y229 true _ ?side1 ?side2 ?side3 ?side4 A3.out).mono ?_);(case side1=>repeat (first | exact (Kd.C_below HR0_1.out HB.out) | (with_reducible refine zz18 ?_ _) | (with_reducible refine zz19 ?_ _) | (with_reducible refine zz20 ?_)));(case side2=>exact HC0_1.out);(case side3=>repeat (first | exact (Kd.R_reads' HO231.out).2.2 | (with_reducible refine zz18 ?_ _) | (with_reducible refine zz19 ?_ _) | (with_reducible refine zz20 ?_)));(case side4=>exact (Kd.R_reads' HO231.out).2.1);rintro e w14 ⟨rfl,hb⟩;have n0_:=zz31 (Kd.R_below (by (with_reducible repeat (first | apply zz12 | apply zz13 | apply zz14));exact HO231.out) hb);have n1_:=zz31 (zz11 (g:=gb228) (o:=.cells #[.int .i64 a0_0,.slice A0_1 l0_1.length c0_1] 30 (0,0)) (by (with_reducible repeat (first | refine zz6 ?_ _ | refine zz7 ?_ | refine zz8 ?_ _));exact BK228.out) hb);have n2_:=zz31 (zz4 (by repeat first | exact HB.out | apply zz2 | apply zz0 | apply zz1 | refine zz3 ?_ GE228.out) hb);clear HO231;clear BK228;clear HB;have HO231:=n0_;have BK228:=n1_;have HB:=n2_;clear n0_ n1_ n2_;(try clear hb);(try clear hb2);(try clear hk);(try clear hi);have hcz15_0:w14.cell? ⟨gb228,0,none⟩=some (.int .i64 a0_0):=(zz9 BK228.out 0).trans rfl;have hcz15_1:w14.cell? ⟨gb228,1,none⟩=some (.slice A0_1 l0_1.length c0_1):=(zz9 BK228.out 1).trans rfl;have hfz15_0:=zz10 BK228.out 0;have hfz15_1:=zz10 BK228.out 1) | (go_at_call 30;(with_reducible refine (impl_Party_table.calls k a0_0 _ _ l0_1 t233 _ ?side1 ?side2 A5.out).mono ?_);(case side1=>repeat (first | exact (Kd.C_below HR0_1.out HB.out) | (with_reducible refine zz18 ?_ _) | (with_reducible refine zz19 ?_ _) | (with_reducible refine zz20 ?_)));(case side2=>exact HC0_1.out);rintro e w16 ⟨v234,rfl,ho0,hb⟩;have n0_:=zz31 (Kd.R_below (by (with_reducible repeat (first | apply zz12 | apply zz13 | apply zz14));exact HO231.out) hb);have n1_:=zz31 (Kd.R_lower ho0 (zz5 (by repeat first | exact HB.out | apply zz2 | apply zz0 | apply zz1 | refine zz3 ?_ GE228.out)));have n2_:=zz31 (zz11 (g:=gb228) (o:=.cells #[.int .i64 a0_0,.slice A0_1 l0_1.length c0_1] 30 (0,0)) (by (with_reducible repeat (first | refine zz6 ?_ _ | refine zz7 ?_ | refine zz8 ?_ _));exact BK228.out) hb);have n3_:=zz31 (zz4 (by repeat first | exact HB.out | apply zz2 | apply zz0 | apply zz1 | refine zz3 ?_ GE228.out) hb);clear HO231;clear BK228;clear HB;have HO231:=n0_;have HO235:=n1_;have BK228:=n2_;have HB:=n3_;clear n0_ n1_ n2_ n3_;(try clear hb);(try clear hb2);(try clear hk);(try clear hi);(try clear ho0);obtain ⟨Ao17,co17,eo17⟩:=Kd.R_slice HO235.out;subst eo17;have p236:0≤(a1:Int):=zz29 (by first | (with_reducible assumption) | assumption);have q236:a1 < (t233.length:Int):=zz29 (by first | (with_reducible assumption) | assumption);obtain ⟨ad236,e236,hx236_0⟩:=Kd.at_int (Kd.R_reads' HO235.out).2.2 a1 p236 q236;cases e236;replace p236:=eq_true p236;replace q236:=eq_true q236) | (go_at_call 31;(with_reducible refine (impl_listed.calls k (rd t233 a1) t237 _ A8.out (HT.out.below (by repeat first | exact HB.out | apply zz2 | apply zz0 | apply zz1 | refine zz3 ?_ GE228.out))).mono ?_);rintro e w18 ⟨v238,rfl,ho0,hb⟩;have n0_:=zz31 (Kd.R_elder' (by (with_reducible repeat (first | apply zz12 | apply zz13 | apply zz14));exact HO231.out) (Kd.R_base ho0) hb);have n1_:=zz31 (Kd.R_below (by (with_reducible repeat (first | apply zz12 | apply zz13 | apply zz14));exact HO235.out) hb);have n2_:=zz31 (Kd.R_lower (Kd.R_new' ho0 (Kd.R_lt (by (with_reducible repeat (first | apply zz12 | apply zz13 | apply zz14));exact HO231.out))) (zz5 (by repeat first | exact HB.out | apply zz2 | apply zz0 | apply zz1 | refine zz3 ?_ GE228.out)));have n3_:=zz31 (zz11 (g:=gb228) (o:=.cells #[.int .i64 a0_0,.slice A0_1 l0_1.length c0_1] 30 (0,0)) (by (with_reducible repeat (first | refine zz6 ?_ _ | refine zz7 ?_ | refine zz8 ?_ _));exact BK228.out) hb);have n4_:=zz31 (zz4 (by repeat first | exact HB.out | apply zz2 | apply zz0 | apply zz1 | refine zz3 ?_ GE228.out) hb);clear HO231;clear HO235;clear BK228;clear HB;have HO231:=n0_;have HO235:=n1_;have HO239:=n2_;have BK228:=n3_;have HB:=n4_;clear n0_ n1_ n2_ n3_ n4_;(try clear hb);(try clear hb2);(try clear hk);(try clear hi);(try clear ho0);obtain ⟨Ao19,co19,eo19⟩:=Kd.R_slice HO239.out;subst eo19))
    repeat (go_quiet (first | ((with_reducible refine gate_dst (N:=2) rfl ?_);refine box_event ?hg (N:=2) ?hd (cs:=#[.int .i64 a0_0,.slice A0_1 l0_1.length c0_1]) (t:=30) ?hr ?_;(case hd=>rfl);(case hg=>rfl);(case hr=>first | (go_simp;done) | (go_simp;rfl));intro gb228 hg w9 hbox hb;have n0_:=zz31 (zz4 (by repeat first | exact HB.out | apply zz2 | apply zz0 | apply zz1) hb);have n1_:=zz31 (hbox);have n2_:=zz31 ((by rw [hg];exact (zz5 (by repeat first | exact HB.out | apply zz2 | apply zz0 | apply zz1)):w.heap.size≤gb228));have n3_:=zz31 ((by rw [hg];exact (zz5 (by repeat first | exact HB.out | apply zz2 | apply zz0 | apply zz1)):w.heap.size≤gb228));clear HB;have HB:=n0_;have BK228:=n1_;have GW228:=n2_;have GE228:=n3_;clear n0_ n1_ n2_ n3_;clear hb hbox hg;have hcz10_0:w9.cell? ⟨gb228,0,none⟩=some (.int .i64 a0_0):=(zz9 BK228.out 0).trans rfl;have hcz10_1:w9.cell? ⟨gb228,1,none⟩=some (.slice A0_1 l0_1.length c0_1):=(zz9 BK228.out 1).trans rfl;have hfz10_0:=zz10 BK228.out 0;have hfz10_1:=zz10 BK228.out 1) | ((with_reducible refine gate_dst (N:=12) rfl ?_);refine Kd.R_lit (Kd.int .i64) _ 3 ?hg (N:=12) ?hd (xs:=([a1]:List Int)) (inner:=[.int .i64 a1]) (ok:=fun _=>True) (okp:=fun _=>True) ?hr ?hp (fun _ hk=>hk) trivial (Below.refl _ _) (Nat.le_refl _) (by simp) ?_;(case hd=>rfl);(case hg=>rfl);(case hr=>first | (go_simp;done) | (go_simp;rfl));(case hp=>exact (Reps.one (show Kd.M (Kd.int .i64) _ _ _ a1 [.int .i64 a1] from rfl) (Reps.none _ _)));intro v230 w11 ho12 hb hg_ hnew_;clear hg_ hnew_;(first | rw [← Ny229.out] at ho12 | (simp only [Int.reduceToNat] at ho12;rw [← Ny229.out] at ho12));have n0_:=zz31 (Kd.R_lower ho12 (zz5 (by repeat first | exact HB.out | apply zz2 | apply zz0 | apply zz1 | refine zz3 ?_ GE228.out)));have n1_:=zz31 (zz11 (g:=gb228) (o:=.cells #[.int .i64 a0_0,.slice A0_1 l0_1.length c0_1] 30 (0,0)) (by (with_reducible repeat (first | refine zz6 ?_ _ | refine zz7 ?_ | refine zz8 ?_ _));exact BK228.out) hb);have n2_:=zz31 (zz4 (by repeat first | exact HB.out | apply zz2 | apply zz0 | apply zz1 | refine zz3 ?_ GE228.out) hb);clear BK228;clear HB;have HO231:=n0_;have BK228:=n1_;have HB:=n2_;clear n0_ n1_ n2_;clear hb ho12;obtain ⟨Ao13,co13,eo13⟩:=Kd.R_slice HO231.out;subst eo13) | (go_at_call 29;(with_reducible refine (impl_arePeople.calls k a0_0 _ _ l0_1 _ _ y229 true _ ?side1 ?side2 ?side3 ?side4 A3.out).mono ?_);(case side1=>repeat (first | exact (Kd.C_below HR0_1.out HB.out) | (with_reducible refine zz18 ?_ _) | (with_reducible refine zz19 ?_ _) | (with_reducible refine zz20 ?_)));(case side2=>exact HC0_1.out);(case side3=>repeat (first | exact (Kd.R_reads' HO231.out).2.2 | (with_reducible refine zz18 ?_ _) | (with_reducible refine zz19 ?_ _) | (with_reducible refine zz20 ?_)));(case side4=>exact (Kd.R_reads' HO231.out).2.1);rintro e w14 ⟨rfl,hb⟩;have n0_:=zz31 (Kd.R_below (by (with_reducible repeat (first | apply zz12 | apply zz13 | apply zz14));exact HO231.out) hb);have n1_:=zz31 (zz11 (g:=gb228) (o:=.cells #[.int .i64 a0_0,.slice A0_1 l0_1.length c0_1] 30 (0,0)) (by (with_reducible repeat (first | refine zz6 ?_ _ | refine zz7 ?_ | refine zz8 ?_ _));exact BK228.out) hb);have n2_:=zz31 (zz4 (by repeat first | exact HB.out | apply zz2 | apply zz0 | apply zz1 | refine zz3 ?_ GE228.out) hb);clear HO231;clear BK228;clear HB;have HO231:=n0_;have BK228:=n1_;have HB:=n2_;clear n0_ n1_ n2_;(try clear hb);(try clear hb2);(try clear hk);(try clear hi);have hcz15_0:w14.cell? ⟨gb228,0,none⟩=some (.int .i64 a0_0):=(zz9 BK228.out 0).trans rfl;have hcz15_1:w14.cell? ⟨gb228,1,none⟩=some (.slice A0_1 l0_1.length c0_1):=(zz9 BK228.out 1).trans rfl;have hfz15_0:=zz10 BK228.out 0;have hfz15_1:=zz10 BK228.out 1) | (go_at_call 30;(with_reducible refine (impl_Party_table.calls k a0_0 _ _ l0_1 t233 _ ?side1 ?side2 A5.out).mono ?_);(case side1=>repeat (first | exact (Kd.C_below HR0_1.out HB.out) | (with_reducible refine zz18 ?_ _) | (with_reducible refine zz19 ?_ _) | (with_reducible refine zz20 ?_)));(case side2=>exact HC0_1.out);rintro e w16 ⟨v234,rfl,ho0,hb⟩;have n0_:=zz31 (Kd.R_below (by (with_reducible repeat (first | apply zz12 | apply zz13 | apply zz14));exact HO231.out) hb);have n1_:=zz31 (Kd.R_lower ho0 (zz5 (by repeat first | exact HB.out | apply zz2 | apply zz0 | apply zz1 | refine zz3 ?_ GE228.out)));have n2_:=zz31 (zz11 (g:=gb228) (o:=.cells #[.int .i64 a0_0,.slice A0_1 l0_1.length c0_1] 30 (0,0)) (by (with_reducible repeat (first | refine zz6 ?_ _ | refine zz7 ?_ | refine zz8 ?_ _));exact BK228.out) hb);have n3_:=zz31 (zz4 (by repeat first | exact HB.out | apply zz2 | apply zz0 | apply zz1 | refine zz3 ?_ GE228.out) hb);clear HO231;clear BK228;clear HB;have HO231:=n0_;have HO235:=n1_;have BK228:=n2_;have HB:=n3_;clear n0_ n1_ n2_ n3_;(try clear hb);(try clear hb2);(try clear hk);(try clear hi);(try clear ho0);obtain ⟨Ao17,co17,eo17⟩:=Kd.R_slice HO235.out;subst eo17;have p236:0≤(a1:Int):=zz29 (by first | (with_reducible assumption) | assumption);have q236:a1 < (t233.length:Int):=zz29 (by first | (with_reducible assumption) | assumption);obtain ⟨ad236,e236,hx236_0⟩:=Kd.at_int (Kd.R_reads' HO235.out).2.2 a1 p236 q236;cases e236;replace p236:=eq_true p236;replace q236:=eq_true q236) | (go_at_call 31;(with_reducible refine (impl_listed.calls k (rd t233 a1) t237 _ A8.out (HT.out.below (by repeat first | exact HB.out | apply zz2 | apply zz0 | apply zz1 | refine zz3 ?_ GE228.out))).mono ?_);rintro e w18 ⟨v238,rfl,ho0,hb⟩;have n0_:=zz31 (Kd.R_elder' (by (with_reducible repeat (first | apply zz12 | apply zz13 | apply zz14));exact HO231.out) (Kd.R_base ho0) hb);have n1_:=zz31 (Kd.R_below (by (with_reducible repeat (first | apply zz12 | apply zz13 | apply zz14));exact HO235.out) hb);have n2_:=zz31 (Kd.R_lower (Kd.R_new' ho0 (Kd.R_lt (by (with_reducible repeat (first | apply zz12 | apply zz13 | apply zz14));exact HO231.out))) (zz5 (by repeat first | exact HB.out | apply zz2 | apply zz0 | apply zz1 | refine zz3 ?_ GE228.out)));have n3_:=zz31 (zz11 (g:=gb228) (o:=.cells #[.int .i64 a0_0,.slice A0_1 l0_1.length c0_1] 30 (0,0)) (by (with_reducible repeat (first | refine zz6 ?_ _ | refine zz7 ?_ | refine zz8 ?_ _));exact BK228.out) hb);have n4_:=zz31 (zz4 (by repeat first | exact HB.out | apply zz2 | apply zz0 | apply zz1 | refine zz3 ?_ GE228.out) hb);clear HO231;clear HO235;clear BK228;clear HB;have HO231:=n0_;have HO235:=n1_;have HO239:=n2_;have BK228:=n3_;have HB:=n4_;clear n0_ n1_ n2_ n3_ n4_;(try clear hb);(try clear hb2);(try clear hk);(try clear hi);(try clear ho0);obtain ⟨Ao19,co19,eo19⟩:=Kd.R_slice HO239.out;subst eo19));try go_wp2_with (first | ((with_reducible refine gate_dst (N:=2) rfl ?_);refine box_event ?hg (N:=2) ?hd (cs:=#[.int .i64 a0_0,.slice A0_1 l0_1.length c0_1]) (t:=30) ?hr ?_;(case hd=>rfl);(case hg=>rfl);(case hr=>first | (go_simp;done) | (go_simp;rfl));intro gb228 hg w9 hbox hb;have n0_:=zz31 (zz4 (by repeat first | exact HB.out | apply zz2 | apply zz0 | apply zz1) hb);have n1_:=zz31 (hbox);have n2_:=zz31 ((by rw [hg];exact (zz5 (by repeat first | exact HB.out | apply zz2 | apply zz0 | apply zz1)):w.heap.size≤gb228));have n3_:=zz31 ((by rw [hg];exact (zz5 (by repeat first | exact HB.out | apply zz2 | apply zz0 | apply zz1)):w.heap.size≤gb228));clear HB;have HB:=n0_;have BK228:=n1_;have GW228:=n2_;have GE228:=n3_;clear n0_ n1_ n2_ n3_;clear hb hbox hg;have hcz10_0:w9.cell? ⟨gb228,0,none⟩=some (.int .i64 a0_0):=(zz9 BK228.out 0).trans rfl;have hcz10_1:w9.cell? ⟨gb228,1,none⟩=some (.slice A0_1 l0_1.length c0_1):=(zz9 BK228.out 1).trans rfl;have hfz10_0:=zz10 BK228.out 0;have hfz10_1:=zz10 BK228.out 1) | ((with_reducible refine gate_dst (N:=12) rfl ?_);refine Kd.R_lit (Kd.int .i64) _ 3 ?hg (N:=12) ?hd (xs:=([a1]:List Int)) (inner:=[.int .i64 a1]) (ok:=fun _=>True) (okp:=fun _=>True) ?hr ?hp (fun _ hk=>hk) trivial (Below.refl _ _) (Nat.le_refl _) (by simp) ?_;(case hd=>rfl);(case hg=>rfl);(case hr=>first | (go_simp;done) | (go_simp;rfl));(case hp=>exact (Reps.one (show Kd.M (Kd.int .i64) _ _ _ a1 [.int .i64 a1] from rfl) (Reps.none _ _)));intro v230 w11 ho12 hb hg_ hnew_;clear hg_ hnew_;(first | rw [← Ny229.out] at ho12 | (simp only [Int.reduceToNat] at ho12;rw [← Ny229.out] at ho12));have n0_:=zz31 (Kd.R_lower ho12 (zz5 (by repeat first | exact HB.out | apply zz2 | apply zz0 | apply zz1 | refine zz3 ?_ GE228.out)));have n1_:=zz31 (zz11 (g:=gb228) (o:=.cells #[.int .i64 a0_0,.slice A0_1 l0_1.length c0_1] 30 (0,0)) (by (with_reducible repeat (first | refine zz6 ?_ _ | refine zz7 ?_ | refine zz8 ?_ _));exact BK228.out) hb);have n2_:=zz31 (zz4 (by repeat first | exact HB.out | apply zz2 | apply zz0 | apply zz1 | refine zz3 ?_ GE228.out) hb);clear BK228;clear HB;have HO231:=n0_;have BK228:=n1_;have HB:=n2_;clear n0_ n1_ n2_;clear hb ho12;obtain ⟨Ao13,co13,eo13⟩:=Kd.R_slice HO231.out;subst eo13) | (go_at_call 29;(with_reducible refine (impl_arePeople.calls k a0_0 _ _ l0_1 _ _ y229 true _ ?side1 ?side2 ?side3 ?side4 A3.out).mono ?_);(case side1=>repeat (first | exact (Kd.C_below HR0_1.out HB.out) | (with_reducible refine zz18 ?_ _) | (with_reducible refine zz19 ?_ _) | (with_reducible refine zz20 ?_)));(case side2=>exact HC0_1.out);(case side3=>repeat (first | exact (Kd.R_reads' HO231.out).2.2 | (with_reducible refine zz18 ?_ _) | (with_reducible refine zz19 ?_ _) | (with_reducible refine zz20 ?_)));(case side4=>exact (Kd.R_reads' HO231.out).2.1);rintro e w14 ⟨rfl,hb⟩;have n0_:=zz31 (Kd.R_below (by (with_reducible repeat (first | apply zz12 | apply zz13 | apply zz14));exact HO231.out) hb);have n1_:=zz31 (zz11 (g:=gb228) (o:=.cells #[.int .i64 a0_0,.slice A0_1 l0_1.length c0_1] 30 (0,0)) (by (with_reducible repeat (first | refine zz6 ?_ _ | refine zz7 ?_ | refine zz8 ?_ _));exact BK228.out) hb);have n2_:=zz31 (zz4 (by repeat first | exact HB.out | apply zz2 | apply zz0 | apply zz1 | refine zz3 ?_ GE228.out) hb);clear HO231;clear BK228;clear HB;have HO231:=n0_;have BK228:=n1_;have HB:=n2_;clear n0_ n1_ n2_;(try clear hb);(try clear hb2);(try clear hk);(try clear hi);have hcz15_0:w14.cell? ⟨gb228,0,none⟩=some (.int .i64 a0_0):=(zz9 BK228.out 0).trans rfl;have hcz15_1:w14.cell? ⟨gb228,1,none⟩=some (.slice A0_1 l0_1.length c0_1):=(zz9 BK228.out 1).trans rfl;have hfz15_0:=zz10 BK228.out 0;have hfz15_1:=zz10 BK228.out 1) | (go_at_call 30;(with_reducible refine (impl_Party_table.calls k a0_0 _ _ l0_1 t233 _ ?side1 ?side2 A5.out).mono ?_);(case side1=>repeat (first | exact (Kd.C_below HR0_1.out HB.out) | (with_reducible refine zz18 ?_ _) | (with_reducible refine zz19 ?_ _) | (with_reducible refine zz20 ?_)));(case side2=>exact HC0_1.out);rintro e w16 ⟨v234,rfl,ho0,hb⟩;have n0_:=zz31 (Kd.R_below (by (with_reducible repeat (first | apply zz12 | apply zz13 | apply zz14));exact HO231.out) hb);have n1_:=zz31 (Kd.R_lower ho0 (zz5 (by repeat first | exact HB.out | apply zz2 | apply zz0 | apply zz1 | refine zz3 ?_ GE228.out)));have n2_:=zz31 (zz11 (g:=gb228) (o:=.cells #[.int .i64 a0_0,.slice A0_1 l0_1.length c0_1] 30 (0,0)) (by (with_reducible repeat (first | refine zz6 ?_ _ | refine zz7 ?_ | refine zz8 ?_ _));exact BK228.out) hb);have n3_:=zz31 (zz4 (by repeat first | exact HB.out | apply zz2 | apply zz0 | apply zz1 | refine zz3 ?_ GE228.out) hb);clear HO231;clear BK228;clear HB;have HO231:=n0_;have HO235:=n1_;have BK228:=n2_;have HB:=n3_;clear n0_ n1_ n2_ n3_;(try clear hb);(try clear hb2);(try clear hk);(try clear hi);(try clear ho0);obtain ⟨Ao17,co17,eo17⟩:=Kd.R_slice HO235.out;subst eo17;have p236:0≤(a1:Int):=zz29 (by first | (with_reducible assumption) | assumption);have q236:a1 < (t233.length:Int):=zz29 (by first | (with_reducible assumption) | assumption);obtain ⟨ad236,e236,hx236_0⟩:=Kd.at_int (Kd.R_reads' HO235.out).2.2 a1 p236 q236;cases e236;replace p236:=eq_true p236;replace q236:=eq_true q236) | (go_at_call 31;(with_reducible refine (impl_listed.calls k (rd t233 a1) t237 _ A8.out (HT.out.below (by repeat first | exact HB.out | apply zz2 | apply zz0 | apply zz1 | refine zz3 ?_ GE228.out))).mono ?_);rintro e w18 ⟨v238,rfl,ho0,hb⟩;have n0_:=zz31 (Kd.R_elder' (by (with_reducible repeat (first | apply zz12 | apply zz13 | apply zz14));exact HO231.out) (Kd.R_base ho0) hb);have n1_:=zz31 (Kd.R_below (by (with_reducible repeat (first | apply zz12 | apply zz13 | apply zz14));exact HO235.out) hb);have n2_:=zz31 (Kd.R_lower (Kd.R_new' ho0 (Kd.R_lt (by (with_reducible repeat (first | apply zz12 | apply zz13 | apply zz14));exact HO231.out))) (zz5 (by repeat first | exact HB.out | apply zz2 | apply zz0 | apply zz1 | refine zz3 ?_ GE228.out)));have n3_:=zz31 (zz11 (g:=gb228) (o:=.cells #[.int .i64 a0_0,.slice A0_1 l0_1.length c0_1] 30 (0,0)) (by (with_reducible repeat (first | refine zz6 ?_ _ | refine zz7 ?_ | refine zz8 ?_ _));exact BK228.out) hb);have n4_:=zz31 (zz4 (by repeat first | exact HB.out | apply zz2 | apply zz0 | apply zz1 | refine zz3 ?_ GE228.out) hb);clear HO231;clear HO235;clear BK228;clear HB;have HO231:=n0_;have HO235:=n1_;have HO239:=n2_;have BK228:=n3_;have HB:=n4_;clear n0_ n1_ n2_ n3_ n4_;(try clear hb);(try clear hb2);(try clear hk);(try clear hi);(try clear ho0);obtain ⟨Ao19,co19,eo19⟩:=Kd.R_slice HO239.out;subst eo19)))
    go_loopg [7,23] k (fun kq v7 v23 w'=>∃ (x7_1:Int) (x23_1:Int),v7=.int .i64 x7_1∧v23=.int .i64 x23_1∧Aside0 (impl_ThreesAt.l0 kq a1 t233 x7_1 t237 (t237.length:Int) x23_1=some (r1,r2))∧Aside0 (kq≤k)∧Aside0 (Kd.R (Kd.int .u16) 59 w' w.heap.size (fun _=>True) (.slice (some ad236) t233.length co17) t233)∧Aside0 (Kd.R (Kd.int .i64) 3 w' w.heap.size (fun _=>True) (.slice Ao19 t237.length co19) t237)∧Aside0 (w'.heap[gb228]?=some (.cells #[.int .i64 a0_0,(.slice A0_1 l0_1.length c0_1)] 30 (0,0)))∧Aside0 (Below w.heap.size w w'))
    case atStart=>exact ⟨(0),(0),(by first | rfl | (simp;done) | (simp [*];done)),(by first | rfl | (simp;done) | (simp [*];done)),H',⟨Nat.le_refl _⟩,⟨by (with_reducible repeat (first | apply zz12 | apply zz13 | apply zz14));exact HO235.out⟩,⟨by (with_reducible repeat (first | apply zz12 | apply zz13 | apply zz14));exact Kd.R_mono HO239.out (fun _ hk=>trivial)⟩,⟨by (with_reducible repeat (first | refine zz6 ?_ _ | refine zz7 ?_ | refine zz8 ?_ _));exact BK228.out⟩,⟨by repeat first | exact HB.out | apply zz2 | apply zz0 | apply zz1 | refine zz3 ?_ GE228.out⟩⟩
    case round =>
     clear H'
     try clear p2
     try clear q2
     try clear hx2
     try clear c4
     try clear c6
     try clear c6b0
     try clear c7
     try clear c7b0
     try clear c9
     try clear hcz10_0
     try clear hcz10_1
     try clear hcz15_0
     try clear hcz15_1
     try clear hfz10_0
     try clear hfz10_1
     try clear hfz15_0
     try clear hfz15_1
     try clear hx236_0
     try clear p236
     try clear q236
     obtain ⟨x7_1,x23_1,rfl,rfl,HA,HK1,HO_6,HO_21,BK228,HB⟩:=hrel
     cases gk with
     | zero=>exact absurd HA.out (by simp [impl_ThreesAt.l0])
     | succ k1 =>
      have H:=HA.out
      clear HA
      simp only [impl_ThreesAt.l0] at H
      by_cases c20:x23_1 < (t237.length:Int)
      ·rw [if_pos c20] at H
       have c20b0:decide (x23_1 < (t237.length:Int))=true:=decide_eq_true c20
       clear c20
       by_cases c21:0≤x23_1
       ·rw [if_pos c21] at H
        have c21b0:decide (0≤x23_1)=true:=decide_eq_true c21
        clear c21
        by_cases c22:x23_1 < (t237.length:Int)
        ·rw [if_pos c22] at H
         have c22b0:decide (x23_1 < (t237.length:Int))=true:=decide_eq_true c22
         clear c22
         by_cases c23:0≤a1
         ·rw [if_pos c23] at H
          have c23b0:decide (0≤a1)=true:=decide_eq_true c23
          clear c23
          by_cases c24:a1 < (t233.length:Int)
          ·rw [if_pos c24] at H
           have c24b0:decide (a1 < (t233.length:Int))=true:=decide_eq_true c24
           clear c24
           by_cases c25:0≤(rd t237 x23_1)
           ·rw [if_pos c25] at H
            have c25b0:decide (0≤(rd t237 x23_1))=true:=decide_eq_true c25
            clear c25
            by_cases c26:(rd t237 x23_1) < (t233.length:Int)
            ·rw [if_pos c26] at H
             have c26b0:decide ((rd t237 x23_1) < (t233.length:Int))=true:=decide_eq_true c26
             clear c26
             replace H:=zz30.mp H
             obtain ⟨t243,A270,H⟩:=H
             replace H:(impl_ThreesAt.l0 k1 a1 t233 (wrap64 (x7_1+t243)) t237 (t237.length:Int) (wrap64 (x23_1+1)))=some (r1,r2):=H
             have A27:=zz31 A270
             clear A270
             have H':=zz31 H
             clear H
             have p240:0≤(x23_1:Int):=zz29 (by first | (with_reducible assumption) | assumption)
             have q240:x23_1 < (t237.length:Int):=zz29 (by first | (with_reducible assumption) | assumption)
             obtain ⟨ad240,e240,hx240_0⟩:=Kd.at_int (Kd.R_reads' HO_21.out).2.2 x23_1 p240 q240
             cases e240
             replace p240:=eq_true p240
             replace q240:=eq_true q240
             have p241:0≤(a1:Int):=zz29 (by first | (with_reducible assumption) | assumption)
             have q241:a1 < (t233.length:Int):=zz29 (by first | (with_reducible assumption) | assumption)
             obtain ⟨ad241,e241,hx241_0⟩:=Kd.at_int (Kd.R_reads' HO_6.out).2.2 a1 p241 q241
             obtain rfl:ad236=ad241:=(by injection e241)
             replace p241:=eq_true p241
             replace q241:=eq_true q241
             have p242:0≤((rd t237 x23_1):Int):=zz29 (by first | (with_reducible assumption) | assumption)
             have q242:(rd t237 x23_1) < (t233.length:Int):=zz29 (by first | (with_reducible assumption) | assumption)
             obtain ⟨ad242,e242,hx242_0⟩:=Kd.at_int (Kd.R_reads' HO_6.out).2.2 (rd t237 x23_1) p242 q242
             obtain rfl:ad236=ad242:=(by injection e242)
             replace p242:=eq_true p242
             replace q242:=eq_true q242
             go_wp2_with (first | (go_at_call 32;(with_reducible refine (bits_OnesCount16.calls (Go.bits .and .u16 (rd t233 a1) (rd t233 (rd t237 x23_1))) t243 _ A27.out).mono ?_);rintro e w' ⟨rfl,⟨nd,rfl⟩⟩;(try first | exact ⟨rfl,_,World.drewN_drewN _ _ _⟩ | exact ⟨rfl,_,Eq.trans (World.drewN_drewN _ _ _) (congrArg (World.drewN _) (Nat.add_assoc _ _ _))⟩)))
             repeat (go_quiet (first | (go_at_call 32;(with_reducible refine (bits_OnesCount16.calls (Go.bits .and .u16 (rd t233 a1) (rd t233 (rd t237 x23_1))) t243 _ A27.out).mono ?_);rintro e w' ⟨rfl,⟨nd,rfl⟩⟩;(try first | exact ⟨rfl,_,World.drewN_drewN _ _ _⟩ | exact ⟨rfl,_,Eq.trans (World.drewN_drewN _ _ _) (congrArg (World.drewN _) (Nat.add_assoc _ _ _))⟩)));try go_wp2_with (first | (go_at_call 32;(with_reducible refine (bits_OnesCount16.calls (Go.bits .and .u16 (rd t233 a1) (rd t233 (rd t237 x23_1))) t243 _ A27.out).mono ?_);rintro e w' ⟨rfl,⟨nd,rfl⟩⟩;(try first | exact ⟨rfl,_,World.drewN_drewN _ _ _⟩ | exact ⟨rfl,_,Eq.trans (World.drewN_drewN _ _ _) (congrArg (World.drewN _) (Nat.add_assoc _ _ _))⟩))))
             go_roundg k1
             case measure=>have:=HK1.out;omega
             case rel=>exact ⟨(wrap64 (x7_1+t243)),(wrap64 (x23_1+1)),(by first | rfl | (simp;done) | (simp [*];done)),(by first | rfl | (simp;done) | (simp [*];done)),H',⟨by have:=HK1.out;omega⟩,⟨by (with_reducible repeat (first | apply zz12 | apply zz13 | apply zz14));exact HO_6.out⟩,⟨by (with_reducible repeat (first | apply zz12 | apply zz13 | apply zz14));exact HO_21.out⟩,⟨by (with_reducible repeat (first | refine zz6 ?_ _ | refine zz7 ?_ | refine zz8 ?_ _));exact BK228.out⟩,⟨by repeat first | exact HB.out | apply zz2 | apply zz0 | apply zz1 | refine zz3 ?_ GE228.out⟩⟩
            ·rw [if_neg c26] at H
             exact absurd H (by simp)
           ·rw [if_neg c25] at H
            exact absurd H (by simp)
          ·rw [if_neg c24] at H
           exact absurd H (by simp)
         ·rw [if_neg c23] at H
          exact absurd H (by simp)
        ·rw [if_neg c22] at H
         exact absurd H (by simp)
       ·rw [if_neg c21] at H
        exact absurd H (by simp)
      ·rw [if_neg c20] at H
       have c20b0:decide (x23_1 < (t237.length:Int))=false:=decide_eq_false c20
       clear c20
       simp only [Option.some.injEq,Prod.mk.injEq] at H
       obtain ⟨rfl,rfl⟩:=H
       go_wp2
       repeat (go_quiet (fail);try go_wp2)
       go_ret2
       exact ⟨by first | rfl | (simp [errW_none,errW_some] <;> rfl) | (simp [*,errW_none,errW_some] <;> rfl),by repeat first | exact HB.out | apply zz2 | apply zz0 | apply zz1 | refine zz3 ?_ GE228.out⟩
   ·rw [if_neg c7] at H
    exact absurd H (by simp)
  ·rw [if_neg c6] at H
   exact absurd H (by simp)
 ·replace c4:=Bool.eq_false_iff.mpr c4
  subst c4
  have H1:(some (0,false))=some (r1,r2):=by rw [if_neg (show ¬ (false=true) by decide)] at H;exact H
  clear H
  have H:=H1
  clear H1
  simp only [Option.some.injEq,Prod.mk.injEq] at H
  obtain ⟨rfl,rfl⟩:=H
  go_enter Tryd.func9,Tryd.ntmps9
  go_wp2_with (first | ((with_reducible refine gate_dst (N:=2) rfl ?_);refine box_event ?hg (N:=2) ?hd (cs:=#[.int .i64 a0_0,.slice A0_1 l0_1.length c0_1]) (t:=30) ?hr ?_;(case hd=>rfl);(case hg=>rfl);(case hr=>first | (go_simp;done) | (go_simp;rfl));intro gb228 hg w28 hbox hb;have n0_:=zz31 (zz4 (by repeat first | exact HB.out | apply zz2 | apply zz0 | apply zz1) hb);have n1_:=zz31 (hbox);have n2_:=zz31 ((by rw [hg];exact (zz5 (by repeat first | exact HB.out | apply zz2 | apply zz0 | apply zz1)):w.heap.size≤gb228));have n3_:=zz31 ((by rw [hg];exact (zz5 (by repeat first | exact HB.out | apply zz2 | apply zz0 | apply zz1)):w.heap.size≤gb228));clear HB;have HB:=n0_;have BK228:=n1_;have GW228:=n2_;have GE228:=n3_;clear n0_ n1_ n2_ n3_;clear hb hbox hg;have hcz29_0:w28.cell? ⟨gb228,0,none⟩=some (.int .i64 a0_0):=(zz9 BK228.out 0).trans rfl;have hcz29_1:w28.cell? ⟨gb228,1,none⟩=some (.slice A0_1 l0_1.length c0_1):=(zz9 BK228.out 1).trans rfl;have hfz29_0:=zz10 BK228.out 0;have hfz29_1:=zz10 BK228.out 1) | ((with_reducible refine gate_dst (N:=12) rfl ?_);refine Kd.R_lit (Kd.int .i64) _ 3 ?hg (N:=12) ?hd (xs:=([a1]:List Int)) (inner:=[.int .i64 a1]) (ok:=fun _=>True) (okp:=fun _=>True) ?hr ?hp (fun _ hk=>hk) trivial (Below.refl _ _) (Nat.le_refl _) (by simp) ?_;(case hd=>rfl);(case hg=>rfl);(case hr=>first | (go_simp;done) | (go_simp;rfl));(case hp=>exact (Reps.one (show Kd.M (Kd.int .i64) _ _ _ a1 [.int .i64 a1] from rfl) (Reps.none _ _)));intro v230 w30 ho31 hb hg_ hnew_;clear hg_ hnew_;(first | rw [← Ny229.out] at ho31 | (simp only [Int.reduceToNat] at ho31;rw [← Ny229.out] at ho31));have n0_:=zz31 (Kd.R_lower ho31 (zz5 (by repeat first | exact HB.out | apply zz2 | apply zz0 | apply zz1 | refine zz3 ?_ GE228.out)));have n1_:=zz31 (zz11 (g:=gb228) (o:=.cells #[.int .i64 a0_0,.slice A0_1 l0_1.length c0_1] 30 (0,0)) (by (with_reducible repeat (first | refine zz6 ?_ _ | refine zz7 ?_ | refine zz8 ?_ _));exact BK228.out) hb);have n2_:=zz31 (zz4 (by repeat first | exact HB.out | apply zz2 | apply zz0 | apply zz1 | refine zz3 ?_ GE228.out) hb);clear BK228;clear HB;have HO231:=n0_;have BK228:=n1_;have HB:=n2_;clear n0_ n1_ n2_;clear hb ho31;obtain ⟨Ao32,co32,eo32⟩:=Kd.R_slice HO231.out;subst eo32) | (go_at_call 29;(with_reducible refine (impl_arePeople.calls k a0_0 _ _ l0_1 _ _ y229 false _ ?side1 ?side2 ?side3 ?side4 A3.out).mono ?_);(case side1=>repeat (first | exact (Kd.C_below HR0_1.out HB.out) | (with_reducible refine zz18 ?_ _) | (with_reducible refine zz19 ?_ _) | (with_reducible refine zz20 ?_)));(case side2=>exact HC0_1.out);(case side3=>repeat (first | exact (Kd.R_reads' HO231.out).2.2 | (with_reducible refine zz18 ?_ _) | (with_reducible refine zz19 ?_ _) | (with_reducible refine zz20 ?_)));(case side4=>exact (Kd.R_reads' HO231.out).2.1);rintro e w33 ⟨rfl,hb⟩;have n0_:=zz31 (Kd.R_below (by (with_reducible repeat (first | apply zz12 | apply zz13 | apply zz14));exact HO231.out) hb);have n1_:=zz31 (zz11 (g:=gb228) (o:=.cells #[.int .i64 a0_0,.slice A0_1 l0_1.length c0_1] 30 (0,0)) (by (with_reducible repeat (first | refine zz6 ?_ _ | refine zz7 ?_ | refine zz8 ?_ _));exact BK228.out) hb);have n2_:=zz31 (zz4 (by repeat first | exact HB.out | apply zz2 | apply zz0 | apply zz1 | refine zz3 ?_ GE228.out) hb);clear HO231;clear BK228;clear HB;have HO231:=n0_;have BK228:=n1_;have HB:=n2_;clear n0_ n1_ n2_;(try clear hb);(try clear hb2);(try clear hk);(try clear hi)))
  repeat (go_quiet (first | ((with_reducible refine gate_dst (N:=2) rfl ?_);refine box_event ?hg (N:=2) ?hd (cs:=#[.int .i64 a0_0,.slice A0_1 l0_1.length c0_1]) (t:=30) ?hr ?_;(case hd=>rfl);(case hg=>rfl);(case hr=>first | (go_simp;done) | (go_simp;rfl));intro gb228 hg w28 hbox hb;have n0_:=zz31 (zz4 (by repeat first | exact HB.out | apply zz2 | apply zz0 | apply zz1) hb);have n1_:=zz31 (hbox);have n2_:=zz31 ((by rw [hg];exact (zz5 (by repeat first | exact HB.out | apply zz2 | apply zz0 | apply zz1)):w.heap.size≤gb228));have n3_:=zz31 ((by rw [hg];exact (zz5 (by repeat first | exact HB.out | apply zz2 | apply zz0 | apply zz1)):w.heap.size≤gb228));clear HB;have HB:=n0_;have BK228:=n1_;have GW228:=n2_;have GE228:=n3_;clear n0_ n1_ n2_ n3_;clear hb hbox hg;have hcz29_0:w28.cell? ⟨gb228,0,none⟩=some (.int .i64 a0_0):=(zz9 BK228.out 0).trans rfl;have hcz29_1:w28.cell? ⟨gb228,1,none⟩=some (.slice A0_1 l0_1.length c0_1):=(zz9 BK228.out 1).trans rfl;have hfz29_0:=zz10 BK228.out 0;have hfz29_1:=zz10 BK228.out 1) | ((with_reducible refine gate_dst (N:=12) rfl ?_);refine Kd.R_lit (Kd.int .i64) _ 3 ?hg (N:=12) ?hd (xs:=([a1]:List Int)) (inner:=[.int .i64 a1]) (ok:=fun _=>True) (okp:=fun _=>True) ?hr ?hp (fun _ hk=>hk) trivial (Below.refl _ _) (Nat.le_refl _) (by simp) ?_;(case hd=>rfl);(case hg=>rfl);(case hr=>first | (go_simp;done) | (go_simp;rfl));(case hp=>exact (Reps.one (show Kd.M (Kd.int .i64) _ _ _ a1 [.int .i64 a1] from rfl) (Reps.none _ _)));intro v230 w30 ho31 hb hg_ hnew_;clear hg_ hnew_;(first | rw [← Ny229.out] at ho31 | (simp only [Int.reduceToNat] at ho31;rw [← Ny229.out] at ho31));have n0_:=zz31 (Kd.R_lower ho31 (zz5 (by repeat first | exact HB.out | apply zz2 | apply zz0 | apply zz1 | refine zz3 ?_ GE228.out)));have n1_:=zz31 (zz11 (g:=gb228) (o:=.cells #[.int .i64 a0_0,.slice A0_1 l0_1.length c0_1] 30 (0,0)) (by (with_reducible repeat (first | refine zz6 ?_ _ | refine zz7 ?_ | refine zz8 ?_ _));exact BK228.out) hb);have n2_:=zz31 (zz4 (by repeat first | exact HB.out | apply zz2 | apply zz0 | apply zz1 | refine zz3 ?_ GE228.out) hb);clear BK228;clear HB;have HO231:=n0_;have BK228:=n1_;have HB:=n2_;clear n0_ n1_ n2_;clear hb ho31;obtain ⟨Ao32,co32,eo32⟩:=Kd.R_slice HO231.out;subst eo32) | (go_at_call 29;(with_reducible refine (impl_arePeople.calls k a0_0 _ _ l0_1 _ _ y229 false _ ?side1 ?side2 ?side3 ?side4 A3.out).mono ?_);(case side1=>repeat (first | exact (Kd.C_below HR0_1.out HB.out) | (with_reducible refine zz18 ?_ _) | (with_reducible refine zz19 ?_ _) | (with_reducible refine zz20 ?_)));(case side2=>exact HC0_1.out);(case side3=>repeat (first | exact (Kd.R_reads' HO231.out).2.2 | (with_reducible refine zz18 ?_ _) | (with_reducible refine zz19 ?_ _) | (with_reducible refine zz20 ?_)));(case side4=>exact (Kd.R_reads' HO231.out).2.1);rintro e w33 ⟨rfl,hb⟩;have n0_:=zz31 (Kd.R_below (by (with_reducible repeat (first | apply zz12 | apply zz13 | apply zz14));exact HO231.out) hb);have n1_:=zz31 (zz11 (g:=gb228) (o:=.cells #[.int .i64 a0_0,.slice A0_1 l0_1.length c0_1] 30 (0,0)) (by (with_reducible repeat (first | refine zz6 ?_ _ | refine zz7 ?_ | refine zz8 ?_ _));exact BK228.out) hb);have n2_:=zz31 (zz4 (by repeat first | exact HB.out | apply zz2 | apply zz0 | apply zz1 | refine zz3 ?_ GE228.out) hb);clear HO231;clear BK228;clear HB;have HO231:=n0_;have BK228:=n1_;have HB:=n2_;clear n0_ n1_ n2_;(try clear hb);(try clear hb2);(try clear hk);(try clear hi)));try go_wp2_with (first | ((with_reducible refine gate_dst (N:=2) rfl ?_);refine box_event ?hg (N:=2) ?hd (cs:=#[.int .i64 a0_0,.slice A0_1 l0_1.length c0_1]) (t:=30) ?hr ?_;(case hd=>rfl);(case hg=>rfl);(case hr=>first | (go_simp;done) | (go_simp;rfl));intro gb228 hg w28 hbox hb;have n0_:=zz31 (zz4 (by repeat first | exact HB.out | apply zz2 | apply zz0 | apply zz1) hb);have n1_:=zz31 (hbox);have n2_:=zz31 ((by rw [hg];exact (zz5 (by repeat first | exact HB.out | apply zz2 | apply zz0 | apply zz1)):w.heap.size≤gb228));have n3_:=zz31 ((by rw [hg];exact (zz5 (by repeat first | exact HB.out | apply zz2 | apply zz0 | apply zz1)):w.heap.size≤gb228));clear HB;have HB:=n0_;have BK228:=n1_;have GW228:=n2_;have GE228:=n3_;clear n0_ n1_ n2_ n3_;clear hb hbox hg;have hcz29_0:w28.cell? ⟨gb228,0,none⟩=some (.int .i64 a0_0):=(zz9 BK228.out 0).trans rfl;have hcz29_1:w28.cell? ⟨gb228,1,none⟩=some (.slice A0_1 l0_1.length c0_1):=(zz9 BK228.out 1).trans rfl;have hfz29_0:=zz10 BK228.out 0;have hfz29_1:=zz10 BK228.out 1) | ((with_reducible refine gate_dst (N:=12) rfl ?_);refine Kd.R_lit (Kd.int .i64) _ 3 ?hg (N:=12) ?hd (xs:=([a1]:List Int)) (inner:=[.int .i64 a1]) (ok:=fun _=>True) (okp:=fun _=>True) ?hr ?hp (fun _ hk=>hk) trivial (Below.refl _ _) (Nat.le_refl _) (by simp) ?_;(case hd=>rfl);(case hg=>rfl);(case hr=>first | (go_simp;done) | (go_simp;rfl));(case hp=>exact (Reps.one (show Kd.M (Kd.int .i64) _ _ _ a1 [.int .i64 a1] from rfl) (Reps.none _ _)));intro v230 w30 ho31 hb hg_ hnew_;clear hg_ hnew_;(first | rw [← Ny229.out] at ho31 | (simp only [Int.reduceToNat] at ho31;rw [← Ny229.out] at ho31));have n0_:=zz31 (Kd.R_lower ho31 (zz5 (by repeat first | exact HB.out | apply zz2 | apply zz0 | apply zz1 | refine zz3 ?_ GE228.out)));have n1_:=zz31 (zz11 (g:=gb228) (o:=.cells #[.int .i64 a0_0,.slice A0_1 l0_1.length c0_1] 30 (0,0)) (by (with_reducible repeat (first | refine zz6 ?_ _ | refine zz7 ?_ | refine zz8 ?_ _));exact BK228.out) hb);have n2_:=zz31 (zz4 (by repeat first | exact HB.out | apply zz2 | apply zz0 | apply zz1 | refine zz3 ?_ GE228.out) hb);clear BK228;clear HB;have HO231:=n0_;have BK228:=n1_;have HB:=n2_;clear n0_ n1_ n2_;clear hb ho31;obtain ⟨Ao32,co32,eo32⟩:=Kd.R_slice HO231.out;subst eo32) | (go_at_call 29;(with_reducible refine (impl_arePeople.calls k a0_0 _ _ l0_1 _ _ y229 false _ ?side1 ?side2 ?side3 ?side4 A3.out).mono ?_);(case side1=>repeat (first | exact (Kd.C_below HR0_1.out HB.out) | (with_reducible refine zz18 ?_ _) | (with_reducible refine zz19 ?_ _) | (with_reducible refine zz20 ?_)));(case side2=>exact HC0_1.out);(case side3=>repeat (first | exact (Kd.R_reads' HO231.out).2.2 | (with_reducible refine zz18 ?_ _) | (with_reducible refine zz19 ?_ _) | (with_reducible refine zz20 ?_)));(case side4=>exact (Kd.R_reads' HO231.out).2.1);rintro e w33 ⟨rfl,hb⟩;have n0_:=zz31 (Kd.R_below (by (with_reducible repeat (first | apply zz12 | apply zz13 | apply zz14));exact HO231.out) hb);have n1_:=zz31 (zz11 (g:=gb228) (o:=.cells #[.int .i64 a0_0,.slice A0_1 l0_1.length c0_1] 30 (0,0)) (by (with_reducible repeat (first | refine zz6 ?_ _ | refine zz7 ?_ | refine zz8 ?_ _));exact BK228.out) hb);have n2_:=zz31 (zz4 (by repeat first | exact HB.out | apply zz2 | apply zz0 | apply zz1 | refine zz3 ?_ GE228.out) hb);clear HO231;clear BK228;clear HB;have HO231:=n0_;have BK228:=n1_;have HB:=n2_;clear n0_ n1_ n2_;(try clear hb);(try clear hb2);(try clear hk);(try clear hi))))
  go_ret2
  exact ⟨by first | rfl | (simp [errW_none,errW_some] <;> rfl) | (simp [*,errW_none,errW_some] <;> rfl),by repeat first | exact HB.out | apply zz2 | apply zz0 | apply zz1 | refine zz3 ?_ GE228.out⟩

/-! ### laws_FnExactThreesAt: function 3 -/
def laws_FnExactThreesAt.j0:Nat→Bool→Int→List (S75)→Int→List (S68)→Option (Bool)
 | 0,_,_,_,_,_=>none
 | k+1,x38,x253000,x253001,x265000,x265001=>if x38=true then (some false) else ((laws_toParty.f k x253000 x253001).bind fun bt267=>((laws_eqParty.f k x265000 x265001 bt267.1 bt267.2).bind fun t271=>(if t271=true then (some true) else (some false))))
def laws_FnExactThreesAt.f (k:Nat) (a0_0:Int) (l0_1:List (S75)) (a1:Int):Option (Bool):=(laws_szParty.f a0_0 l0_1 1048576).bind fun t253=>(if t253 < 0 then (some true) else ((laws_toParty.f k a0_0 l0_1).bind fun bt254=>((spec_ThreesAt.f k bt254.1 bt254.2 a1).bind fun bt258=>((laws_toParty.f k a0_0 l0_1).bind fun bt260=>((impl_ThreesAt.f k bt260.1 bt260.2 a1).bind fun bt265=>(if bt265.1=bt258.1 then (laws_FnExactThreesAt.j0 k (bt265.2 != bt258.2) a0_0 l0_1 bt260.1 bt260.2) else (laws_FnExactThreesAt.j0 k true a0_0 l0_1 bt260.1 bt260.2)))))))
theorem laws_FnExactThreesAt.mono_l:∀ k,(∀ y0 y1 y2 y3 y4,LeO (laws_FnExactThreesAt.j0 k y0 y1 y2 y3 y4) (laws_FnExactThreesAt.j0 (k+1) y0 y1 y2 y3 y4))
 | 0=>fun _ _ _ _ _ r h=>by simp [laws_FnExactThreesAt.j0] at h
 | k+1=>by
  have ih0:=laws_FnExactThreesAt.mono_l k
  ·intro y0 y1 y2 y3 y4
   unfold laws_FnExactThreesAt.j0
   repeat' first
   | (with_reducible exact ih0 _ _ _ _ _)
   | (with_reducible exact impl_ThreesAt.mono _ _ _ _)
   | (with_reducible exact laws_eqParty.mono _ _ _ _ _)
   | (with_reducible exact laws_toParty.mono _ _ _)
   | (with_reducible exact spec_ThreesAt.mono _ _ _ _)
   | (with_reducible exact LeO.refl _)
   | (with_reducible exact LeO.none _)
   | (with_reducible refine LeO.ite ?_ ?_)
   | (with_reducible refine LeO.bind ?_ (fun _=>?_))
   | exact ih0 _ _ _ _ _
   | exact impl_ThreesAt.mono _ _ _ _
   | exact laws_eqParty.mono _ _ _ _ _
   | exact laws_toParty.mono _ _ _
   | exact spec_ThreesAt.mono _ _ _ _
   | exact LeO.none _
   | refine LeO.ite ?_ ?_
   | refine LeO.bind ?_ (fun _=>?_)
theorem laws_FnExactThreesAt.mono:∀ a0 a1 a2 k,LeO (laws_FnExactThreesAt.f k a0 a1 a2) (laws_FnExactThreesAt.f (k+1) a0 a1 a2):=by
 intro a0 a1 a2 k
 have ih0:=laws_FnExactThreesAt.mono_l k
 unfold laws_FnExactThreesAt.f
 repeat' first
   | (with_reducible exact ih0 _ _ _ _ _)
   | (with_reducible exact impl_ThreesAt.mono _ _ _ _)
   | (with_reducible exact laws_eqParty.mono _ _ _ _ _)
   | (with_reducible exact laws_toParty.mono _ _ _)
   | (with_reducible exact spec_ThreesAt.mono _ _ _ _)
   | (with_reducible exact LeO.refl _)
   | (with_reducible exact LeO.none _)
   | (with_reducible refine LeO.ite ?_ ?_)
   | (with_reducible refine LeO.bind ?_ (fun _=>?_))
   | exact ih0 _ _ _ _ _
   | exact impl_ThreesAt.mono _ _ _ _
   | exact laws_eqParty.mono _ _ _ _ _
   | exact laws_toParty.mono _ _ _
   | exact spec_ThreesAt.mono _ _ _ _
   | exact LeO.none _
   | refine LeO.ite ?_ ?_
   | refine LeO.bind ?_ (fun _=>?_)
set_option maxHeartbeats 8000000 in
set_option maxRecDepth 100000 in
theorem laws_FnExactThreesAt.calls (k:Nat) (a0_0:Int) (A0_1:Option Addr) (c0_1:Nat) (l0_1:List (S75)) (a1:Int) (r:Bool) (w:World) (hr0_1:Kd.C k75 w A0_1 l0_1.length l0_1) (hc0_1:l0_1.length≤c0_1) (h:laws_FnExactThreesAt.f k a0_0 l0_1 a1=some r) (hT:Tz w) :
  Calls Tryd.prog 3 #[.agg #[.int .i64 a0_0,.slice A0_1 l0_1.length c0_1],.int .i64 a1] w fun e w'=>e=.returned (.bool r)∧Below w.heap.size w w':=by
 have hu24:=Tryd.underlying24
 have hu30:=Tryd.underlying30
 have HR0_1:=zz31 hr0_1
 have HC0_1:=zz31 hc0_1
 clear hr0_1 hc0_1
 have HB:=zz31 (Below.refl w.heap.size w)
 have HT:=zz31 hT
 clear hT
 have H:((laws_szParty.f a0_0 l0_1 1048576).bind fun t253=>(if t253 < 0 then (some true) else ((laws_toParty.f k a0_0 l0_1).bind fun bt254=>((spec_ThreesAt.f k bt254.1 bt254.2 a1).bind fun bt258=>((laws_toParty.f k a0_0 l0_1).bind fun bt260=>((impl_ThreesAt.f k bt260.1 bt260.2 a1).bind fun bt265=>(if bt265.1=bt258.1 then (laws_FnExactThreesAt.j0 k (bt265.2 != bt258.2) a0_0 l0_1 bt260.1 bt260.2) else (laws_FnExactThreesAt.j0 k true a0_0 l0_1 bt260.1 bt260.2))))))))=some r:=h
 clear h
 replace H:=zz30.mp H
 obtain ⟨t253,A30,H⟩:=H
 replace H:(if t253 < 0 then (some true) else ((laws_toParty.f k a0_0 l0_1).bind fun bt254=>((spec_ThreesAt.f k bt254.1 bt254.2 a1).bind fun bt258=>((laws_toParty.f k a0_0 l0_1).bind fun bt260=>((impl_ThreesAt.f k bt260.1 bt260.2 a1).bind fun bt265=>(if bt265.1=bt258.1 then (laws_FnExactThreesAt.j0 k (bt265.2 != bt258.2) a0_0 l0_1 bt260.1 bt260.2) else (laws_FnExactThreesAt.j0 k true a0_0 l0_1 bt260.1 bt260.2)))))))=some r:=H
 have A3:=zz31 A30
 clear A30
 by_cases c4:t253 < 0
 ·rw [if_pos c4] at H
  have c4b0:decide (t253 < 0)=true:=decide_eq_true c4
  clear c4
  obtain rfl:=Option.some.inj H
  go_enter Tryd.func3,Tryd.ntmps3
  go_wp2_with (first | ((with_reducible refine gate_dst (N:=2) rfl ?_);refine box_event ?hg (N:=2) ?hd (cs:=#[.int .i64 a0_0,.slice A0_1 l0_1.length c0_1]) (t:=24) ?hr ?_;(case hd=>rfl);(case hg=>rfl);(case hr=>first | (go_simp;done) | (go_simp;rfl));intro gb252 hg w5 hbox hb;have n0_:=zz31 (zz4 (by repeat first | exact HB.out | apply zz2 | apply zz0 | apply zz1) hb);have n1_:=zz31 (hbox);have n2_:=zz31 ((by rw [hg];exact (zz5 (by repeat first | exact HB.out | apply zz2 | apply zz0 | apply zz1)):w.heap.size≤gb252));have n3_:=zz31 ((by rw [hg];exact (zz5 (by repeat first | exact HB.out | apply zz2 | apply zz0 | apply zz1)):w.heap.size≤gb252));clear HB;have HB:=n0_;have BK252:=n1_;have GW252:=n2_;have GE252:=n3_;clear n0_ n1_ n2_ n3_;clear hb hbox hg;have hcz6_0:w5.cell? ⟨gb252,0,none⟩=some (.int .i64 a0_0):=(zz9 BK252.out 0).trans rfl;have hcz6_1:w5.cell? ⟨gb252,1,none⟩=some (.slice A0_1 l0_1.length c0_1):=(zz9 BK252.out 1).trans rfl;have hfz6_0:=zz10 BK252.out 0;have hfz6_1:=zz10 BK252.out 1) | ((with_reducible refine gate_callee (f:=6) rfl ?_);refine goesL_ (some 13) rfl rfl Tryd.func6 (by kernel_rfl) rfl #[.agg #[.int .i64 a0_0,.slice A0_1 l0_1.length c0_1],.int .i64 1048576] rfl (by (try simp only [zz26,zz27,zz28]);first | done | rfl | (simp only [zz24,zz25];rfl)) ?_;(with_reducible refine (laws_szParty.calls a0_0 _ _ l0_1 1048576 t253 _ ?side1 ?side2 A3.out).mono ?_);(case side1=>repeat (first | exact (Kd.C_below HR0_1.out HB.out) | (with_reducible refine zz18 ?_ _) | (with_reducible refine zz19 ?_ _) | (with_reducible refine zz20 ?_)));(case side2=>exact HC0_1.out);rintro e w7 ⟨rfl,hb⟩;refine ⟨_,rfl,?_⟩;have n0_:=zz31 (zz11 (g:=gb252) (o:=.cells #[.int .i64 a0_0,.slice A0_1 l0_1.length c0_1] 24 (0,0)) (by (with_reducible repeat (first | refine zz6 ?_ _ | refine zz7 ?_ | refine zz8 ?_ _));exact BK252.out) hb);have n1_:=zz31 (zz4 (by repeat first | exact HB.out | apply zz2 | apply zz0 | apply zz1 | refine zz3 ?_ GE252.out) hb);clear BK252;clear HB;have BK252:=n0_;have HB:=n1_;clear n0_ n1_;(try clear hb);(try clear hb2);(try clear hk);(try clear hi)))
  go_ret
  exact ⟨by first | rfl | (simp [errW_none,errW_some] <;> rfl) | (simp [*,errW_none,errW_some] <;> rfl),by repeat first | exact HB.out | apply zz2 | apply zz0 | apply zz1 | refine zz3 ?_ GE252.out⟩
 ·rw [if_neg c4] at H
  have c4b0:decide (t253 < 0)=false:=decide_eq_false c4
  clear c4
  replace H:=zz30.mp H
  obtain ⟨⟨t254,t255⟩,A80,H⟩:=H
  replace H:((spec_ThreesAt.f k t254 t255 a1).bind fun bt258=>((laws_toParty.f k a0_0 l0_1).bind fun bt260=>((impl_ThreesAt.f k bt260.1 bt260.2 a1).bind fun bt265=>(if bt265.1=bt258.1 then (laws_FnExactThreesAt.j0 k (bt265.2 != bt258.2) a0_0 l0_1 bt260.1 bt260.2) else (laws_FnExactThreesAt.j0 k true a0_0 l0_1 bt260.1 bt260.2)))))=some r:=H
  have A8:=zz31 A80
  clear A80
  replace H:=zz30.mp H
  obtain ⟨⟨t258,t259⟩,A90,H⟩:=H
  replace H:((laws_toParty.f k a0_0 l0_1).bind fun bt260=>((impl_ThreesAt.f k bt260.1 bt260.2 a1).bind fun bt265=>(if bt265.1=t258 then (laws_FnExactThreesAt.j0 k (bt265.2 != t259) a0_0 l0_1 bt260.1 bt260.2) else (laws_FnExactThreesAt.j0 k true a0_0 l0_1 bt260.1 bt260.2))))=some r:=H
  have A9:=zz31 A90
  clear A90
  replace H:=zz30.mp H
  obtain ⟨⟨t260,t261⟩,A100,H⟩:=H
  replace H:((impl_ThreesAt.f k t260 t261 a1).bind fun bt265=>(if bt265.1=t258 then (laws_FnExactThreesAt.j0 k (bt265.2 != t259) a0_0 l0_1 t260 t261) else (laws_FnExactThreesAt.j0 k true a0_0 l0_1 t260 t261)))=some r:=H
  have A10:=zz31 A100
  clear A100
  replace H:=zz30.mp H
  obtain ⟨⟨t265,t266⟩,A110,H⟩:=H
  replace H:(if t265=t258 then (laws_FnExactThreesAt.j0 k (t266 != t259) a0_0 l0_1 t260 t261) else (laws_FnExactThreesAt.j0 k true a0_0 l0_1 t260 t261))=some r:=H
  have A11:=zz31 A110
  clear A110
  have HC12:=zz31 H
  clear H
  go_enter Tryd.func3,Tryd.ntmps3
  go_upto_region 8 with (first | ((with_reducible refine gate_dst (N:=2) rfl ?_);refine box_event ?hg (N:=2) ?hd (cs:=#[.int .i64 a0_0,.slice A0_1 l0_1.length c0_1]) (t:=24) ?hr ?_;(case hd=>rfl);(case hg=>rfl);(case hr=>first | (go_simp;done) | (go_simp;rfl));intro gb252 hg w13 hbox hb;have n0_:=zz31 (zz4 (by repeat first | exact HB.out | apply zz2 | apply zz0 | apply zz1) hb);have n1_:=zz31 (hbox);have n2_:=zz31 ((by rw [hg];exact (zz5 (by repeat first | exact HB.out | apply zz2 | apply zz0 | apply zz1)):w.heap.size≤gb252));have n3_:=zz31 ((by rw [hg];exact (zz5 (by repeat first | exact HB.out | apply zz2 | apply zz0 | apply zz1)):w.heap.size≤gb252));clear HB;have HB:=n0_;have BK252:=n1_;have GW252:=n2_;have GE252:=n3_;clear n0_ n1_ n2_ n3_;clear hb hbox hg;have hcz14_0:w13.cell? ⟨gb252,0,none⟩=some (.int .i64 a0_0):=(zz9 BK252.out 0).trans rfl;have hcz14_1:w13.cell? ⟨gb252,1,none⟩=some (.slice A0_1 l0_1.length c0_1):=(zz9 BK252.out 1).trans rfl;have hfz14_0:=zz10 BK252.out 0;have hfz14_1:=zz10 BK252.out 1) | ((with_reducible refine gate_callee (f:=6) rfl ?_);refine goesL_ (some 13) rfl rfl Tryd.func6 (by kernel_rfl) rfl #[.agg #[.int .i64 a0_0,.slice A0_1 l0_1.length c0_1],.int .i64 1048576] rfl (by (try simp only [zz26,zz27,zz28]);first | done | rfl | (simp only [zz24,zz25];rfl)) ?_;(with_reducible refine (laws_szParty.calls a0_0 _ _ l0_1 1048576 t253 _ ?side1 ?side2 A3.out).mono ?_);(case side1=>repeat (first | exact (Kd.C_below HR0_1.out HB.out) | (with_reducible refine zz18 ?_ _) | (with_reducible refine zz19 ?_ _) | (with_reducible refine zz20 ?_)));(case side2=>exact HC0_1.out);rintro e w15 ⟨rfl,hb⟩;refine ⟨_,rfl,?_⟩;have n0_:=zz31 (zz11 (g:=gb252) (o:=.cells #[.int .i64 a0_0,.slice A0_1 l0_1.length c0_1] 24 (0,0)) (by (with_reducible repeat (first | refine zz6 ?_ _ | refine zz7 ?_ | refine zz8 ?_ _));exact BK252.out) hb);have n1_:=zz31 (zz4 (by repeat first | exact HB.out | apply zz2 | apply zz0 | apply zz1 | refine zz3 ?_ GE252.out) hb);clear BK252;clear HB;have BK252:=n0_;have HB:=n1_;clear n0_ n1_;(try clear hb);(try clear hb2);(try clear hk);(try clear hi);have hcz16_0:w15.cell? ⟨gb252,0,none⟩=some (.int .i64 a0_0):=(zz9 BK252.out 0).trans rfl;have hcz16_1:w15.cell? ⟨gb252,1,none⟩=some (.slice A0_1 l0_1.length c0_1):=(zz9 BK252.out 1).trans rfl;have hfz16_0:=zz10 BK252.out 0;have hfz16_1:=zz10 BK252.out 1) | ((with_reducible refine gate_callee (f:=8) rfl ?_);refine goesL_ (some 18) rfl rfl Tryd.func8 (by kernel_rfl) rfl #[.agg #[.int .i64 a0_0,.slice A0_1 l0_1.length c0_1]] rfl (by (try simp only [zz26,zz27,zz28]);first | done | rfl | (simp only [zz24,zz25];rfl)) ?_;(with_reducible refine (laws_toParty.calls k a0_0 _ _ l0_1 t254 t255 _ ?side1 ?side2 A8.out).mono ?_);(case side1=>repeat (first | exact (Kd.C_below HR0_1.out HB.out) | (with_reducible refine zz18 ?_ _) | (with_reducible refine zz19 ?_ _) | (with_reducible refine zz20 ?_)));(case side2=>exact HC0_1.out);rintro e w17 ⟨v256,rfl,ho0,hb⟩;refine ⟨_,rfl,?_⟩;have n0_:=zz31 (Kd.R_lower ho0 (zz5 (by repeat first | exact HB.out | apply zz2 | apply zz0 | apply zz1 | refine zz3 ?_ GE252.out)));have n1_:=zz31 (zz11 (g:=gb252) (o:=.cells #[.int .i64 a0_0,.slice A0_1 l0_1.length c0_1] 24 (0,0)) (by (with_reducible repeat (first | refine zz6 ?_ _ | refine zz7 ?_ | refine zz8 ?_ _));exact BK252.out) hb);have n2_:=zz31 (zz4 (by repeat first | exact HB.out | apply zz2 | apply zz0 | apply zz1 | refine zz3 ?_ GE252.out) hb);clear BK252;clear HB;have HO257:=n0_;have BK252:=n1_;have HB:=n2_;clear n0_ n1_ n2_;(try clear hb);(try clear hb2);(try clear hk);(try clear hi);(try clear ho0);obtain ⟨Ao18,co18,eo18⟩:=Kd.R_slice HO257.out;subst eo18) | ((with_reducible refine gate_callee (f:=7) rfl ?_);refine goesL_ (some 20) rfl rfl Tryd.func7 (by kernel_rfl) rfl #[.agg #[.int .i64 t254,.slice Ao18 t255.length co18],.int .i64 a1] rfl (by (try simp only [zz26,zz27,zz28]);first | done | rfl | (simp only [zz24,zz25];rfl)) ?_;(with_reducible refine (spec_ThreesAt.calls k t254 _ _ t255 a1 t258 t259 _ ?side1 ?side2 A9.out).mono ?_);(case side1=>repeat (first | exact (Kd.R_reads' HO257.out).2.2 | (with_reducible refine zz18 ?_ _) | (with_reducible refine zz19 ?_ _) | (with_reducible refine zz20 ?_)));(case side2=>exact (Kd.R_reads' HO257.out).2.1);rintro e w19 ⟨rfl,hb⟩;refine ⟨_,rfl,?_⟩;have n0_:=zz31 (Kd.R_below (by (with_reducible repeat (first | apply zz12 | apply zz13 | apply zz14));exact HO257.out) hb);have n1_:=zz31 (zz11 (g:=gb252) (o:=.cells #[.int .i64 a0_0,.slice A0_1 l0_1.length c0_1] 24 (0,0)) (by (with_reducible repeat (first | refine zz6 ?_ _ | refine zz7 ?_ | refine zz8 ?_ _));exact BK252.out) hb);have n2_:=zz31 (zz4 (by repeat first | exact HB.out | apply zz2 | apply zz0 | apply zz1 | refine zz3 ?_ GE252.out) hb);clear HO257;clear BK252;clear HB;have HO257:=n0_;have BK252:=n1_;have HB:=n2_;clear n0_ n1_ n2_;(try clear hb);(try clear hb2);(try clear hk);(try clear hi);have hcz20_0:w19.cell? ⟨gb252,0,none⟩=some (.int .i64 a0_0):=(zz9 BK252.out 0).trans rfl;have hcz20_1:w19.cell? ⟨gb252,1,none⟩=some (.slice A0_1 l0_1.length c0_1):=(zz9 BK252.out 1).trans rfl;have hfz20_0:=zz10 BK252.out 0;have hfz20_1:=zz10 BK252.out 1) | ((with_reducible refine gate_callee (f:=8) rfl ?_);refine goesL_ (some 24) rfl rfl Tryd.func8 (by kernel_rfl) rfl #[.agg #[.int .i64 a0_0,.slice A0_1 l0_1.length c0_1]] rfl (by (try simp only [zz26,zz27,zz28]);first | done | rfl | (simp only [zz24,zz25];rfl)) ?_;(with_reducible refine (laws_toParty.calls k a0_0 _ _ l0_1 t260 t261 _ ?side1 ?side2 A10.out).mono ?_);(case side1=>repeat (first | exact (Kd.C_below HR0_1.out HB.out) | (with_reducible refine zz18 ?_ _) | (with_reducible refine zz19 ?_ _) | (with_reducible refine zz20 ?_)));(case side2=>exact HC0_1.out);rintro e w21 ⟨v262,rfl,ho0,hb⟩;refine ⟨_,rfl,?_⟩;have n0_:=zz31 (Kd.R_elder' (by (with_reducible repeat (first | apply zz12 | apply zz13 | apply zz14));exact HO257.out) (Kd.R_base ho0) hb);have n1_:=zz31 (Kd.R_lower (Kd.R_new' ho0 (Kd.R_lt (by (with_reducible repeat (first | apply zz12 | apply zz13 | apply zz14));exact HO257.out))) (zz5 (by repeat first | exact HB.out | apply zz2 | apply zz0 | apply zz1 | refine zz3 ?_ GE252.out)));have n2_:=zz31 (zz11 (g:=gb252) (o:=.cells #[.int .i64 a0_0,.slice A0_1 l0_1.length c0_1] 24 (0,0)) (by (with_reducible repeat (first | refine zz6 ?_ _ | refine zz7 ?_ | refine zz8 ?_ _));exact BK252.out) hb);have n3_:=zz31 (zz4 (by repeat first | exact HB.out | apply zz2 | apply zz0 | apply zz1 | refine zz3 ?_ GE252.out) hb);clear HO257;clear BK252;clear HB;have HO257:=n0_;have HO263:=n1_;have BK252:=n2_;have HB:=n3_;clear n0_ n1_ n2_ n3_;(try clear hb);(try clear hb2);(try clear hk);(try clear hi);(try clear ho0)) | ((with_reducible refine gate_dst (N:=8) rfl ?_);refine box_event ?hg (N:=8) ?hd (cs:=#[.int .i64 0,.slice none 0 0]) (t:=30) ?hr ?_;(case hd=>rfl);(case hg=>rfl);(case hr=>first | (go_simp;done) | (go_simp;rfl));intro gb264 hg w22 hbox hb;have n0_:=zz31 (Kd.R_below (by (with_reducible repeat (first | apply zz12 | apply zz13 | apply zz14));exact HO257.out) hb);have n1_:=zz31 (Kd.R_below (by (with_reducible repeat (first | apply zz12 | apply zz13 | apply zz14));exact HO263.out) hb);have n2_:=zz31 (zz11 (g:=gb252) (o:=.cells #[.int .i64 a0_0,.slice A0_1 l0_1.length c0_1] 24 (0,0)) (by (with_reducible repeat (first | refine zz6 ?_ _ | refine zz7 ?_ | refine zz8 ?_ _));exact BK252.out) hb);have n3_:=zz31 (zz4 (by repeat first | exact HB.out | apply zz2 | apply zz0 | apply zz1 | refine zz3 ?_ GE252.out) hb);have n4_:=zz31 (hbox);have n5_:=zz31 ((by rw [hg];exact (zz5 (by repeat first | exact HB.out | apply zz2 | apply zz0 | apply zz1 | refine zz3 ?_ GE252.out)):w.heap.size≤gb264));have n6_:=zz31 ((by rw [hg];exact (zz5 (by repeat first | exact HB.out | apply zz2 | apply zz0 | apply zz1 | refine zz3 ?_ GE252.out)):w.heap.size≤gb264));have n7_:=zz31 ((by rw [hg];exact Nat.ne_of_lt (blk_lt (g:=gb252) (o:=.cells #[.int .i64 a0_0,.slice A0_1 l0_1.length c0_1] 24 (0,0)) (by (with_reducible repeat (first | refine zz6 ?_ _ | refine zz7 ?_ | refine zz8 ?_ _));exact BK252.out)):gb252 ≠ gb264));have n8_:=zz31 ((by rw [hg];exact Nat.ne_of_gt (blk_lt (g:=gb252) (o:=.cells #[.int .i64 a0_0,.slice A0_1 l0_1.length c0_1] 24 (0,0)) (by (with_reducible repeat (first | refine zz6 ?_ _ | refine zz7 ?_ | refine zz8 ?_ _));exact BK252.out)):gb264 ≠ gb252));clear HO257;clear HO263;clear BK252;clear HB;have HO257:=n0_;have HO263:=n1_;have BK252:=n2_;have HB:=n3_;have BK264:=n4_;have GW264:=n5_;have GE264:=n6_;have NB252_264:=n7_;have NB264_252:=n8_;clear n0_ n1_ n2_ n3_ n4_ n5_ n6_ n7_ n8_;clear hb hbox hg;have hnb23:=NB264_252.out;have hnc23:=NB252_264.out;have hcz24_0:w22.cell? ⟨gb264,0,none⟩=some (.int .i64 0):=(zz9 BK264.out 0).trans rfl;have hcz24_1:w22.cell? ⟨gb264,1,none⟩=some (.slice none 0 0):=(zz9 BK264.out 1).trans rfl;have hfz24_0:=zz10 BK264.out 0;have hfz24_1:=zz10 BK264.out 1;obtain ⟨Ao25,co25,eo25⟩:=Kd.R_slice HO263.out;subst eo25) | ((with_reducible refine gate_callee (f:=9) rfl ?_);refine goesL_ (some 28) rfl rfl Tryd.func9 (by kernel_rfl) rfl #[.agg #[.int .i64 t260,.slice Ao25 t261.length co25],.int .i64 a1] rfl (by (try simp only [zz26,zz27,zz28]);first | done | rfl | (simp only [zz24,zz25];rfl)) ?_;(with_reducible refine (impl_ThreesAt.calls k t260 _ _ t261 a1 t265 t266 _ ?side1 ?side2 A11.out (HT.out.below (by repeat first | exact HB.out | apply zz2 | apply zz0 | apply zz1 | refine zz3 ?_ GE252.out | refine zz3 ?_ GE264.out))).mono ?_);(case side1=>refine (Kd.R_reads' (e:=68) (base:=w.heap.size) (ok:=fun k_=>(True∧some k_ ≠ (.slice Ao18 t255.length co18:Value).ownBlock)) (n:=t261.length) (c:=co25) ?_).2.2;exact (by (with_reducible repeat (first | apply zz12 | apply zz13 | apply zz14));exact (Kd.R_mono (Kd.R_far (p:=⟨gb264,1,none⟩) (Kd.R_far (p:=⟨gb264,0,none⟩) (Kd.R_types HO263.out BK264.out (by decide)) (fun _ hk=>hk.2) (.int .i64 t260)) (fun _ hk=>hk.2) (.slice Ao25 t261.length co25)) (fun _ h_=>h_.1))));(case side2=>exact (Kd.R_reads' HO263.out).2.1);rintro e w26 ⟨rfl,hb⟩;refine ⟨_,rfl,?_⟩;have n0_:=zz31 (Kd.R_below (by (with_reducible repeat (first | apply zz12 | apply zz13 | apply zz14));exact (Kd.R_mono (Kd.R_far (p:=⟨gb264,1,none⟩) (Kd.R_far (p:=⟨gb264,0,none⟩) (Kd.R_types HO257.out BK264.out (by decide)) (fun _ hk=>hk.2) (.int .i64 t260)) (fun _ hk=>hk.2) (.slice Ao25 t261.length co25)) (fun _ h_=>h_.1))) hb);have n1_:=zz31 (Kd.R_below (by (with_reducible repeat (first | apply zz12 | apply zz13 | apply zz14));exact (Kd.R_mono (Kd.R_far (p:=⟨gb264,1,none⟩) (Kd.R_far (p:=⟨gb264,0,none⟩) (Kd.R_types HO263.out BK264.out (by decide)) (fun _ hk=>hk.2) (.int .i64 t260)) (fun _ hk=>hk.2) (.slice Ao25 t261.length co25)) (fun _ h_=>h_.1))) hb);have n2_:=zz31 (zz11 (g:=gb252) (o:=.cells #[.int .i64 a0_0,.slice A0_1 l0_1.length c0_1] 24 (0,0)) (by (with_reducible repeat (first | refine zz6 ?_ _ | refine zz7 ?_ | refine zz8 ?_ _));refine blk_far ?_ NB252_264.out _;(with_reducible repeat (first | refine zz6 ?_ _ | refine zz7 ?_ | refine zz8 ?_ _));refine blk_far ?_ NB252_264.out _;(with_reducible repeat (first | refine zz6 ?_ _ | refine zz7 ?_ | refine zz8 ?_ _));exact BK252.out) hb);have n3_:=zz31 (zz11 (g:=gb264) (o:=.cells #[.int .i64 t260,.slice Ao25 t261.length co25] 30 (0,0)) (by (with_reducible repeat (first | refine zz6 ?_ _ | refine zz7 ?_ | refine zz8 ?_ _));refine blk_put (cs:=#[.int .i64 t260,.slice none 0 0]) ?_ 1 _ rfl;(with_reducible repeat (first | refine zz6 ?_ _ | refine zz7 ?_ | refine zz8 ?_ _));refine blk_put (cs:=#[.int .i64 0,.slice none 0 0]) ?_ 0 _ rfl;(with_reducible repeat (first | refine zz6 ?_ _ | refine zz7 ?_ | refine zz8 ?_ _));exact BK264.out) hb);have n4_:=zz31 (zz4 (by repeat first | exact HB.out | apply zz2 | apply zz0 | apply zz1 | refine zz3 ?_ GE252.out | refine zz3 ?_ GE264.out) hb);clear HO257;clear HO263;clear BK252;clear BK264;clear HB;have HO257:=n0_;have HO263:=n1_;have BK252:=n2_;have BK264:=n3_;have HB:=n4_;clear n0_ n1_ n2_ n3_ n4_;(try clear hb);(try clear hb2);(try clear hk);(try clear hi)))
  (try simp only [Act.put,zz21,zz22,zz23])
  go_cut [38] (fun v38 wc=>∃ (kq:Nat) (x38_11:Bool),v38=.bool x38_11∧Aside0 (laws_FnExactThreesAt.j0 kq x38_11 a0_0 l0_1 t260 t261=some r)∧Aside0 (kq≤k)∧Aside0 (Kd.R k68 68 wc w.heap.size (fun _=>True) (.slice Ao25 t261.length co25) t261)∧Aside0 (wc.heap[gb252]?=some (.cells #[.int .i64 a0_0,(.slice A0_1 l0_1.length c0_1)] 24 (0,0)))∧Aside0 (wc.heap[gb264]?=some (.cells #[.int .i64 t260,(.slice Ao25 t261.length co25)] 30 (0,0)))∧Aside0 (Below w.heap.size w wc))
  case first =>
   have H:=HC12.out
   clear HC12
   by_cases c27:t265=t258
   ·rw [if_pos c27] at H
    have c27b0:(t265 == t258)=true:=beq_iff_eq.mpr c27
    have c27b1:(t265 != t258)=false:=bne_eq_false_iff_eq.mpr c27
    clear c27
    (first | rw [c27b0] | (simp only [i64_w,i32_w];rw [c27b0]) | skip)
    have H':=zz31 H
    clear H
    go_wp2
    go_meet
    case rel=>exact ⟨_,((t266 != t259)),(by first | rfl | (simp;done) | (simp [*];done)),H',⟨by first | omega | exact Nat.le_refl _⟩,⟨by (with_reducible repeat (first | apply zz12 | apply zz13 | apply zz14));exact Kd.R_mono HO263.out (fun _ hk=>trivial)⟩,⟨by (with_reducible repeat (first | refine zz6 ?_ _ | refine zz7 ?_ | refine zz8 ?_ _));exact BK252.out⟩,⟨by (with_reducible repeat (first | refine zz6 ?_ _ | refine zz7 ?_ | refine zz8 ?_ _));exact BK264.out⟩,⟨by repeat first | exact HB.out | apply zz2 | apply zz0 | apply zz1 | refine zz3 ?_ GE252.out | refine zz3 ?_ GE264.out⟩⟩
   ·rw [if_neg c27] at H
    have c27b0:(t265 == t258)=false:=beq_eq_false_iff_ne.mpr c27
    have c27b1:(t265 != t258)=true:=bne_iff_ne.mpr c27
    (first | rw [c27b0] | (simp only [i64_w,i32_w];rw [c27b0]) | skip)
    have H':=zz31 H
    clear H
    go_wp2
    go_meet
    case rel=>exact ⟨_,(true),(by first | rfl | (simp;done) | (simp [*];done)),H',⟨by first | omega | exact Nat.le_refl _⟩,⟨by (with_reducible repeat (first | apply zz12 | apply zz13 | apply zz14));exact Kd.R_mono HO263.out (fun _ hk=>trivial)⟩,⟨by (with_reducible repeat (first | refine zz6 ?_ _ | refine zz7 ?_ | refine zz8 ?_ _));exact BK252.out⟩,⟨by (with_reducible repeat (first | refine zz6 ?_ _ | refine zz7 ?_ | refine zz8 ?_ _));exact BK264.out⟩,⟨by repeat first | exact HB.out | apply zz2 | apply zz0 | apply zz1 | refine zz3 ?_ GE252.out | refine zz3 ?_ GE264.out⟩⟩
  case rest =>
   clear HC12
   try clear c2
   try clear p2
   try clear c3
   try clear c4
   try clear c4b0
   try clear c6
   try clear c7
   try clear c8
   try clear c9
   try clear c23
   try clear c27
   try clear c27b0
   try clear c27b1
   try clear hcz14_0
   try clear hcz14_1
   try clear hcz16_0
   try clear hcz16_1
   try clear hcz20_0
   try clear hcz20_1
   try clear hcz24_0
   try clear hcz24_1
   try clear hcz6_0
   try clear hcz6_1
   try clear hfz14_0
   try clear hfz14_1
   try clear hfz16_0
   try clear hfz16_1
   try clear hfz20_0
   try clear hfz20_1
   try clear hfz24_0
   try clear hfz24_1
   try clear hfz6_0
   try clear hfz6_1
   obtain ⟨kq,x38_11,rfl,HA,HJ11,HO_265001,BK252,BK264,HB⟩:=hcut
   cases kq with
   | zero=>exact absurd HA.out (by simp [laws_FnExactThreesAt.j0])
   | succ kj11 =>
    have H:=HA.out
    clear HA
    simp only [laws_FnExactThreesAt.j0] at H
    by_cases c28:x38_11=true
    ·subst c28
     have H1:(some false)=some r:=by rw [if_pos rfl] at H;exact H
     clear H
     have H:=H1
     clear H1
     obtain rfl:=Option.some.inj H
     go_wp2
     go_ret
     exact ⟨by first | rfl | (simp [errW_none,errW_some] <;> rfl) | (simp [*,errW_none,errW_some] <;> rfl),by repeat first | exact HB.out | apply zz2 | apply zz0 | apply zz1 | refine zz3 ?_ GE252.out | refine zz3 ?_ GE264.out⟩
    ·replace c28:=Bool.eq_false_iff.mpr c28
     subst c28
     have H1:((laws_toParty.f kj11 a0_0 l0_1).bind fun bt267=>((laws_eqParty.f kj11 t260 t261 bt267.1 bt267.2).bind fun t271=>(if t271=true then (some true) else (some false))))=some r:=by rw [if_neg (show ¬ (false=true) by decide)] at H;exact H
     clear H
     have H:=H1
     clear H1
     replace H:=zz30.mp H
     obtain ⟨⟨t267,t268⟩,A290,H⟩:=H
     replace H:((laws_eqParty.f kj11 t260 t261 t267 t268).bind fun t271=>(if t271=true then (some true) else (some false)))=some r:=H
     have A29:=zz31 A290
     clear A290
     replace H:=zz30.mp H
     obtain ⟨t271,A300,H⟩:=H
     replace H:(if t271=true then (some true) else (some false))=some r:=H
     have A30:=zz31 A300
     clear A300
     by_cases c31:t271=true
     ·subst c31
      have H1:(some true)=some r:=by rw [if_pos rfl] at H;exact H
      clear H
      have H:=H1
      clear H1
      obtain rfl:=Option.some.inj H
      try go_wp2
      have n0_:=zz31 (zz14 HO_265001.out)
      have n1_:=zz31 (zz7 BK252.out)
      have n2_:=zz31 (zz7 BK264.out)
      have n3_:=zz31 (zz1 HB.out)
      clear HO_265001
      clear BK252
      clear BK264
      clear HB
      have HO_265001:=n0_
      have BK252:=n1_
      have BK264:=n2_
      have HB:=n3_
      clear n0_ n1_ n2_ n3_
      refine start_ (n:=5) (S:=fun w'=>w'.cell? ⟨gb264,0,none⟩=some (.int .i64 t260)∧w'.cell? ⟨gb264,1,none⟩=some (.slice Ao25 t261.length co25)∧w'.cell? ⟨gb252,0,none⟩=some (.int .i64 a0_0)∧w'.cell? ⟨gb252,1,none⟩=some (.slice A0_1 l0_1.length c0_1)) (ds:=[]) #[F,F,F,F,F] (by kernel_rfl) rfl rfl ⟨(zz9 BK264.out 0).trans rfl,(zz9 BK264.out 1).trans rfl,(zz9 BK252.out 0).trans rfl,(zz9 BK252.out 1).trans rfl⟩ (fun hHeld=>?_)
      generalize wc.drew=w32 at HO_265001 BK252 BK264 HB hHeld ⊢
      refine take_ (i:=0) (N:=some 39) (v:=?_) (a':=?_) #[T,F,F,F,F] rfl rfl (by kernel_rfl) (fun _ _ _ h=>h) (Or.inl ⟨by rfl,?_⟩) hHeld ?_ ?_
      rotate_left
      ·rintro w' ⟨s0,s1,s2,s3⟩
       go_simp
       with_reducible rfl
      rotate_left
      ·simp only [Act.put,zz21,zz22,zz23,i64_w,i32_w]
       rfl
      refine take_ (i:=1) (N:=some 40) (v:=?_) (a':=?_) #[T,T,F,F,F] rfl rfl (by kernel_rfl) (fun _ _ _ h=>h) (Or.inl ⟨by rfl,?_⟩) hHeld ?_ ?_
      rotate_left
      ·rintro w' ⟨s0,s1,s2,s3⟩
       go_simp
       with_reducible rfl
      rotate_left
      ·simp only [Act.put,zz21,zz22,zz23,i64_w,i32_w]
       rfl
      refine one_ (i:=2) (N:=some 41) #[T,T,T,F,F] rfl rfl (by kernel_rfl) (by decide) (fun K hK=>?_)
      refine goes_ Tryd.func8 (by kernel_rfl) rfl #[.agg #[.int .i64 a0_0,.slice A0_1 l0_1.length c0_1]] (by rfl) rfl rfl (by (try simp only [zz26,zz27,zz28]);first | done | rfl | (simp only [zz24,zz25];rfl)) ?_
      with_reducible refine (laws_toParty.calls kj11 a0_0 _ _ l0_1 t267 t268 _ ?side1 ?side2 A29.out).mono ?_
      (case side1=>repeat (first | exact (Kd.C_below HR0_1.out HB.out) | (with_reducible refine zz18 ?_ _) | (with_reducible refine zz19 ?_ _) | (with_reducible refine zz20 ?_)))
      (case side2=>exact HC0_1.out)
      rintro e w33 ⟨v269,rfl,ho0,hb⟩
      refine ⟨_,rfl,?_⟩
      have n0_:=zz31 (Kd.R_elder' (by (with_reducible repeat (first | apply zz12 | apply zz13 | apply zz14));exact HO_265001.out) (Kd.R_base ho0) hb)
      have n1_:=zz31 (Kd.R_lower (Kd.R_new' ho0 (Kd.R_lt (by (with_reducible repeat (first | apply zz12 | apply zz13 | apply zz14));exact HO_265001.out))) (zz5 (by repeat first | exact HB.out | apply zz2 | apply zz0 | apply zz1 | refine zz3 ?_ GE252.out | refine zz3 ?_ GE264.out)))
      have n2_:=zz31 (zz11 (g:=gb252) (o:=.cells #[.int .i64 a0_0,.slice A0_1 l0_1.length c0_1] 24 (0,0)) (by (with_reducible repeat (first | refine zz6 ?_ _ | refine zz7 ?_ | refine zz8 ?_ _));exact BK252.out) hb)
      have n3_:=zz31 (zz11 (g:=gb264) (o:=.cells #[.int .i64 t260,.slice Ao25 t261.length co25] 30 (0,0)) (by (with_reducible repeat (first | refine zz6 ?_ _ | refine zz7 ?_ | refine zz8 ?_ _));exact BK264.out) hb)
      have n4_:=zz31 (zz4 (by repeat first | exact HB.out | apply zz2 | apply zz0 | apply zz1 | refine zz3 ?_ GE252.out | refine zz3 ?_ GE264.out) hb)
      clear HO_265001
      clear BK252
      clear BK264
      clear HB
      have HO_265001:=n0_
      have HO270:=n1_
      have BK252:=n2_
      have BK264:=n3_
      have HB:=n4_
      clear n0_ n1_ n2_ n3_ n4_
      (try clear hb)
      (try clear hb2)
      (try clear hk)
      (try clear hi)
      (try clear ho0)
      obtain ⟨Ao34,co34,eo34⟩:=Kd.R_slice HO270.out
      (first | subst eo34 | (injection eo34 with f1_ f2_ f3_;have f4_:=f1_.symm;have f5_:=f3_.symm;clear f1_ f2_ f3_;subst f4_;subst f5_))
      refine hK.out _ _ ⟨(zz9 BK264.out 0).trans rfl,(zz9 BK264.out 1).trans rfl,(zz9 BK252.out 0).trans rfl,(zz9 BK252.out 1).trans rfl⟩ (fun hHeld=>?_)
      clear hK K
      refine norm_ (a':=?_) ?_ ?_
      rotate_left
      ·show Act.put _ (some 41) _=_
       simp only [Act.put,zz21,zz22,zz23,i64_w,i32_w]
       rfl
      refine one_ (i:=3) (N:=some 42) #[T,T,T,T,F] rfl rfl (by kernel_rfl) (by decide) (fun K hK=>?_)
      refine goes_ Tryd.func10 (by kernel_rfl) rfl #[.agg #[.int .i64 t260,.slice Ao25 t261.length co25],.agg #[.int .i64 t267,.slice Ao34 t268.length co34]] (by rfl) rfl rfl (by (try simp only [zz26,zz27,zz28]);first | done | rfl | (simp only [zz24,zz25];rfl)) ?_
      with_reducible refine (laws_eqParty.calls kj11 t260 _ _ t261 t267 _ _ t268 true _ ?side1 ?side2 ?side3 ?side4 A30.out).mono ?_
      (case side1=>repeat (first | exact (Kd.R_reads' HO_265001.out).2.2 | (with_reducible refine zz18 ?_ _) | (with_reducible refine zz19 ?_ _) | (with_reducible refine zz20 ?_)))
      (case side2=>exact (Kd.R_reads' HO_265001.out).2.1)
      (case side3=>repeat (first | exact (Kd.R_reads' HO270.out).2.2 | (with_reducible refine zz18 ?_ _) | (with_reducible refine zz19 ?_ _) | (with_reducible refine zz20 ?_)))
      (case side4=>exact (Kd.R_reads' HO270.out).2.1)
      rintro e w35 ⟨rfl,hb⟩
      refine ⟨_,rfl,?_⟩
      have n0_:=zz31 (Kd.R_below (by (with_reducible repeat (first | apply zz12 | apply zz13 | apply zz14));exact HO_265001.out) hb)
      have n1_:=zz31 (Kd.R_below (by (with_reducible repeat (first | apply zz12 | apply zz13 | apply zz14));exact HO270.out) hb)
      have n2_:=zz31 (zz11 (g:=gb252) (o:=.cells #[.int .i64 a0_0,.slice A0_1 l0_1.length c0_1] 24 (0,0)) (by (with_reducible repeat (first | refine zz6 ?_ _ | refine zz7 ?_ | refine zz8 ?_ _));exact BK252.out) hb)
      have n3_:=zz31 (zz11 (g:=gb264) (o:=.cells #[.int .i64 t260,.slice Ao25 t261.length co25] 30 (0,0)) (by (with_reducible repeat (first | refine zz6 ?_ _ | refine zz7 ?_ | refine zz8 ?_ _));exact BK264.out) hb)
      have n4_:=zz31 (zz4 (by repeat first | exact HB.out | apply zz2 | apply zz0 | apply zz1 | refine zz3 ?_ GE252.out | refine zz3 ?_ GE264.out) hb)
      clear HO_265001
      clear HO270
      clear BK252
      clear BK264
      clear HB
      have HO_265001:=n0_
      have HO270:=n1_
      have BK252:=n2_
      have BK264:=n3_
      have HB:=n4_
      clear n0_ n1_ n2_ n3_ n4_
      (try clear hb)
      (try clear hb2)
      (try clear hk)
      (try clear hi)
      refine hK.out _ _ ⟨(zz9 BK264.out 0).trans rfl,(zz9 BK264.out 1).trans rfl,(zz9 BK252.out 0).trans rfl,(zz9 BK252.out 1).trans rfl⟩ (fun hHeld=>?_)
      clear hK K
      refine norm_ (a':=?_) ?_ ?_
      rotate_left
      ·show Act.put _ (some 42) _=_
       simp only [Act.put,zz21,zz22,zz23,i64_w,i32_w]
       rfl
      refine pure_ (i:=4) (N:=some 43) (v:=?_) (a':=?_) #[T,T,T,T,T] rfl rfl (by kernel_rfl) (fun _ _ _ h=>h) (Or.inl ⟨by rfl,?_⟩) ?_ ?_
      rotate_left
      ·intro w'
       go_simp
       with_reducible rfl
      rotate_left
      ·simp only [Act.put,zz21,zz22,zz23,i64_w,i32_w]
       rfl
      refine done_ (by kernel_rfl) ?_
      try go_wp2
      go_ret
      exact ⟨by first | rfl | (simp [errW_none,errW_some] <;> rfl) | (simp [*,errW_none,errW_some] <;> rfl),by repeat first | exact HB.out | apply zz2 | apply zz0 | apply zz1 | refine zz3 ?_ GE252.out | refine zz3 ?_ GE264.out⟩
     ·replace c31:=Bool.eq_false_iff.mpr c31
      subst c31
      have H1:(some false)=some r:=by rw [if_neg (show ¬ (false=true) by decide)] at H;exact H
      clear H
      have H:=H1
      clear H1
      obtain rfl:=Option.some.inj H
      try go_wp2
      have n0_:=zz31 (zz14 HO_265001.out)
      have n1_:=zz31 (zz7 BK252.out)
      have n2_:=zz31 (zz7 BK264.out)
      have n3_:=zz31 (zz1 HB.out)
      clear HO_265001
      clear BK252
      clear BK264
      clear HB
      have HO_265001:=n0_
      have BK252:=n1_
      have BK264:=n2_
      have HB:=n3_
      clear n0_ n1_ n2_ n3_
      refine start_ (n:=5) (S:=fun w'=>w'.cell? ⟨gb264,0,none⟩=some (.int .i64 t260)∧w'.cell? ⟨gb264,1,none⟩=some (.slice Ao25 t261.length co25)∧w'.cell? ⟨gb252,0,none⟩=some (.int .i64 a0_0)∧w'.cell? ⟨gb252,1,none⟩=some (.slice A0_1 l0_1.length c0_1)) (ds:=[]) #[F,F,F,F,F] (by kernel_rfl) rfl rfl ⟨(zz9 BK264.out 0).trans rfl,(zz9 BK264.out 1).trans rfl,(zz9 BK252.out 0).trans rfl,(zz9 BK252.out 1).trans rfl⟩ (fun hHeld=>?_)
      generalize wc.drew=w36 at HO_265001 BK252 BK264 HB hHeld ⊢
      refine take_ (i:=0) (N:=some 39) (v:=?_) (a':=?_) #[T,F,F,F,F] rfl rfl (by kernel_rfl) (fun _ _ _ h=>h) (Or.inl ⟨by rfl,?_⟩) hHeld ?_ ?_
      rotate_left
      ·rintro w' ⟨s0,s1,s2,s3⟩
       go_simp
       with_reducible rfl
      rotate_left
      ·simp only [Act.put,zz21,zz22,zz23,i64_w,i32_w]
       rfl
      refine take_ (i:=1) (N:=some 40) (v:=?_) (a':=?_) #[T,T,F,F,F] rfl rfl (by kernel_rfl) (fun _ _ _ h=>h) (Or.inl ⟨by rfl,?_⟩) hHeld ?_ ?_
      rotate_left
      ·rintro w' ⟨s0,s1,s2,s3⟩
       go_simp
       with_reducible rfl
      rotate_left
      ·simp only [Act.put,zz21,zz22,zz23,i64_w,i32_w]
       rfl
      refine one_ (i:=2) (N:=some 41) #[T,T,T,F,F] rfl rfl (by kernel_rfl) (by decide) (fun K hK=>?_)
      refine goes_ Tryd.func8 (by kernel_rfl) rfl #[.agg #[.int .i64 a0_0,.slice A0_1 l0_1.length c0_1]] (by rfl) rfl rfl (by (try simp only [zz26,zz27,zz28]);first | done | rfl | (simp only [zz24,zz25];rfl)) ?_
      with_reducible refine (laws_toParty.calls kj11 a0_0 _ _ l0_1 t267 t268 _ ?side1 ?side2 A29.out).mono ?_
      (case side1=>repeat (first | exact (Kd.C_below HR0_1.out HB.out) | (with_reducible refine zz18 ?_ _) | (with_reducible refine zz19 ?_ _) | (with_reducible refine zz20 ?_)))
      (case side2=>exact HC0_1.out)
      rintro e w37 ⟨v269,rfl,ho0,hb⟩
      refine ⟨_,rfl,?_⟩
      have n0_:=zz31 (Kd.R_elder' (by (with_reducible repeat (first | apply zz12 | apply zz13 | apply zz14));exact HO_265001.out) (Kd.R_base ho0) hb)
      have n1_:=zz31 (Kd.R_lower (Kd.R_new' ho0 (Kd.R_lt (by (with_reducible repeat (first | apply zz12 | apply zz13 | apply zz14));exact HO_265001.out))) (zz5 (by repeat first | exact HB.out | apply zz2 | apply zz0 | apply zz1 | refine zz3 ?_ GE252.out | refine zz3 ?_ GE264.out)))
      have n2_:=zz31 (zz11 (g:=gb252) (o:=.cells #[.int .i64 a0_0,.slice A0_1 l0_1.length c0_1] 24 (0,0)) (by (with_reducible repeat (first | refine zz6 ?_ _ | refine zz7 ?_ | refine zz8 ?_ _));exact BK252.out) hb)
      have n3_:=zz31 (zz11 (g:=gb264) (o:=.cells #[.int .i64 t260,.slice Ao25 t261.length co25] 30 (0,0)) (by (with_reducible repeat (first | refine zz6 ?_ _ | refine zz7 ?_ | refine zz8 ?_ _));exact BK264.out) hb)
      have n4_:=zz31 (zz4 (by repeat first | exact HB.out | apply zz2 | apply zz0 | apply zz1 | refine zz3 ?_ GE252.out | refine zz3 ?_ GE264.out) hb)
      clear HO_265001
      clear BK252
      clear BK264
      clear HB
      have HO_265001:=n0_
      have HO270:=n1_
      have BK252:=n2_
      have BK264:=n3_
      have HB:=n4_
      clear n0_ n1_ n2_ n3_ n4_
      (try clear hb)
      (try clear hb2)
      (try clear hk)
      (try clear hi)
      (try clear ho0)
      obtain ⟨Ao38,co38,eo38⟩:=Kd.R_slice HO270.out
      (first | subst eo38 | (injection eo38 with f1_ f2_ f3_;have f4_:=f1_.symm;have f5_:=f3_.symm;clear f1_ f2_ f3_;subst f4_;subst f5_))
      refine hK.out _ _ ⟨(zz9 BK264.out 0).trans rfl,(zz9 BK264.out 1).trans rfl,(zz9 BK252.out 0).trans rfl,(zz9 BK252.out 1).trans rfl⟩ (fun hHeld=>?_)
      clear hK K
      refine norm_ (a':=?_) ?_ ?_
      rotate_left
      ·show Act.put _ (some 41) _=_
       simp only [Act.put,zz21,zz22,zz23,i64_w,i32_w]
       rfl
      refine one_ (i:=3) (N:=some 42) #[T,T,T,T,F] rfl rfl (by kernel_rfl) (by decide) (fun K hK=>?_)
      refine goes_ Tryd.func10 (by kernel_rfl) rfl #[.agg #[.int .i64 t260,.slice Ao25 t261.length co25],.agg #[.int .i64 t267,.slice Ao38 t268.length co38]] (by rfl) rfl rfl (by (try simp only [zz26,zz27,zz28]);first | done | rfl | (simp only [zz24,zz25];rfl)) ?_
      with_reducible refine (laws_eqParty.calls kj11 t260 _ _ t261 t267 _ _ t268 false _ ?side1 ?side2 ?side3 ?side4 A30.out).mono ?_
      (case side1=>repeat (first | exact (Kd.R_reads' HO_265001.out).2.2 | (with_reducible refine zz18 ?_ _) | (with_reducible refine zz19 ?_ _) | (with_reducible refine zz20 ?_)))
      (case side2=>exact (Kd.R_reads' HO_265001.out).2.1)
      (case side3=>repeat (first | exact (Kd.R_reads' HO270.out).2.2 | (with_reducible refine zz18 ?_ _) | (with_reducible refine zz19 ?_ _) | (with_reducible refine zz20 ?_)))
      (case side4=>exact (Kd.R_reads' HO270.out).2.1)
      rintro e w39 ⟨rfl,hb⟩
      refine ⟨_,rfl,?_⟩
      have n0_:=zz31 (Kd.R_below (by (with_reducible repeat (first | apply zz12 | apply zz13 | apply zz14));exact HO_265001.out) hb)
      have n1_:=zz31 (Kd.R_below (by (with_reducible repeat (first | apply zz12 | apply zz13 | apply zz14));exact HO270.out) hb)
      have n2_:=zz31 (zz11 (g:=gb252) (o:=.cells #[.int .i64 a0_0,.slice A0_1 l0_1.length c0_1] 24 (0,0)) (by (with_reducible repeat (first | refine zz6 ?_ _ | refine zz7 ?_ | refine zz8 ?_ _));exact BK252.out) hb)
      have n3_:=zz31 (zz11 (g:=gb264) (o:=.cells #[.int .i64 t260,.slice Ao25 t261.length co25] 30 (0,0)) (by (with_reducible repeat (first | refine zz6 ?_ _ | refine zz7 ?_ | refine zz8 ?_ _));exact BK264.out) hb)
      have n4_:=zz31 (zz4 (by repeat first | exact HB.out | apply zz2 | apply zz0 | apply zz1 | refine zz3 ?_ GE252.out | refine zz3 ?_ GE264.out) hb)
      clear HO_265001
      clear HO270
      clear BK252
      clear BK264
      clear HB
      have HO_265001:=n0_
      have HO270:=n1_
      have BK252:=n2_
      have BK264:=n3_
      have HB:=n4_
      clear n0_ n1_ n2_ n3_ n4_
      (try clear hb)
      (try clear hb2)
      (try clear hk)
      (try clear hi)
      refine hK.out _ _ ⟨(zz9 BK264.out 0).trans rfl,(zz9 BK264.out 1).trans rfl,(zz9 BK252.out 0).trans rfl,(zz9 BK252.out 1).trans rfl⟩ (fun hHeld=>?_)
      clear hK K
      refine norm_ (a':=?_) ?_ ?_
      rotate_left
      ·show Act.put _ (some 42) _=_
       simp only [Act.put,zz21,zz22,zz23,i64_w,i32_w]
       rfl
      refine pure_ (i:=4) (N:=some 43) (v:=?_) (a':=?_) #[T,T,T,T,T] rfl rfl (by kernel_rfl) (fun _ _ _ h=>h) (Or.inl ⟨by rfl,?_⟩) ?_ ?_
      rotate_left
      ·intro w'
       go_simp
       with_reducible rfl
      rotate_left
      ·simp only [Act.put,zz21,zz22,zz23,i64_w,i32_w]
       rfl
      refine done_ (by kernel_rfl) ?_
      try go_wp2
      go_ret
      exact ⟨by first | rfl | (simp [errW_none,errW_some] <;> rfl) | (simp [*,errW_none,errW_some] <;> rfl),by repeat first | exact HB.out | apply zz2 | apply zz0 | apply zz1 | refine zz3 ?_ GE252.out | refine zz3 ?_ GE264.out⟩

end Go.Proofs.YtialimbdkokdcaaDoor.P
