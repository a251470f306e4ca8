-- PRINTED by print.py (a twelfth state) out of the translation. Not trusted: Lean checks it.
import Derived.Test.YtialimbdkokdcaaPx0
import Derived.Test.YtialimbdkokdcaaPx1
import Derived.Test.YtialimbdkokdcaaPx3
import Derived.Test.YtialimbdkokdcaaPx4
import Derived.Test.YtialimbdkokdcaaPx13
import Derived.Test.YtialimbdkokdcaaPx14
import Derived.Test.YtialimbdkokdcaaPx15
import Derived.Test.YtialimbdkokdcaaPx18
import Derived.Test.YtialimbdkokdcaaPx19
namespace Go.Proofs.Ytialimbdkokdcaa.P
open Go.RowKit Go.Proofs.YtialimbdkokdcaaW.PrintWords Go.Proofs.YtialimbdkokdcaaW.PrintLast Go.Proofs.YtialimbdkokdcaaW.PrintMore
open Bool renaming true → T, false → F
attribute [local go_sem] max2_int min2_int max_two min_two max_three min_three max_four min_four   -- for this text's walks alone
set_option linter.unusedVariables false
set_option linter.unusedSimpArgs false

/-! ### spec_l1All: function 75 -/
def spec_l1All.l0:Nat→Int→Int→List Int→Int→Int→Option (Bool)
 | 0,_,_,_,_,_=>none
 | k+1,x1,x2,x9,x10,x11=>if x11 < x10 then (if 0≤x11 then (if x11 < (x9.length:Int) then ((spec_l1In.f (rd x9 x11) x1 x2).bind fun t693=>(if t693=true then (spec_l1All.l0 k x1 x2 x9 x10 (wrap64 (x11+1))) else (some false))) else (none)) else (none)) else (some true)
def spec_l1All.f (k:Nat) (l0:List Int) (a1:Int) (a2:Int):Option (Bool):=spec_l1All.l0 k a1 a2 l0 (l0.length:Int) 0
theorem spec_l1All.mono_l:∀ k,(∀ y0 y1 y2 y3 y4,LeO (spec_l1All.l0 k y0 y1 y2 y3 y4) (spec_l1All.l0 (k+1) y0 y1 y2 y3 y4))
 | 0=>fun _ _ _ _ _ r h=>by simp [spec_l1All.l0] at h
 | k+1=>by
  have ih0:=spec_l1All.mono_l k
  ·intro y0 y1 y2 y3 y4
   unfold spec_l1All.l0
   repeat' first
   | (with_reducible exact ih0 _ _ _ _ _)
   | (with_reducible exact LeO.refl _)
   | (with_reducible exact LeO.none _)
   | (with_reducible refine LeO.ite ?_ ?_)
   | (with_reducible refine LeO.bind ?_ (fun _=>?_))
   | exact ih0 _ _ _ _ _
   | exact LeO.none _
   | refine LeO.ite ?_ ?_
   | refine LeO.bind ?_ (fun _=>?_)
theorem spec_l1All.mono:∀ a0 a1 a2 k,LeO (spec_l1All.f k a0 a1 a2) (spec_l1All.f (k+1) a0 a1 a2):=by
 intro a0 a1 a2 k
 have ih0:=spec_l1All.mono_l k
 unfold spec_l1All.f
 repeat' first
   | (with_reducible exact ih0 _ _ _ _ _)
   | (with_reducible exact LeO.refl _)
   | (with_reducible exact LeO.none _)
   | (with_reducible refine LeO.ite ?_ ?_)
   | (with_reducible refine LeO.bind ?_ (fun _=>?_))
   | exact ih0 _ _ _ _ _
   | exact LeO.none _
   | refine LeO.ite ?_ ?_
   | refine LeO.bind ?_ (fun _=>?_)
set_option maxHeartbeats 8000000 in
set_option maxRecDepth 100000 in
theorem spec_l1All.calls (k:Nat) (A0:Option Addr) (c0:Nat) (l0:List Int) (a1:Int) (a2:Int) (r:Bool) (w:World) (hr0:Kd.C (Kd.int .i64) w A0 l0.length l0) (hc0:l0.length≤c0) (h:spec_l1All.f k l0 a1 a2=some r) :
  Calls Try.prog 75 #[.slice A0 l0.length c0,.int .i64 a1,.int .i64 a2] w fun e w'=>e=.returned (.bool r)∧Drawn0 w w':=by
 have HR0:=zz31 hr0
 have HC0:=zz31 hc0
 clear hr0 hc0
 have H:(spec_l1All.l0 k a1 a2 l0 (l0.length:Int) 0)=some r:=h
 clear h
 have H':=zz31 H
 clear H
 go_enter Try.func75,Try.ntmps75
 go_wp2
 go_loopg [11] k (fun kq v11 w'=>∃ (x11_1:Int),v11=.int .i64 x11_1∧Aside0 (spec_l1All.l0 kq a1 a2 l0 (l0.length:Int) x11_1=some r)∧Aside0 (kq≤k)∧Drawn0 w w')
 case atStart=>exact ⟨(0),(by first | rfl | (simp;done) | (simp [*];done)),H',⟨Nat.le_refl _⟩,by repeat (first | exact Drawn0.refl _ | apply Drawn0.step)⟩
 case round =>
  clear H'
  try clear p2
  obtain ⟨x11_1,rfl,HA,HK1,⟨m1,rfl⟩⟩:=hrel
  cases gk with
  | zero=>exact absurd HA.out (by simp [spec_l1All.l0])
  | succ k1 =>
   have H:=HA.out
   clear HA
   simp only [spec_l1All.l0] at H
   by_cases c4:x11_1 < (l0.length:Int)
   ·rw [if_pos c4] at H
    have c4b0:decide (x11_1 < (l0.length:Int))=true:=decide_eq_true c4
    clear c4
    by_cases c5:0≤x11_1
    ·rw [if_pos c5] at H
     have c5b0:decide (0≤x11_1)=true:=decide_eq_true c5
     clear c5
     by_cases c6:x11_1 < (l0.length:Int)
     ·rw [if_pos c6] at H
      have c6b0:decide (x11_1 < (l0.length:Int))=true:=decide_eq_true c6
      clear c6
      replace H:=zz30.mp H
      obtain ⟨t693,A70,H⟩:=H
      replace H:(if t693=true then (spec_l1All.l0 k1 a1 a2 l0 (l0.length:Int) (wrap64 (x11_1+1))) else (some false))=some r:=H
      have A7:=zz31 A70
      clear A70
      by_cases c8:t693=true
      ·subst c8
       have H1:(spec_l1All.l0 k1 a1 a2 l0 (l0.length:Int) (wrap64 (x11_1+1)))=some r:=by rw [if_pos rfl] at H;exact H
       clear H
       have H:=H1
       clear H1
       have H':=zz31 H
       clear H
       have p692:0≤(x11_1:Int):=zz29 (by first | (with_reducible assumption) | assumption)
       have q692:x11_1 < (l0.length:Int):=zz29 (by first | (with_reducible assumption) | assumption)
       obtain ⟨ad692,e692,hx692_0⟩:=Kd.at_int HR0.out x11_1 p692 q692
       cases e692
       replace p692:=eq_true p692
       replace q692:=eq_true q692
       go_wp2_with (first | ((with_reducible refine gate_callee (f:=78) rfl ?_);refine goesL_ (some 18) rfl rfl Try.func78 (by kernel_rfl) rfl #[.int .i64 (rd l0 x11_1),.int .i64 a1,.int .i64 a2] rfl (by (try simp only [zz26,zz27,zz28]);first | done | rfl | (simp only [zz24,zz25];rfl)) ?_;(with_reducible refine (spec_l1In.calls (rd l0 x11_1) a1 a2 true _ A7.out).mono ?_);rintro e w' ⟨rfl,⟨nd,rfl⟩⟩;refine ⟨_,rfl,?_⟩))
       go_roundg k1
       case measure=>have:=HK1.out;omega
       case rel=>exact ⟨(wrap64 (x11_1+1)),(by first | rfl | (simp;done) | (simp [*];done)),H',⟨by have:=HK1.out;omega⟩,by repeat (first | exact Drawn0.refl _ | apply Drawn0.step)⟩
      ·replace c8:=Bool.eq_false_iff.mpr c8
       subst c8
       have H1:(some false)=some r:=by rw [if_neg (show ¬ (false=true) by decide)] at H;exact H
       clear H
       have H:=H1
       clear H1
       obtain rfl:=Option.some.inj H
       have p692:0≤(x11_1:Int):=zz29 (by first | (with_reducible assumption) | assumption)
       have q692:x11_1 < (l0.length:Int):=zz29 (by first | (with_reducible assumption) | assumption)
       obtain ⟨ad692,e692,hx692_0⟩:=Kd.at_int HR0.out x11_1 p692 q692
       cases e692
       replace p692:=eq_true p692
       replace q692:=eq_true q692
       go_wp2_with (first | ((with_reducible refine gate_callee (f:=78) rfl ?_);refine goesL_ (some 18) rfl rfl Try.func78 (by kernel_rfl) rfl #[.int .i64 (rd l0 x11_1),.int .i64 a1,.int .i64 a2] rfl (by (try simp only [zz26,zz27,zz28]);first | done | rfl | (simp only [zz24,zz25];rfl)) ?_;(with_reducible refine (spec_l1In.calls (rd l0 x11_1) a1 a2 false _ A7.out).mono ?_);rintro e w' ⟨rfl,⟨nd,rfl⟩⟩;refine ⟨_,rfl,?_⟩))
       go_ret
       exact ⟨by first | rfl | (simp;done) | (simp [*];done),by repeat (first | exact Drawn0.refl _ | apply Drawn0.step)⟩
     ·rw [if_neg c6] at H
      exact absurd H (by simp)
    ·rw [if_neg c5] at H
     exact absurd H (by simp)
   ·rw [if_neg c4] at H
    have c4b0:decide (x11_1 < (l0.length:Int))=false:=decide_eq_false c4
    clear c4
    obtain rfl:=Option.some.inj H
    go_wp2
    go_ret
    exact ⟨by first | rfl | (simp;done) | (simp [*];done),by repeat (first | exact Drawn0.refl _ | apply Drawn0.step)⟩

/-! ### spec_paChoose: function 76 -/
mutual
def spec_paChoose.l0:Nat→List Int→List (List Bool)→List (List Bool)→List Int→Int→Int→Option (Int × (List (S80)))
 | 0,_,_,_,_,_,_=>none
 | k+1,x1,x5,x6,x14,x15,x16=>if x16 < x15 then (if 0≤x16 then (if x16 < (x14.length:Int) then (spec_paChoose.l1 k x1 x5 x6 (rd x14 x16) ([]:List Bool) x14 x15 x16 x1 (x1.length:Int) 0) else (none)) else (none)) else ((spec_paOf.f k x6).bind fun bt699=>(some (bt699.1,bt699.2)))
def spec_paChoose.l1:Nat→List Int→List (List Bool)→List (List Bool)→Int→List Bool→List Int→Int→Int→List Int→Int→Int→Option (Int × (List (S80)))
 | 0,_,_,_,_,_,_,_,_,_,_,_=>none
 | k+1,x1,x5,x6,x8,x9,x14,x15,x16,x20,x21,x22=>if x22 < x21 then (if 0≤x22 then (if x22 < (x20.length:Int) then (if 0≤x8 then (if x8 < (x5.length:Int) then (if 0≤(rd x20 x22) then (if (rd x20 x22) < ((rd_L4 x5 x8).length:Int) then (if x9.length < 140737488355328 then (spec_paChoose.l1 k x1 x5 x6 x8 (x9 ++ [rdOf false (rd_L4 x5 x8) (rd x20 x22)]) x14 x15 x16 x20 x21 (wrap64 (x22+1))) else (none)) else (none)) else (none)) else (none)) else (none)) else (none)) else (none)) else (if x6.length < 5864062014805 then (spec_paChoose.l0 k x1 x5 (x6 ++ [x9]) x14 x15 (wrap64 (x16+1))) else (none))
end
def spec_paChoose.f (k:Nat) (a0_0:Int) (l0_1:List (S80)) (l1:List Int):Option (Int × (List (S80))):=(spec_paTable.f k a0_0 l0_1).bind fun t696=>(spec_paChoose.l0 k l1 t696 ([]:List (List Bool)) l1 (l1.length:Int) 0)
theorem spec_paChoose.mono_l:∀ k,(∀ y0 y1 y2 y3 y4 y5,LeO (spec_paChoose.l0 k y0 y1 y2 y3 y4 y5) (spec_paChoose.l0 (k+1) y0 y1 y2 y3 y4 y5))∧(∀ y0 y1 y2 y3 y4 y5 y6 y7 y8 y9 y10,LeO (spec_paChoose.l1 k y0 y1 y2 y3 y4 y5 y6 y7 y8 y9 y10) (spec_paChoose.l1 (k+1) y0 y1 y2 y3 y4 y5 y6 y7 y8 y9 y10))
 | 0=>⟨fun _ _ _ _ _ _ r h=>by simp [spec_paChoose.l0] at h,fun _ _ _ _ _ _ _ _ _ _ _ r h=>by simp [spec_paChoose.l1] at h⟩
 | k+1=>by
  obtain ⟨ih0,ih1⟩:=spec_paChoose.mono_l k
  refine ⟨?_,?_⟩
  ·intro y0 y1 y2 y3 y4 y5
   unfold spec_paChoose.l0
   repeat' first
   | (with_reducible exact ih0 _ _ _ _ _ _)
   | (with_reducible exact ih1 _ _ _ _ _ _ _ _ _ _ _)
   | (with_reducible exact spec_paOf.mono _ _)
   | (with_reducible exact spec_paTable.mono _ _ _)
   | (with_reducible exact LeO.refl _)
   | (with_reducible exact LeO.none _)
   | (with_reducible refine LeO.ite ?_ ?_)
   | (with_reducible refine LeO.bind ?_ (fun _=>?_))
   | exact ih0 _ _ _ _ _ _
   | exact ih1 _ _ _ _ _ _ _ _ _ _ _
   | exact spec_paOf.mono _ _
   | exact spec_paTable.mono _ _ _
   | exact LeO.none _
   | refine LeO.ite ?_ ?_
   | refine LeO.bind ?_ (fun _=>?_)
  ·intro y0 y1 y2 y3 y4 y5 y6 y7 y8 y9 y10
   unfold spec_paChoose.l1
   repeat' first
   | (with_reducible exact ih0 _ _ _ _ _ _)
   | (with_reducible exact ih1 _ _ _ _ _ _ _ _ _ _ _)
   | (with_reducible exact spec_paOf.mono _ _)
   | (with_reducible exact spec_paTable.mono _ _ _)
   | (with_reducible exact LeO.refl _)
   | (with_reducible exact LeO.none _)
   | (with_reducible refine LeO.ite ?_ ?_)
   | (with_reducible refine LeO.bind ?_ (fun _=>?_))
   | exact ih0 _ _ _ _ _ _
   | exact ih1 _ _ _ _ _ _ _ _ _ _ _
   | exact spec_paOf.mono _ _
   | exact spec_paTable.mono _ _ _
   | exact LeO.none _
   | refine LeO.ite ?_ ?_
   | refine LeO.bind ?_ (fun _=>?_)
theorem spec_paChoose.mono:∀ a0 a1 a2 k,LeO (spec_paChoose.f k a0 a1 a2) (spec_paChoose.f (k+1) a0 a1 a2):=by
 intro a0 a1 a2 k
 obtain ⟨ih0,ih1⟩:=spec_paChoose.mono_l k
 unfold spec_paChoose.f
 repeat' first
   | (with_reducible exact ih0 _ _ _ _ _ _)
   | (with_reducible exact ih1 _ _ _ _ _ _ _ _ _ _ _)
   | (with_reducible exact spec_paOf.mono _ _)
   | (with_reducible exact spec_paTable.mono _ _ _)
   | (with_reducible exact LeO.refl _)
   | (with_reducible exact LeO.none _)
   | (with_reducible refine LeO.ite ?_ ?_)
   | (with_reducible refine LeO.bind ?_ (fun _=>?_))
   | exact ih0 _ _ _ _ _ _
   | exact ih1 _ _ _ _ _ _ _ _ _ _ _
   | exact spec_paOf.mono _ _
   | exact spec_paTable.mono _ _ _
   | exact LeO.none _
   | refine LeO.ite ?_ ?_
   | refine LeO.bind ?_ (fun _=>?_)
set_option maxHeartbeats 8000000 in
set_option maxRecDepth 100000 in
theorem spec_paChoose.calls (k:Nat) (a0_0:Int) (A0_1:Option Addr) (c0_1:Nat) (l0_1:List (S80)) (A1:Option Addr) (c1:Nat) (l1:List Int) (r1:Int) (r2:List (S80)) (w:World) (hr0_1:Kd.C k80 w A0_1 l0_1.length l0_1) (hc0_1:l0_1.length≤c0_1) (hr1:Kd.C (Kd.int .i64) w A1 l1.length l1) (hc1:l1.length≤c1) (h:spec_paChoose.f k a0_0 l0_1 l1=some (r1,r2)) :
  Calls Try.prog 76 #[.agg #[.int .i64 a0_0,.slice A0_1 l0_1.length c0_1],.slice A1 l1.length c1] w fun e w'=>∃ v1_:Value,e=.returned (.agg #[.int .i64 r1,v1_])∧Kd.R k80 80 w' w.heap.size (fun _=>True) v1_ r2∧Below w.heap.size w w':=by
 have hu30:=Try.underlying30
 have HR0_1:=zz31 hr0_1
 have HC0_1:=zz31 hc0_1
 clear hr0_1 hc0_1
 have HR1:=zz31 hr1
 have HC1:=zz31 hc1
 clear hr1 hc1
 have HB:=zz31 (Below.refl w.heap.size w)
 have H:((spec_paTable.f k a0_0 l0_1).bind fun t696=>(spec_paChoose.l0 k l1 t696 ([]:List (List Bool)) l1 (l1.length:Int) 0))=some (r1,r2):=h
 clear h
 replace H:=zz30.mp H
 obtain ⟨t696,A30,H⟩:=H
 replace H:(spec_paChoose.l0 k l1 t696 ([]:List (List Bool)) l1 (l1.length:Int) 0)=some (r1,r2):=H
 have A3:=zz31 A30
 clear A30
 have H':=zz31 H
 clear H
 go_enter Try.func76,Try.ntmps76
 go_wp2_with (first | ((with_reducible refine gate_dst (N:=2) rfl ?_);refine box_event ?hg (N:=2) ?hd (cs:=#[.int .i64 a0_0,.slice A0_1 l0_1.length c0_1]) (t:=30) ?hr ?_;(case hd=>rfl);(case hg=>rfl);(case hr=>first | (go_simp;done) | (go_simp;rfl));intro gb694 hg w4 hbox hb;have n0_:=zz31 (zz4 (by repeat first | exact HB.out | apply zz2 | apply zz0 | apply zz1) hb);have n1_:=zz31 (hbox);have n2_:=zz31 ((by rw [hg];exact (zz5 (by repeat first | exact HB.out | apply zz2 | apply zz0 | apply zz1)):w.heap.size≤gb694));have n3_:=zz31 ((by rw [hg];exact (zz5 (by repeat first | exact HB.out | apply zz2 | apply zz0 | apply zz1)):w.heap.size≤gb694));clear HB;have HB:=n0_;have BK694:=n1_;have GW694:=n2_;have GE694:=n3_;clear n0_ n1_ n2_ n3_;clear hb hbox hg) | ((with_reducible refine gate_dst (N:=4) rfl ?_);refine box_event ?hg (N:=4) ?hd (cs:=#[.int .i64 0,.slice none 0 0]) (t:=30) ?hr ?_;(case hd=>rfl);(case hg=>rfl);(case hr=>first | (go_simp;done) | (go_simp;rfl));intro gb695 hg w5 hbox hb;have n0_:=zz31 (zz11 (g:=gb694) (o:=.cells #[.int .i64 a0_0,.slice A0_1 l0_1.length c0_1] 30 (0,0)) (by (with_reducible repeat (first | refine zz6 ?_ _ | refine zz7 ?_ | refine zz8 ?_ _));exact BK694.out) hb);have n1_:=zz31 (zz4 (by repeat first | exact HB.out | apply zz2 | apply zz0 | apply zz1 | refine zz3 ?_ GE694.out) hb);have n2_:=zz31 (hbox);have n3_:=zz31 ((by rw [hg];exact (zz5 (by repeat first | exact HB.out | apply zz2 | apply zz0 | apply zz1 | refine zz3 ?_ GE694.out)):w.heap.size≤gb695));have n4_:=zz31 ((by rw [hg];exact (zz5 (by repeat first | exact HB.out | apply zz2 | apply zz0 | apply zz1 | refine zz3 ?_ GE694.out)):w.heap.size≤gb695));have n5_:=zz31 ((by rw [hg];exact Nat.ne_of_lt (blk_lt (g:=gb694) (o:=.cells #[.int .i64 a0_0,.slice A0_1 l0_1.length c0_1] 30 (0,0)) (by (with_reducible repeat (first | refine zz6 ?_ _ | refine zz7 ?_ | refine zz8 ?_ _));exact BK694.out)):gb694 ≠ gb695));have n6_:=zz31 ((by rw [hg];exact Nat.ne_of_gt (blk_lt (g:=gb694) (o:=.cells #[.int .i64 a0_0,.slice A0_1 l0_1.length c0_1] 30 (0,0)) (by (with_reducible repeat (first | refine zz6 ?_ _ | refine zz7 ?_ | refine zz8 ?_ _));exact BK694.out)):gb695 ≠ gb694));clear BK694;clear HB;have BK694:=n0_;have HB:=n1_;have BK695:=n2_;have GW695:=n3_;have GE695:=n4_;have NB694_695:=n5_;have NB695_694:=n6_;clear n0_ n1_ n2_ n3_ n4_ n5_ n6_;clear hb hbox hg;have hnb6:=NB694_695.out;have hnc6:=NB695_694.out;have hcz7_0:w5.cell? ⟨gb694,0,none⟩=some (.int .i64 a0_0):=(zz9 BK694.out 0).trans rfl;have hcz7_1:w5.cell? ⟨gb694,1,none⟩=some (.slice A0_1 l0_1.length c0_1):=(zz9 BK694.out 1).trans rfl;have hfz7_0:=zz10 BK694.out 0;have hfz7_1:=zz10 BK694.out 1) | ((with_reducible refine gate_callee (f:=53) rfl ?_);refine goesL_ (some 13) rfl rfl Try.func53 (by kernel_rfl) rfl #[.agg #[.int .i64 a0_0,.slice A0_1 l0_1.length c0_1]] rfl (by (try simp only [zz26,zz27,zz28]);first | done | rfl | (simp only [zz24,zz25];rfl)) ?_;(with_reducible refine (spec_paTable.calls k a0_0 _ _ l0_1 t696 _ ?side1 ?side2 A3.out).mono ?_);(case side1=>repeat (first | exact (Kd.C_below HR0_1.out HB.out) | (with_reducible refine zz18 ?_ _) | (with_reducible refine zz19 ?_ _) | (with_reducible refine zz20 ?_)));(case side2=>exact HC0_1.out);rintro e w8 ⟨v697,rfl,ho0,hb⟩;refine ⟨_,rfl,?_⟩;have n0_:=zz31 (Kd.S_lower ho0 (zz5 (by repeat first | exact HB.out | apply zz2 | apply zz0 | apply zz1 | refine zz3 ?_ GE694.out | refine zz3 ?_ GE695.out)));have n1_:=zz31 (zz11 (g:=gb694) (o:=.cells #[.int .i64 a0_0,.slice A0_1 l0_1.length c0_1] 30 (0,0)) (by (with_reducible repeat (first | refine zz6 ?_ _ | refine zz7 ?_ | refine zz8 ?_ _));exact BK694.out) hb);have n2_:=zz31 (zz11 (g:=gb695) (o:=.cells #[.int .i64 0,.slice none 0 0] 30 (0,0)) (by (with_reducible repeat (first | refine zz6 ?_ _ | refine zz7 ?_ | refine zz8 ?_ _));exact BK695.out) hb);have n3_:=zz31 (zz4 (by repeat first | exact HB.out | apply zz2 | apply zz0 | apply zz1 | refine zz3 ?_ GE694.out | refine zz3 ?_ GE695.out) hb);clear BK694;clear BK695;clear HB;have HO698:=n0_;have BK694:=n1_;have BK695:=n2_;have HB:=n3_;clear n0_ n1_ n2_ n3_;(try clear hb);(try clear hb2);(try clear hk);(try clear hi);(try clear ho0)))
 go_loopg [6,16] k (fun kq v6 v16 w'=>∃ (x6_1:List (List Bool)) (x16_1:Int),v16=.int .i64 x16_1∧Aside0 (spec_paChoose.l0 kq l1 t696 x6_1 l1 (l1.length:Int) x16_1=some (r1,r2))∧Aside0 (kq≤k)∧Aside0 (Kd.S (Kd.slice 4 Kd.bool) 92 w' w.heap.size (fun k_=>some k_ ≠ (v6:Value).ownBlock) v697 t696)∧Aside0 (Kd.S (Kd.slice 4 Kd.bool) 92 w' w.heap.size (fun k_=>some k_ ≠ (v697:Value).ownBlock) v6 x6_1)∧Aside0 (w'.heap[gb694]?=some (.cells #[.int .i64 a0_0,(.slice A0_1 l0_1.length c0_1)] 30 (0,0)))∧Aside0 (w'.heap[gb695]?=some (.cells #[.int .i64 0,(.slice none 0 0)] 30 (0,0)))∧Aside0 (Below w.heap.size w w'))
 case atStart=>exact ⟨(([]:List (List Bool))),(0),(by first | rfl | (simp;done) | (simp [*];done)),H',⟨Nat.le_refl _⟩,⟨by (with_reducible repeat (first | apply zz15 | apply zz16 | apply zz17));exact Kd.S_mono HO698.out (fun _ hk=>(by simp [Value.ownBlock]))⟩,⟨by first | exact Kd.S_nil _ _ _ _ _ | exact Kd.N_nil _ _ _ _ _ | exact Kd.V_nil _ _ _ _ _ | exact Kd.Q_nil _ _ _ _ _ | exact Kd.R_nil _ _ _ _ _⟩,⟨by (with_reducible repeat (first | refine zz6 ?_ _ | refine zz7 ?_ | refine zz8 ?_ _));exact BK694.out⟩,⟨by (with_reducible repeat (first | refine zz6 ?_ _ | refine zz7 ?_ | refine zz8 ?_ _));exact BK695.out⟩,⟨by repeat first | exact HB.out | apply zz2 | apply zz0 | apply zz1 | refine zz3 ?_ GE694.out | refine zz3 ?_ GE695.out⟩⟩
 case round =>
  clear H'
  try clear c1
  try clear p2
  try clear c5
  try clear c6
  try clear c7
  try clear hcz7_0
  try clear hcz7_1
  try clear hfz7_0
  try clear hfz7_1
  obtain ⟨x6_1,x16_1,rfl,HA,HK1,HO_5,HO_6,BK694,BK695,HB⟩:=hrel
  cases gk with
  | zero=>exact absurd HA.out (by simp [spec_paChoose.l0])
  | succ k1 =>
   have H:=HA.out
   clear HA
   simp only [spec_paChoose.l0] at H
   by_cases c9:x16_1 < (l1.length:Int)
   ·rw [if_pos c9] at H
    have c9b0:decide (x16_1 < (l1.length:Int))=true:=decide_eq_true c9
    clear c9
    by_cases c10:0≤x16_1
    ·rw [if_pos c10] at H
     have c10b0:decide (0≤x16_1)=true:=decide_eq_true c10
     clear c10
     by_cases c11:x16_1 < (l1.length:Int)
     ·rw [if_pos c11] at H
      have c11b0:decide (x16_1 < (l1.length:Int))=true:=decide_eq_true c11
      clear c11
      have H':=zz31 H
      clear H
      have p703:0≤(x16_1:Int):=zz29 (by first | (with_reducible assumption) | assumption)
      have q703:x16_1 < (l1.length:Int):=zz29 (by first | (with_reducible assumption) | assumption)
      obtain ⟨ad703,e703,hx703_0⟩:=Kd.at_int HR1.out x16_1 p703 q703
      cases e703
      replace hx703_0:=(HB.out.cell (World.block_lt_of_cell? w _ hx703_0)).trans hx703_0
      replace p703:=eq_true p703
      replace q703:=eq_true q703
      go_wp2
      go_loopg [9,22] k1 (fun kq v9 v22 w'=>∃ (x9_2:List Bool) (x22_2:Int),v22=.int .i64 x22_2∧Aside0 (spec_paChoose.l1 kq l1 t696 x6_1 (rd l1 x16_1) x9_2 l1 (l1.length:Int) x16_1 l1 (l1.length:Int) x22_2=some (r1,r2))∧Aside0 (kq≤k1)∧Aside0 (Kd.S (Kd.slice 4 Kd.bool) 92 w' w.heap.size (fun k_=>some k_ ≠ (u6:Value).ownBlock∧some k_ ≠ (v9:Value).ownBlock) v697 t696)∧Aside0 (Kd.S (Kd.slice 4 Kd.bool) 92 w' w.heap.size (fun k_=>some k_ ≠ (v697:Value).ownBlock∧some k_ ≠ (v9:Value).ownBlock) u6 x6_1)∧Aside0 (Kd.R Kd.bool 4 w' w.heap.size (fun _=>True) v9 x9_2)∧Aside0 (w'.heap[gb694]?=some (.cells #[.int .i64 a0_0,(.slice A0_1 l0_1.length c0_1)] 30 (0,0)))∧Aside0 (w'.heap[gb695]?=some (.cells #[.int .i64 0,(.slice none 0 0)] 30 (0,0)))∧Aside0 (Below w.heap.size w w'))
      case atStart=>exact ⟨(([]:List Bool)),(0),(by first | rfl | (simp;done) | (simp [*];done)),H',⟨Nat.le_refl _⟩,⟨by (with_reducible repeat (first | apply zz15 | apply zz16 | apply zz17));exact Kd.S_mono HO_5.out (fun _ hk=>⟨hk,(by simp [Value.ownBlock])⟩)⟩,⟨by (with_reducible repeat (first | apply zz15 | apply zz16 | apply zz17));exact Kd.S_mono HO_6.out (fun _ hk=>⟨hk,(by simp [Value.ownBlock])⟩)⟩,⟨by first | exact Kd.R_nil _ _ _ _ _ | exact Kd.N_nil _ _ _ _ _ | exact Kd.V_nil _ _ _ _ _ | exact Kd.Q_nil _ _ _ _ _ | exact Kd.S_nil _ _ _ _ _⟩,⟨by (with_reducible repeat (first | refine zz6 ?_ _ | refine zz7 ?_ | refine zz8 ?_ _));exact BK694.out⟩,⟨by (with_reducible repeat (first | refine zz6 ?_ _ | refine zz7 ?_ | refine zz8 ?_ _));exact BK695.out⟩,⟨by repeat first | exact HB.out | apply zz2 | apply zz0 | apply zz1 | refine zz3 ?_ GE694.out | refine zz3 ?_ GE695.out⟩⟩
      case round =>
       clear H'
       try clear c1
       try clear p2
       try clear c5
       try clear c6
       try clear c7
       try clear p7
       try clear q7
       try clear hx7
       try clear c9
       try clear c9b0
       try clear c10
       try clear c10b0
       try clear c11
       try clear c11b0
       try clear hcz7_0
       try clear hcz7_1
       try clear hfz7_0
       try clear hfz7_1
       try clear hx703_0
       try clear p2
       try clear p703
       try clear q703
       obtain ⟨x9_2,x22_2,rfl,HA,HK2,HO_5,HO_6,HO_9,BK694,BK695,HB⟩:=hrel
       cases gk with
       | zero=>exact absurd HA.out (by simp [spec_paChoose.l1])
       | succ k2 =>
        have H:=HA.out
        clear HA
        simp only [spec_paChoose.l1] at H
        by_cases c12:x22_2 < (l1.length:Int)
        ·rw [if_pos c12] at H
         have c12b0:decide (x22_2 < (l1.length:Int))=true:=decide_eq_true c12
         clear c12
         by_cases c13:0≤x22_2
         ·rw [if_pos c13] at H
          have c13b0:decide (0≤x22_2)=true:=decide_eq_true c13
          clear c13
          by_cases c14:x22_2 < (l1.length:Int)
          ·rw [if_pos c14] at H
           have c14b0:decide (x22_2 < (l1.length:Int))=true:=decide_eq_true c14
           clear c14
           by_cases c15:0≤(rd l1 x16_1)
           ·rw [if_pos c15] at H
            have c15b0:decide (0≤(rd l1 x16_1))=true:=decide_eq_true c15
            clear c15
            by_cases c16:(rd l1 x16_1) < (t696.length:Int)
            ·rw [if_pos c16] at H
             have c16b0:decide ((rd l1 x16_1) < (t696.length:Int))=true:=decide_eq_true c16
             clear c16
             by_cases c17:0≤(rd l1 x22_2)
             ·rw [if_pos c17] at H
              have c17b0:decide (0≤(rd l1 x22_2))=true:=decide_eq_true c17
              clear c17
              by_cases c18:(rd l1 x22_2) < ((rd_L4 t696 (rd l1 x16_1)).length:Int)
              ·rw [if_pos c18] at H
               have c18b0:decide ((rd l1 x22_2) < ((rd_L4 t696 (rd l1 x16_1)).length:Int))=true:=decide_eq_true c18
               clear c18
               by_cases c19:x9_2.length < 140737488355328
               ·rw [if_pos c19] at H
                have LMc19:=zz31 c19
                clear c19
                obtain ⟨y707,hy707⟩:∃ y_:List Bool,y_=(x9_2 ++ [rdOf false (rd_L4 t696 (rd l1 x16_1)) (rd l1 x22_2)]):=⟨_,rfl⟩
                replace H:(spec_paChoose.l1 k2 l1 t696 x6_1 (rd l1 x16_1) y707 l1 (l1.length:Int) x16_1 l1 (l1.length:Int) (wrap64 (x22_2+1)))=some (r1,r2):=by first | (rw [hy707];with_reducible exact H) | (have H2_:=(Option.bind_some _ _).symm.trans H;rw [hy707];with_reducible exact H2_) | (have H2_:=(Option.bind_some _ _).symm.trans H;with_reducible exact H2_) | with_reducible exact H | (rw [hy707];exact H) | exact H
                have Ny707:=zz31 hy707
                clear hy707
                have H':=zz31 H
                clear H
                have p704:0≤(x22_2:Int):=zz29 (by first | (with_reducible assumption) | assumption)
                have q704:x22_2 < (l1.length:Int):=zz29 (by first | (with_reducible assumption) | assumption)
                obtain ⟨ad704,e704,hx704_0⟩:=Kd.at_int HR1.out x22_2 p704 q704
                obtain rfl:ad703=ad704:=(by injection e704)
                replace hx704_0:=(HB.out.cell (World.block_lt_of_cell? w _ hx704_0)).trans hx704_0
                replace p704:=eq_true p704
                replace q704:=eq_true q704
                obtain ⟨Ao20,co20,eo20⟩:=Kd.S_slice HO_5.out
                subst eo20
                have p705:0≤((rd l1 x16_1):Int):=zz29 (by first | (with_reducible assumption) | assumption)
                have q705:(rd l1 x16_1) < (t696.length:Int):=zz29 (by first | (with_reducible assumption) | assumption)
                obtain ⟨ad705,A705_0,c705_0,e705,hx705_0,hl705_0,hi705_0⟩:=at_L4 (Kd.S_reads' HO_5.out).2.2 (rd l1 x16_1) p705 q705
                cases e705
                obtain ⟨ce705,hce705,hMe705,hcc705⟩:=Kd.S_get HO_5.out [] (rd l1 x16_1) p705 (by first | exact q705 | exact zz29 (by first | (with_reducible assumption) | assumption) | (have e_:=(Kd.S_reads' HO_5.out).1;omega))
                obtain ⟨ve705_0,rfl,ge705_0⟩:=hMe705
                have hv705_0:=hcc705 0 _ rfl
                rw [Nat.add_zero,show ((Kd.slice 4 Kd.bool)).sz=1 from rfl,Nat.mul_one] at hv705_0
                replace hv705_0:=Option.some.inj (hv705_0.symm.trans hx705_0)
                rw [hv705_0] at ge705_0
                have HL705_0:=zz31 (show Kd.R Kd.bool 4 _ _ _ _ (rd_L4 t696 (rd l1 x16_1)) from ge705_0)
                clear hv705_0 ge705_0
                clear hcc705 hce705
                have HR705_0:=zz31 hi705_0
                have HC705_0:=zz31 hl705_0
                clear hi705_0 hl705_0
                replace p705:=eq_true p705
                replace q705:=eq_true q705
                have p706:0≤((rd l1 x22_2):Int):=zz29 (by first | (with_reducible assumption) | assumption)
                have q706:(rd l1 x22_2) < ((rd_L4 t696 (rd l1 x16_1)).length:Int):=zz29 (by first | (with_reducible assumption) | assumption)
                obtain ⟨ad706,e706,hx706_0⟩:=Kd.at_bool (by repeat (first | (with_reducible exact HR705_0.out) | (with_reducible refine zz18 ?_ _) | (with_reducible refine zz19 ?_ _) | (with_reducible refine zz20 ?_) | exact HR705_0.out)) (rd l1 x22_2) p706 q706
                cases e706
                replace p706:=eq_true p706
                replace q706:=eq_true q706
                go_wp2_with (first | ((with_reducible refine gate_builtin (b:=.append) (xs:=#[.tmp 26,.tmp 34]) rfl ?_);at_builtin;refine Kd.R_append Kd.bool (w0:=w) w.heap.size rfl (.tmp 26) (.tmp 34) 92 4 (.bool false) 1 rfl Try.underlying92 info4 rfl (by decide) (by omega) u9 x9_2 (rdOf false (rd_L4 t696 (rd l1 x16_1)) (rd l1 x22_2)) [.bool (rdOf false (rd_L4 t696 (rd l1 x16_1)) (rd l1 x22_2))] (fun _=>True) (fun _=>False) rfl rfl ?aP (fun _ hk=>hk.elim) ?aF ?aO ?aB ?aS ?aL ?_;(case aP=>exact rfl);(case aB=>exact (by repeat first | exact HB.out | apply zz2 | apply zz0 | apply zz1 | refine zz3 ?_ GE694.out | refine zz3 ?_ GE695.out));(case aF=>exact (fun _ _=>trivial));(case aO=>exact (by (with_reducible repeat (first | apply zz12 | apply zz13 | apply zz14));exact HO_9.out));(case aS=>exact (zz5 (by repeat first | exact HB.out | apply zz2 | apply zz0 | apply zz1 | refine zz3 ?_ GE694.out | refine zz3 ?_ GE695.out)));(case aL=>have:=LMc19.out;omega);intro v708 w21 ho hb hg hat;rw [← Ny707.out] at ho;have n0_:=zz31 (Kd.S_after (ok:=(fun k_=>some k_ ≠ (u6:Value).ownBlock)) (by (with_reducible repeat (first | apply zz15 | apply zz16 | apply zz17));exact HO_5.out) hg hat);have n1_:=zz31 (Kd.S_after (ok:=(fun k_=>some k_ ≠ (.slice (some ad705) t696.length co20:Value).ownBlock)) (by (with_reducible repeat (first | apply zz15 | apply zz16 | apply zz17));exact HO_6.out) hg hat);have n2_:=zz31 (blk_grown (g:=gb694) (o:=.cells #[.int .i64 a0_0,.slice A0_1 l0_1.length c0_1] 30 (0,0)) (by (with_reducible repeat (first | refine zz6 ?_ _ | refine zz7 ?_ | refine zz8 ?_ _));exact BK694.out) hg (Kd.R_ne HO_9.out BK694.out (by decide)));have n3_:=zz31 (blk_grown (g:=gb695) (o:=.cells #[.int .i64 0,.slice none 0 0] 30 (0,0)) (by (with_reducible repeat (first | refine zz6 ?_ _ | refine zz7 ?_ | refine zz8 ?_ _));exact BK695.out) hg (Kd.R_ne HO_9.out BK695.out (by decide)));have n4_:=zz31 (Kd.R_after (ok:=(fun k_=>some k_ ≠ (.slice (some ad705) t696.length co20:Value).ownBlock∧some k_ ≠ (u6:Value).ownBlock)) (by (with_reducible repeat (first | apply zz12 | apply zz13 | apply zz14));exact Kd.R_mono HL705_0.out (fun _ hk=>⟨⟨hk.2,hk.1.1⟩,hk.1.2⟩)) hg hat);have n5_:=zz31 (hb);have n6_:=zz31 (ho);clear HO_5;clear HO_6;clear BK694;clear BK695;clear HL705_0;clear HB;clear HO_9;have HO_5:=n0_;have HO_6:=n1_;have BK694:=n2_;have BK695:=n3_;have HL705_0:=n4_;have HB:=n5_;have HO709:=n6_;clear n0_ n1_ n2_ n3_ n4_ n5_ n6_;clear ho hb hg hat))
                go_roundg k2
                case measure=>have:=HK1.out;have:=HK2.out;omega
                case rel=>exact ⟨(y707),(wrap64 (x22_2+1)),(by first | rfl | (simp;done) | (simp [*];done)),H',⟨by have:=HK1.out;have:=HK2.out;omega⟩,⟨by (with_reducible repeat (first | apply zz15 | apply zz16 | apply zz17));exact HO_5.out⟩,⟨by (with_reducible repeat (first | apply zz15 | apply zz16 | apply zz17));exact HO_6.out⟩,⟨by (with_reducible repeat (first | apply zz12 | apply zz13 | apply zz14));exact HO709.out⟩,⟨by (with_reducible repeat (first | refine zz6 ?_ _ | refine zz7 ?_ | refine zz8 ?_ _));exact BK694.out⟩,⟨by (with_reducible repeat (first | refine zz6 ?_ _ | refine zz7 ?_ | refine zz8 ?_ _));exact BK695.out⟩,⟨by repeat first | exact HB.out | apply zz2 | apply zz0 | apply zz1 | refine zz3 ?_ GE694.out | refine zz3 ?_ GE695.out⟩⟩
               ·rw [if_neg c19] at H
                exact absurd H (by simp)
              ·rw [if_neg c18] at H
               exact absurd H (by simp)
             ·rw [if_neg c17] at H
              exact absurd H (by simp)
            ·rw [if_neg c16] at H
             exact absurd H (by simp)
           ·rw [if_neg c15] at H
            exact absurd H (by simp)
          ·rw [if_neg c14] at H
           exact absurd H (by simp)
         ·rw [if_neg c13] at H
          exact absurd H (by simp)
        ·rw [if_neg c12] at H
         have c12b0:decide (x22_2 < (l1.length:Int))=false:=decide_eq_false c12
         clear c12
         by_cases c22:x6_1.length < 5864062014805
         ·rw [if_pos c22] at H
          have LMc22:=zz31 c22
          clear c22
          obtain ⟨y710,hy710⟩:∃ y_:List (List Bool),y_=(x6_1 ++ [x9_2]):=⟨_,rfl⟩
          replace H:(spec_paChoose.l0 k2 l1 t696 y710 l1 (l1.length:Int) (wrap64 (x16_1+1)))=some (r1,r2):=by first | (rw [hy710];with_reducible exact H) | (have H2_:=(Option.bind_some _ _).symm.trans H;rw [hy710];with_reducible exact H2_) | (have H2_:=(Option.bind_some _ _).symm.trans H;with_reducible exact H2_) | with_reducible exact H | (rw [hy710];exact H) | exact H
          have Ny710:=zz31 hy710
          clear hy710
          have H':=zz31 H
          clear H
          obtain ⟨Ao24,co24,eo24⟩:=Kd.R_slice HO_9.out
          subst eo24
          go_wp2_with (first | ((with_reducible refine gate_builtin (b:=.append) (xs:=#[.tmp 37,.tmp 39]) rfl ?_);at_builtin;refine Kd.S_append (Kd.slice 4 Kd.bool) (w0:=w) w.heap.size rfl (.tmp 37) (.tmp 39) 67 92 (.slice none 0 0) 24 rfl Try.underlying67 info92 rfl (by decide) (by omega) u6 x6_1 x9_2 [.slice Ao24 x9_2.length co24] (fun k_=>some k_ ≠ (v697:Value).ownBlock) (fun k_=>some k_=(.slice Ao24 x9_2.length co24:Value).ownBlock) rfl rfl ?aP (fun k_ hk_=>((Kd.R_mono (ok':=fun k_=>((fun k_=>some k_ ≠ (v697:Value).ownBlock)) k_∧some k_ ≠ (u6:Value).ownBlock) (Kd.R_apart' (Kd.R_apart' (HO_9.out) (Kd.S_typed HO_5.out) (by decide)) (Kd.S_typed HO_6.out) (by decide)) (fun k_ hk=>⟨hk.1.2,hk.2⟩))).1 k_ hk_.symm) ?aF ?aO ?aB ?aS ?aL ?_;(case aP=>exact Kd.M_row (Kd.R_mono (Kd.R_tight rfl (Kd.R_mono (ok':=fun k_=>((fun k_=>some k_ ≠ (v697:Value).ownBlock)) k_∧some k_ ≠ (u6:Value).ownBlock) (Kd.R_apart' (Kd.R_apart' (HO_9.out) (Kd.S_typed HO_5.out) (by decide)) (Kd.S_typed HO_6.out) (by decide)) (fun k_ hk=>⟨hk.1.2,hk.2⟩))) (fun _ h_=>h_)));(case aB=>exact (by repeat first | exact HB.out | apply zz2 | apply zz0 | apply zz1 | refine zz3 ?_ GE694.out | refine zz3 ?_ GE695.out));(case aF=>exact (fun k_ hk=>Kd.fresh' (Kd.S_lt (by (with_reducible repeat (first | apply zz15 | apply zz16 | apply zz17));exact HO_5.out)) k_ hk));(case aO=>exact (by (with_reducible repeat (first | apply zz15 | apply zz16 | apply zz17));exact Kd.S_mono HO_6.out (fun k_ hk=>⟨hk.1,fun e_=>hk.2 e_⟩)));(case aS=>exact (zz5 (by repeat first | exact HB.out | apply zz2 | apply zz0 | apply zz1 | refine zz3 ?_ GE694.out | refine zz3 ?_ GE695.out)));(case aL=>have:=LMc22.out;omega);intro v711 w23 ho hb hg hat;rw [← Ny710.out] at ho;have n0_:=zz31 (Kd.S_after (ok:=(fun k_=>some k_ ≠ (.slice Ao24 x9_2.length co24:Value).ownBlock)) (by (with_reducible repeat (first | apply zz15 | apply zz16 | apply zz17));exact Kd.S_mono HO_5.out (fun _ hk=>⟨hk.2,hk.1⟩)) hg hat);have n1_:=zz31 (blk_grown (g:=gb694) (o:=.cells #[.int .i64 a0_0,.slice A0_1 l0_1.length c0_1] 30 (0,0)) (by (with_reducible repeat (first | refine zz6 ?_ _ | refine zz7 ?_ | refine zz8 ?_ _));exact BK694.out) hg (Kd.S_ne HO_6.out BK694.out (by decide)));have n2_:=zz31 (blk_grown (g:=gb695) (o:=.cells #[.int .i64 0,.slice none 0 0] 30 (0,0)) (by (with_reducible repeat (first | refine zz6 ?_ _ | refine zz7 ?_ | refine zz8 ?_ _));exact BK695.out) hg (Kd.S_ne HO_6.out BK695.out (by decide)));have n3_:=zz31 (hb);have n4_:=zz31 (ho);clear HO_5;clear BK694;clear BK695;clear HB;clear HO_6;clear HO_9;have HO_5:=n0_;have BK694:=n1_;have BK695:=n2_;have HB:=n3_;have HO712:=n4_;clear n0_ n1_ n2_ n3_ n4_;clear ho hb hg hat))
          go_roundg k2
          case measure=>have:=HK1.out;have:=HK2.out;omega
          case rel=>exact ⟨(y710),(wrap64 (x16_1+1)),(by first | rfl | (simp;done) | (simp [*];done)),H',⟨by have:=HK1.out;have:=HK2.out;omega⟩,⟨by (with_reducible repeat (first | apply zz15 | apply zz16 | apply zz17));exact Kd.S_mono HO_5.out (fun _ hk=>hk.2)⟩,⟨by (with_reducible repeat (first | apply zz15 | apply zz16 | apply zz17));exact HO712.out⟩,⟨by (with_reducible repeat (first | refine zz6 ?_ _ | refine zz7 ?_ | refine zz8 ?_ _));exact BK694.out⟩,⟨by (with_reducible repeat (first | refine zz6 ?_ _ | refine zz7 ?_ | refine zz8 ?_ _));exact BK695.out⟩,⟨by repeat first | exact HB.out | apply zz2 | apply zz0 | apply zz1 | refine zz3 ?_ GE694.out | refine zz3 ?_ GE695.out⟩⟩
         ·rw [if_neg c22] at H
          exact absurd H (by simp)
     ·rw [if_neg c11] at H
      exact absurd H (by simp)
    ·rw [if_neg c10] at H
     exact absurd H (by simp)
   ·rw [if_neg c9] at H
    have c9b0:decide (x16_1 < (l1.length:Int))=false:=decide_eq_false c9
    clear c9
    replace H:=zz30.mp H
    obtain ⟨⟨t699,t700⟩,A250,H⟩:=H
    replace H:(some (t699,t700))=some (r1,r2):=H
    have A25:=zz31 A250
    clear A250
    simp only [Option.some.injEq,Prod.mk.injEq] at H
    obtain ⟨rfl,rfl⟩:=H
    obtain ⟨Ao26,co26,eo26⟩:=Kd.S_slice HO_6.out
    subst eo26
    go_wp2_with (first | ((with_reducible refine gate_callee (f:=87) rfl ?_);refine goesL_ (some 43) rfl rfl Try.func87 (by kernel_rfl) rfl #[.slice Ao26 x6_1.length co26] rfl (by (try simp only [zz26,zz27,zz28]);first | done | rfl | (simp only [zz24,zz25];rfl)) ?_;(with_reducible refine (spec_paOf.calls k1 _ _ x6_1 t699 t700 _ ?side1 ?side2 A25.out).mono ?_);(case side1=>repeat (first | exact (Kd.S_reads' HO_6.out).2.2 | (with_reducible refine zz18 ?_ _) | (with_reducible refine zz19 ?_ _) | (with_reducible refine zz20 ?_)));(case side2=>exact (Kd.S_reads' HO_6.out).2.1);rintro e w27 ⟨v701,rfl,ho0,hb⟩;refine ⟨_,rfl,?_⟩;have n0_:=zz31 (Kd.S_below (by (with_reducible repeat (first | apply zz15 | apply zz16 | apply zz17));exact HO_5.out) hb);have n1_:=zz31 (Kd.S_below (by (with_reducible repeat (first | apply zz15 | apply zz16 | apply zz17));exact HO_6.out) hb);have n2_:=zz31 (Kd.R_lower ho0 (zz5 (by repeat first | exact HB.out | apply zz2 | apply zz0 | apply zz1 | refine zz3 ?_ GE694.out | refine zz3 ?_ GE695.out)));have n3_:=zz31 (zz11 (g:=gb694) (o:=.cells #[.int .i64 a0_0,.slice A0_1 l0_1.length c0_1] 30 (0,0)) (by (with_reducible repeat (first | refine zz6 ?_ _ | refine zz7 ?_ | refine zz8 ?_ _));exact BK694.out) hb);have n4_:=zz31 (zz11 (g:=gb695) (o:=.cells #[.int .i64 0,.slice none 0 0] 30 (0,0)) (by (with_reducible repeat (first | refine zz6 ?_ _ | refine zz7 ?_ | refine zz8 ?_ _));exact BK695.out) hb);have n5_:=zz31 (zz4 (by repeat first | exact HB.out | apply zz2 | apply zz0 | apply zz1 | refine zz3 ?_ GE694.out | refine zz3 ?_ GE695.out) hb);clear HO_5;clear HO_6;clear BK694;clear BK695;clear HB;have HO_5:=n0_;have HO_6:=n1_;have HO702:=n2_;have BK694:=n3_;have BK695:=n4_;have HB:=n5_;clear n0_ n1_ n2_ n3_ n4_ n5_;(try clear hb);(try clear hb2);(try clear hk);(try clear hi);(try clear ho0);have hnb28:=NB695_694.out;have hnc28:=NB694_695.out;have hcz29_0:w27.cell? ⟨gb695,0,none⟩=some (.int .i64 0):=(zz9 BK695.out 0).trans rfl;have hcz29_1:w27.cell? ⟨gb695,1,none⟩=some (.slice none 0 0):=(zz9 BK695.out 1).trans rfl;have hfz29_0:=zz10 BK695.out 0;have hfz29_1:=zz10 BK695.out 1;obtain ⟨Ao30,co30,eo30⟩:=Kd.R_slice HO702.out;subst eo30))
    refine bodyPost_ret (results_cell_row rfl _ _ gb695 30 #[.int .i64 t699,.slice Ao30 t700.length co30] (0,0) _ rfl (by (with_reducible repeat (first | refine zz6 ?_ _ | refine zz7 ?_ | refine zz8 ?_ _));refine blk_put (cs:=#[.int .i64 t699,.slice none 0 0]) ?_ 1 _ rfl;(with_reducible repeat (first | refine zz6 ?_ _ | refine zz7 ?_ | refine zz8 ?_ _));refine blk_put (cs:=#[.int .i64 0,.slice none 0 0]) ?_ 0 _ rfl;(with_reducible repeat (first | refine zz6 ?_ _ | refine zz7 ?_ | refine zz8 ?_ _));exact BK695.out) Try.underlying30 rfl (by kernel_rfl)) rfl ?_
    exact ⟨_,by first | rfl | (simp [errW_none,errW_some] <;> rfl) | (simp [*,errW_none,errW_some] <;> rfl),by (with_reducible repeat (first | apply zz12 | apply zz13 | apply zz14));exact Kd.R_mono (Kd.R_far (p:=⟨gb695,1,none⟩) (Kd.R_far (p:=⟨gb695,0,none⟩) (Kd.R_types HO702.out BK695.out (by decide)) (fun _ hk=>hk.2) (.int .i64 t699)) (fun _ hk=>hk.2) (.slice Ao30 t700.length co30)) (fun _ hk=>trivial),by repeat first | exact HB.out | apply zz2 | apply zz0 | apply zz1 | refine zz3 ?_ GE694.out | refine zz3 ?_ GE695.out⟩

/-! ### spec_ChooseParty: function 38 -/
mutual
def spec_ChooseParty.j0:Nat→List Int→Bool→Int→List (S80)→Option (Int × (List (S80)) × Bool)
 | 0,_,_,_,_=>none
 | k+1,x1,x24,x714000,x714001=>if x24=true then (some (0,([]:List (S80)),false)) else (spec_ChooseParty.l0 k x1 1 x714000 x714001)
def spec_ChooseParty.l0:Nat→List Int→Int→Int→List (S80)→Option (Int × (List (S80)) × Bool)
 | 0,_,_,_,_=>none
 | k+1,x1,x6,x714000,x714001=>if x6 < (x1.length:Int) then (if 0≤(wrap64 (x6 - 1)) then (if (wrap64 (x6 - 1)) < (x1.length:Int) then (if 0≤x6 then (if (rd x1 (wrap64 (x6 - 1))) ≥ (rd x1 x6) then (some (0,([]:List (S80)),false)) else (spec_ChooseParty.l0 k x1 (wrap64 (x6+1)) x714000 x714001)) else (none)) else (none)) else (none)) else ((spec_paChoose.f k x714000 x714001 x1).bind fun bt719=>(some (bt719.1,bt719.2,true)))
end
def spec_ChooseParty.f (k:Nat) (a0_0:Int) (l0_1:List (S80)) (l1:List Int):Option (Int × (List (S80)) × Bool):=(spec_paGood.f k a0_0 l0_1).bind fun t715=>(if t715=true then (if (l1.length:Int) > a0_0 then (spec_ChooseParty.j0 k l1 true a0_0 l0_1) else ((spec_l1All.f k l1 0 (wrap64 (a0_0 - 1))).bind fun t716=>(spec_ChooseParty.j0 k l1 (!t716) a0_0 l0_1))) else (spec_ChooseParty.j0 k l1 true a0_0 l0_1))
theorem spec_ChooseParty.mono_l:∀ k,(∀ y0 y1 y2 y3,LeO (spec_ChooseParty.j0 k y0 y1 y2 y3) (spec_ChooseParty.j0 (k+1) y0 y1 y2 y3))∧(∀ y0 y1 y2 y3,LeO (spec_ChooseParty.l0 k y0 y1 y2 y3) (spec_ChooseParty.l0 (k+1) y0 y1 y2 y3))
 | 0=>⟨fun _ _ _ _ r h=>by simp [spec_ChooseParty.j0] at h,fun _ _ _ _ r h=>by simp [spec_ChooseParty.l0] at h⟩
 | k+1=>by
  obtain ⟨ih0,ih1⟩:=spec_ChooseParty.mono_l k
  refine ⟨?_,?_⟩
  ·intro y0 y1 y2 y3
   unfold spec_ChooseParty.j0
   repeat' first
   | (with_reducible exact ih0 _ _ _ _)
   | (with_reducible exact ih1 _ _ _ _)
   | (with_reducible exact spec_l1All.mono _ _ _ _)
   | (with_reducible exact spec_paChoose.mono _ _ _ _)
   | (with_reducible exact spec_paGood.mono _ _ _)
   | (with_reducible exact LeO.refl _)
   | (with_reducible exact LeO.none _)
   | (with_reducible refine LeO.ite ?_ ?_)
   | (with_reducible refine LeO.bind ?_ (fun _=>?_))
   | exact ih0 _ _ _ _
   | exact ih1 _ _ _ _
   | exact spec_l1All.mono _ _ _ _
   | exact spec_paChoose.mono _ _ _ _
   | exact spec_paGood.mono _ _ _
   | exact LeO.none _
   | refine LeO.ite ?_ ?_
   | refine LeO.bind ?_ (fun _=>?_)
  ·intro y0 y1 y2 y3
   unfold spec_ChooseParty.l0
   repeat' first
   | (with_reducible exact ih0 _ _ _ _)
   | (with_reducible exact ih1 _ _ _ _)
   | (with_reducible exact spec_l1All.mono _ _ _ _)
   | (with_reducible exact spec_paChoose.mono _ _ _ _)
   | (with_reducible exact spec_paGood.mono _ _ _)
   | (with_reducible exact LeO.refl _)
   | (with_reducible exact LeO.none _)
   | (with_reducible refine LeO.ite ?_ ?_)
   | (with_reducible refine LeO.bind ?_ (fun _=>?_))
   | exact ih0 _ _ _ _
   | exact ih1 _ _ _ _
   | exact spec_l1All.mono _ _ _ _
   | exact spec_paChoose.mono _ _ _ _
   | exact spec_paGood.mono _ _ _
   | exact LeO.none _
   | refine LeO.ite ?_ ?_
   | refine LeO.bind ?_ (fun _=>?_)
theorem spec_ChooseParty.mono:∀ a0 a1 a2 k,LeO (spec_ChooseParty.f k a0 a1 a2) (spec_ChooseParty.f (k+1) a0 a1 a2):=by
 intro a0 a1 a2 k
 obtain ⟨ih0,ih1⟩:=spec_ChooseParty.mono_l k
 unfold spec_ChooseParty.f
 repeat' first
   | (with_reducible exact ih0 _ _ _ _)
   | (with_reducible exact ih1 _ _ _ _)
   | (with_reducible exact spec_l1All.mono _ _ _ _)
   | (with_reducible exact spec_paChoose.mono _ _ _ _)
   | (with_reducible exact spec_paGood.mono _ _ _)
   | (with_reducible exact LeO.refl _)
   | (with_reducible exact LeO.none _)
   | (with_reducible refine LeO.ite ?_ ?_)
   | (with_reducible refine LeO.bind ?_ (fun _=>?_))
   | exact ih0 _ _ _ _
   | exact ih1 _ _ _ _
   | exact spec_l1All.mono _ _ _ _
   | exact spec_paChoose.mono _ _ _ _
   | exact spec_paGood.mono _ _ _
   | exact LeO.none _
   | refine LeO.ite ?_ ?_
   | refine LeO.bind ?_ (fun _=>?_)
set_option maxHeartbeats 8000000 in
set_option maxRecDepth 100000 in
theorem spec_ChooseParty.calls (k:Nat) (a0_0:Int) (A0_1:Option Addr) (c0_1:Nat) (l0_1:List (S80)) (A1:Option Addr) (c1:Nat) (l1:List Int) (r1:Int) (r2:List (S80)) (r3:Bool) (w:World) (hr0_1:Kd.C k80 w A0_1 l0_1.length l0_1) (hc0_1:l0_1.length≤c0_1) (hr1:Kd.C (Kd.int .i64) w A1 l1.length l1) (hc1:l1.length≤c1) (h:spec_ChooseParty.f k a0_0 l0_1 l1=some (r1,r2,r3)) :
  Calls Try.prog 38 #[.agg #[.int .i64 a0_0,.slice A0_1 l0_1.length c0_1],.slice A1 l1.length c1] w fun e w'=>∃ v1_:Value,e=.returned (.tuple #[.agg #[.int .i64 r1,v1_],.bool r3])∧Kd.R k80 80 w' w.heap.size (fun _=>True) v1_ r2∧Below w.heap.size w w':=by
 have hu30:=Try.underlying30
 have HR0_1:=zz31 hr0_1
 have HC0_1:=zz31 hc0_1
 clear hr0_1 hc0_1
 have HR1:=zz31 hr1
 have HC1:=zz31 hc1
 clear hr1 hc1
 have HB:=zz31 (Below.refl w.heap.size w)
 have H:((spec_paGood.f k a0_0 l0_1).bind fun t715=>(if t715=true then (if (l1.length:Int) > a0_0 then (spec_ChooseParty.j0 k l1 true a0_0 l0_1) else ((spec_l1All.f k l1 0 (wrap64 (a0_0 - 1))).bind fun t716=>(spec_ChooseParty.j0 k l1 (!t716) a0_0 l0_1))) else (spec_ChooseParty.j0 k l1 true a0_0 l0_1)))=some (r1,r2,r3):=h
 clear h
 have HC3:=zz31 H
 clear H
 go_enter Try.func38,Try.ntmps38
 go_upto_region 1 with (first | ((with_reducible refine gate_dst (N:=2) rfl ?_);(try (refine gate_guard (by rfl) ?_;dsimp only));refine box_event ?hg (N:=2) ?hd (cs:=#[.int .i64 a0_0,.slice A0_1 l0_1.length c0_1]) (t:=30) ?hr ?_;(case hd=>rfl);(case hg=>rfl);(case hr=>first | (go_simp;done) | (go_simp;rfl));intro gb713 hg w4 hbox hb;have n0_:=zz31 (zz4 (by repeat first | exact HB.out | apply zz2 | apply zz0 | apply zz1) hb);have n1_:=zz31 (hbox);have n2_:=zz31 ((by rw [hg];exact (zz5 (by repeat first | exact HB.out | apply zz2 | apply zz0 | apply zz1)):w.heap.size≤gb713));have n3_:=zz31 ((by rw [hg];exact (zz5 (by repeat first | exact HB.out | apply zz2 | apply zz0 | apply zz1)):w.heap.size≤gb713));clear HB;have HB:=n0_;have BK713:=n1_;have GW713:=n2_;have GE713:=n3_;clear n0_ n1_ n2_ n3_;clear hb hbox hg) | ((with_reducible refine gate_dst (N:=4) rfl ?_);(try (refine gate_guard (by rfl) ?_;dsimp only));refine box_event ?hg (N:=4) ?hd (cs:=#[.int .i64 0,.slice none 0 0]) (t:=30) ?hr ?_;(case hd=>rfl);(case hg=>rfl);(case hr=>first | (go_simp;done) | (go_simp;rfl));intro gb714 hg w5 hbox hb;have n0_:=zz31 (zz11 (g:=gb713) (o:=.cells #[.int .i64 a0_0,.slice A0_1 l0_1.length c0_1] 30 (0,0)) (by (with_reducible repeat (first | refine zz6 ?_ _ | refine zz7 ?_ | refine zz8 ?_ _));exact BK713.out) hb);have n1_:=zz31 (zz4 (by repeat first | exact HB.out | apply zz2 | apply zz0 | apply zz1 | refine zz3 ?_ GE713.out) hb);have n2_:=zz31 (hbox);have n3_:=zz31 ((by rw [hg];exact (zz5 (by repeat first | exact HB.out | apply zz2 | apply zz0 | apply zz1 | refine zz3 ?_ GE713.out)):w.heap.size≤gb714));have n4_:=zz31 ((by rw [hg];exact (zz5 (by repeat first | exact HB.out | apply zz2 | apply zz0 | apply zz1 | refine zz3 ?_ GE713.out)):w.heap.size≤gb714));have n5_:=zz31 ((by rw [hg];exact Nat.ne_of_lt (blk_lt (g:=gb713) (o:=.cells #[.int .i64 a0_0,.slice A0_1 l0_1.length c0_1] 30 (0,0)) (by (with_reducible repeat (first | refine zz6 ?_ _ | refine zz7 ?_ | refine zz8 ?_ _));exact BK713.out)):gb713 ≠ gb714));have n6_:=zz31 ((by rw [hg];exact Nat.ne_of_gt (blk_lt (g:=gb713) (o:=.cells #[.int .i64 a0_0,.slice A0_1 l0_1.length c0_1] 30 (0,0)) (by (with_reducible repeat (first | refine zz6 ?_ _ | refine zz7 ?_ | refine zz8 ?_ _));exact BK713.out)):gb714 ≠ gb713));clear BK713;clear HB;have BK713:=n0_;have HB:=n1_;have BK714:=n2_;have GW714:=n3_;have GE714:=n4_;have NB713_714:=n5_;have NB714_713:=n6_;clear n0_ n1_ n2_ n3_ n4_ n5_ n6_;clear hb hbox hg))
 repeat (go_quiet (first | ((with_reducible refine gate_dst (N:=2) rfl ?_);(try (refine gate_guard (by rfl) ?_;dsimp only));refine box_event ?hg (N:=2) ?hd (cs:=#[.int .i64 a0_0,.slice A0_1 l0_1.length c0_1]) (t:=30) ?hr ?_;(case hd=>rfl);(case hg=>rfl);(case hr=>first | (go_simp;done) | (go_simp;rfl));intro gb713 hg w4 hbox hb;have n0_:=zz31 (zz4 (by repeat first | exact HB.out | apply zz2 | apply zz0 | apply zz1) hb);have n1_:=zz31 (hbox);have n2_:=zz31 ((by rw [hg];exact (zz5 (by repeat first | exact HB.out | apply zz2 | apply zz0 | apply zz1)):w.heap.size≤gb713));have n3_:=zz31 ((by rw [hg];exact (zz5 (by repeat first | exact HB.out | apply zz2 | apply zz0 | apply zz1)):w.heap.size≤gb713));clear HB;have HB:=n0_;have BK713:=n1_;have GW713:=n2_;have GE713:=n3_;clear n0_ n1_ n2_ n3_;clear hb hbox hg) | ((with_reducible refine gate_dst (N:=4) rfl ?_);(try (refine gate_guard (by rfl) ?_;dsimp only));refine box_event ?hg (N:=4) ?hd (cs:=#[.int .i64 0,.slice none 0 0]) (t:=30) ?hr ?_;(case hd=>rfl);(case hg=>rfl);(case hr=>first | (go_simp;done) | (go_simp;rfl));intro gb714 hg w5 hbox hb;have n0_:=zz31 (zz11 (g:=gb713) (o:=.cells #[.int .i64 a0_0,.slice A0_1 l0_1.length c0_1] 30 (0,0)) (by (with_reducible repeat (first | refine zz6 ?_ _ | refine zz7 ?_ | refine zz8 ?_ _));exact BK713.out) hb);have n1_:=zz31 (zz4 (by repeat first | exact HB.out | apply zz2 | apply zz0 | apply zz1 | refine zz3 ?_ GE713.out) hb);have n2_:=zz31 (hbox);have n3_:=zz31 ((by rw [hg];exact (zz5 (by repeat first | exact HB.out | apply zz2 | apply zz0 | apply zz1 | refine zz3 ?_ GE713.out)):w.heap.size≤gb714));have n4_:=zz31 ((by rw [hg];exact (zz5 (by repeat first | exact HB.out | apply zz2 | apply zz0 | apply zz1 | refine zz3 ?_ GE713.out)):w.heap.size≤gb714));have n5_:=zz31 ((by rw [hg];exact Nat.ne_of_lt (blk_lt (g:=gb713) (o:=.cells #[.int .i64 a0_0,.slice A0_1 l0_1.length c0_1] 30 (0,0)) (by (with_reducible repeat (first | refine zz6 ?_ _ | refine zz7 ?_ | refine zz8 ?_ _));exact BK713.out)):gb713 ≠ gb714));have n6_:=zz31 ((by rw [hg];exact Nat.ne_of_gt (blk_lt (g:=gb713) (o:=.cells #[.int .i64 a0_0,.slice A0_1 l0_1.length c0_1] 30 (0,0)) (by (with_reducible repeat (first | refine zz6 ?_ _ | refine zz7 ?_ | refine zz8 ?_ _));exact BK713.out)):gb714 ≠ gb713));clear BK713;clear HB;have BK713:=n0_;have HB:=n1_;have BK714:=n2_;have GW714:=n3_;have GE714:=n4_;have NB713_714:=n5_;have NB714_713:=n6_;clear n0_ n1_ n2_ n3_ n4_ n5_ n6_;clear hb hbox hg));go_upto_region 1 with (first | ((with_reducible refine gate_dst (N:=2) rfl ?_);(try (refine gate_guard (by rfl) ?_;dsimp only));refine box_event ?hg (N:=2) ?hd (cs:=#[.int .i64 a0_0,.slice A0_1 l0_1.length c0_1]) (t:=30) ?hr ?_;(case hd=>rfl);(case hg=>rfl);(case hr=>first | (go_simp;done) | (go_simp;rfl));intro gb713 hg w4 hbox hb;have n0_:=zz31 (zz4 (by repeat first | exact HB.out | apply zz2 | apply zz0 | apply zz1) hb);have n1_:=zz31 (hbox);have n2_:=zz31 ((by rw [hg];exact (zz5 (by repeat first | exact HB.out | apply zz2 | apply zz0 | apply zz1)):w.heap.size≤gb713));have n3_:=zz31 ((by rw [hg];exact (zz5 (by repeat first | exact HB.out | apply zz2 | apply zz0 | apply zz1)):w.heap.size≤gb713));clear HB;have HB:=n0_;have BK713:=n1_;have GW713:=n2_;have GE713:=n3_;clear n0_ n1_ n2_ n3_;clear hb hbox hg) | ((with_reducible refine gate_dst (N:=4) rfl ?_);(try (refine gate_guard (by rfl) ?_;dsimp only));refine box_event ?hg (N:=4) ?hd (cs:=#[.int .i64 0,.slice none 0 0]) (t:=30) ?hr ?_;(case hd=>rfl);(case hg=>rfl);(case hr=>first | (go_simp;done) | (go_simp;rfl));intro gb714 hg w5 hbox hb;have n0_:=zz31 (zz11 (g:=gb713) (o:=.cells #[.int .i64 a0_0,.slice A0_1 l0_1.length c0_1] 30 (0,0)) (by (with_reducible repeat (first | refine zz6 ?_ _ | refine zz7 ?_ | refine zz8 ?_ _));exact BK713.out) hb);have n1_:=zz31 (zz4 (by repeat first | exact HB.out | apply zz2 | apply zz0 | apply zz1 | refine zz3 ?_ GE713.out) hb);have n2_:=zz31 (hbox);have n3_:=zz31 ((by rw [hg];exact (zz5 (by repeat first | exact HB.out | apply zz2 | apply zz0 | apply zz1 | refine zz3 ?_ GE713.out)):w.heap.size≤gb714));have n4_:=zz31 ((by rw [hg];exact (zz5 (by repeat first | exact HB.out | apply zz2 | apply zz0 | apply zz1 | refine zz3 ?_ GE713.out)):w.heap.size≤gb714));have n5_:=zz31 ((by rw [hg];exact Nat.ne_of_lt (blk_lt (g:=gb713) (o:=.cells #[.int .i64 a0_0,.slice A0_1 l0_1.length c0_1] 30 (0,0)) (by (with_reducible repeat (first | refine zz6 ?_ _ | refine zz7 ?_ | refine zz8 ?_ _));exact BK713.out)):gb713 ≠ gb714));have n6_:=zz31 ((by rw [hg];exact Nat.ne_of_gt (blk_lt (g:=gb713) (o:=.cells #[.int .i64 a0_0,.slice A0_1 l0_1.length c0_1] 30 (0,0)) (by (with_reducible repeat (first | refine zz6 ?_ _ | refine zz7 ?_ | refine zz8 ?_ _));exact BK713.out)):gb714 ≠ gb713));clear BK713;clear HB;have BK713:=n0_;have HB:=n1_;have BK714:=n2_;have GW714:=n3_;have GE714:=n4_;have NB713_714:=n5_;have NB714_713:=n6_;clear n0_ n1_ n2_ n3_ n4_ n5_ n6_;clear hb hbox hg)))
 (try simp only [Act.put,zz21,zz22,zz23])
 go_cut [24] (fun v24 wc=>∃ (kq:Nat) (x24_2:Bool),v24=.bool x24_2∧Aside0 (spec_ChooseParty.j0 kq l1 x24_2 a0_0 l0_1=some (r1,r2,r3))∧Aside0 (kq≤k)∧Aside0 (wc.heap[gb713]?=some (.cells #[.int .i64 a0_0,(.slice A0_1 l0_1.length c0_1)] 30 (0,0)))∧Aside0 (wc.heap[gb714]?=some (.cells #[.int .i64 0,(.slice none 0 0)] 30 (0,0)))∧Aside0 (Below w.heap.size w wc))
 case first =>
  have H:=HC3.out
  clear HC3
  replace H:=zz30.mp H
  obtain ⟨t715,A60,H⟩:=H
  replace H:(if t715=true then (if (l1.length:Int) > a0_0 then (spec_ChooseParty.j0 k l1 true a0_0 l0_1) else ((spec_l1All.f k l1 0 (wrap64 (a0_0 - 1))).bind fun t716=>(spec_ChooseParty.j0 k l1 (!t716) a0_0 l0_1))) else (spec_ChooseParty.j0 k l1 true a0_0 l0_1))=some (r1,r2,r3):=H
  have A6:=zz31 A60
  clear A60
  by_cases c7:t715=true
  ·subst c7
   have H1:(if (l1.length:Int) > a0_0 then (spec_ChooseParty.j0 k l1 true a0_0 l0_1) else ((spec_l1All.f k l1 0 (wrap64 (a0_0 - 1))).bind fun t716=>(spec_ChooseParty.j0 k l1 (!t716) a0_0 l0_1)))=some (r1,r2,r3):=by rw [if_pos rfl] at H;exact H
   clear H
   have H:=H1
   clear H1
   by_cases c8:(l1.length:Int) > a0_0
   ·rw [if_pos c8] at H
    have c8b0:decide (a0_0 < (l1.length:Int))=true:=decide_eq_true c8
    clear c8
    (first | rw [c8b0] | (simp only [i64_w,i32_w];rw [c8b0]) | skip)
    have H':=zz31 H
    clear H
    have hnb9:=NB713_714.out
    have hnc9:=NB714_713.out
    have hcz10_0:w5.cell? ⟨gb713,0,none⟩=some (.int .i64 a0_0):=(zz9 BK713.out 0).trans rfl
    have hcz10_1:w5.cell? ⟨gb713,1,none⟩=some (.slice A0_1 l0_1.length c0_1):=(zz9 BK713.out 1).trans rfl
    have hfz10_0:=zz10 BK713.out 0
    have hfz10_1:=zz10 BK713.out 1
    go_wp2_with (first | (go_at_call 42;(with_reducible refine (spec_paGood.calls k a0_0 _ _ l0_1 true _ ?side1 ?side2 A6.out).mono ?_);(case side1=>repeat (first | exact (Kd.C_below HR0_1.out HB.out) | (with_reducible refine zz18 ?_ _) | (with_reducible refine zz19 ?_ _) | (with_reducible refine zz20 ?_)));(case side2=>exact HC0_1.out);rintro e w11 ⟨rfl,hb⟩;have n0_:=zz31 (zz11 (g:=gb713) (o:=.cells #[.int .i64 a0_0,.slice A0_1 l0_1.length c0_1] 30 (0,0)) (by (with_reducible repeat (first | refine zz6 ?_ _ | refine zz7 ?_ | refine zz8 ?_ _));exact BK713.out) hb);have n1_:=zz31 (zz11 (g:=gb714) (o:=.cells #[.int .i64 0,.slice none 0 0] 30 (0,0)) (by (with_reducible repeat (first | refine zz6 ?_ _ | refine zz7 ?_ | refine zz8 ?_ _));exact BK714.out) hb);have n2_:=zz31 (zz4 (by repeat first | exact HB.out | apply zz2 | apply zz0 | apply zz1 | refine zz3 ?_ GE713.out | refine zz3 ?_ GE714.out) hb);clear BK713;clear BK714;clear HB;have BK713:=n0_;have BK714:=n1_;have HB:=n2_;clear n0_ n1_ n2_;(try clear hb);(try clear hb2);(try clear hk);(try clear hi);have hcz12_0:w11.cell? ⟨gb713,0,none⟩=some (.int .i64 a0_0):=(zz9 BK713.out 0).trans rfl;have hcz12_1:w11.cell? ⟨gb713,1,none⟩=some (.slice A0_1 l0_1.length c0_1):=(zz9 BK713.out 1).trans rfl;have hfz12_0:=zz10 BK713.out 0;have hfz12_1:=zz10 BK713.out 1))
    repeat (go_quiet (first | (go_at_call 42;(with_reducible refine (spec_paGood.calls k a0_0 _ _ l0_1 true _ ?side1 ?side2 A6.out).mono ?_);(case side1=>repeat (first | exact (Kd.C_below HR0_1.out HB.out) | (with_reducible refine zz18 ?_ _) | (with_reducible refine zz19 ?_ _) | (with_reducible refine zz20 ?_)));(case side2=>exact HC0_1.out);rintro e w11 ⟨rfl,hb⟩;have n0_:=zz31 (zz11 (g:=gb713) (o:=.cells #[.int .i64 a0_0,.slice A0_1 l0_1.length c0_1] 30 (0,0)) (by (with_reducible repeat (first | refine zz6 ?_ _ | refine zz7 ?_ | refine zz8 ?_ _));exact BK713.out) hb);have n1_:=zz31 (zz11 (g:=gb714) (o:=.cells #[.int .i64 0,.slice none 0 0] 30 (0,0)) (by (with_reducible repeat (first | refine zz6 ?_ _ | refine zz7 ?_ | refine zz8 ?_ _));exact BK714.out) hb);have n2_:=zz31 (zz4 (by repeat first | exact HB.out | apply zz2 | apply zz0 | apply zz1 | refine zz3 ?_ GE713.out | refine zz3 ?_ GE714.out) hb);clear BK713;clear BK714;clear HB;have BK713:=n0_;have BK714:=n1_;have HB:=n2_;clear n0_ n1_ n2_;(try clear hb);(try clear hb2);(try clear hk);(try clear hi);have hcz12_0:w11.cell? ⟨gb713,0,none⟩=some (.int .i64 a0_0):=(zz9 BK713.out 0).trans rfl;have hcz12_1:w11.cell? ⟨gb713,1,none⟩=some (.slice A0_1 l0_1.length c0_1):=(zz9 BK713.out 1).trans rfl;have hfz12_0:=zz10 BK713.out 0;have hfz12_1:=zz10 BK713.out 1));try go_wp2_with (first | (go_at_call 42;(with_reducible refine (spec_paGood.calls k a0_0 _ _ l0_1 true _ ?side1 ?side2 A6.out).mono ?_);(case side1=>repeat (first | exact (Kd.C_below HR0_1.out HB.out) | (with_reducible refine zz18 ?_ _) | (with_reducible refine zz19 ?_ _) | (with_reducible refine zz20 ?_)));(case side2=>exact HC0_1.out);rintro e w11 ⟨rfl,hb⟩;have n0_:=zz31 (zz11 (g:=gb713) (o:=.cells #[.int .i64 a0_0,.slice A0_1 l0_1.length c0_1] 30 (0,0)) (by (with_reducible repeat (first | refine zz6 ?_ _ | refine zz7 ?_ | refine zz8 ?_ _));exact BK713.out) hb);have n1_:=zz31 (zz11 (g:=gb714) (o:=.cells #[.int .i64 0,.slice none 0 0] 30 (0,0)) (by (with_reducible repeat (first | refine zz6 ?_ _ | refine zz7 ?_ | refine zz8 ?_ _));exact BK714.out) hb);have n2_:=zz31 (zz4 (by repeat first | exact HB.out | apply zz2 | apply zz0 | apply zz1 | refine zz3 ?_ GE713.out | refine zz3 ?_ GE714.out) hb);clear BK713;clear BK714;clear HB;have BK713:=n0_;have BK714:=n1_;have HB:=n2_;clear n0_ n1_ n2_;(try clear hb);(try clear hb2);(try clear hk);(try clear hi);have hcz12_0:w11.cell? ⟨gb713,0,none⟩=some (.int .i64 a0_0):=(zz9 BK713.out 0).trans rfl;have hcz12_1:w11.cell? ⟨gb713,1,none⟩=some (.slice A0_1 l0_1.length c0_1):=(zz9 BK713.out 1).trans rfl;have hfz12_0:=zz10 BK713.out 0;have hfz12_1:=zz10 BK713.out 1)))
    go_meet
    case rel=>exact ⟨_,(true),(by first | rfl | (simp;done) | (simp [*];done)),H',⟨by first | omega | exact Nat.le_refl _⟩,⟨by (with_reducible repeat (first | refine zz6 ?_ _ | refine zz7 ?_ | refine zz8 ?_ _));exact BK713.out⟩,⟨by (with_reducible repeat (first | refine zz6 ?_ _ | refine zz7 ?_ | refine zz8 ?_ _));exact BK714.out⟩,⟨by repeat first | exact HB.out | apply zz2 | apply zz0 | apply zz1 | refine zz3 ?_ GE713.out | refine zz3 ?_ GE714.out⟩⟩
   ·rw [if_neg c8] at H
    have c8b0:decide (a0_0 < (l1.length:Int))=false:=decide_eq_false c8
    clear c8
    (first | rw [c8b0] | (simp only [i64_w,i32_w];rw [c8b0]) | skip)
    replace H:=zz30.mp H
    obtain ⟨t716,A130,H⟩:=H
    replace H:(spec_ChooseParty.j0 k l1 (!t716) a0_0 l0_1)=some (r1,r2,r3):=H
    have A13:=zz31 A130
    clear A130
    have H':=zz31 H
    clear H
    have hnb14:=NB713_714.out
    have hnc14:=NB714_713.out
    have hcz15_0:w5.cell? ⟨gb713,0,none⟩=some (.int .i64 a0_0):=(zz9 BK713.out 0).trans rfl
    have hcz15_1:w5.cell? ⟨gb713,1,none⟩=some (.slice A0_1 l0_1.length c0_1):=(zz9 BK713.out 1).trans rfl
    have hfz15_0:=zz10 BK713.out 0
    have hfz15_1:=zz10 BK713.out 1
    go_wp2_with (first | (go_at_call 42;(with_reducible refine (spec_paGood.calls k a0_0 _ _ l0_1 true _ ?side1 ?side2 A6.out).mono ?_);(case side1=>repeat (first | exact (Kd.C_below HR0_1.out HB.out) | (with_reducible refine zz18 ?_ _) | (with_reducible refine zz19 ?_ _) | (with_reducible refine zz20 ?_)));(case side2=>exact HC0_1.out);rintro e w16 ⟨rfl,hb⟩;have n0_:=zz31 (zz11 (g:=gb713) (o:=.cells #[.int .i64 a0_0,.slice A0_1 l0_1.length c0_1] 30 (0,0)) (by (with_reducible repeat (first | refine zz6 ?_ _ | refine zz7 ?_ | refine zz8 ?_ _));exact BK713.out) hb);have n1_:=zz31 (zz11 (g:=gb714) (o:=.cells #[.int .i64 0,.slice none 0 0] 30 (0,0)) (by (with_reducible repeat (first | refine zz6 ?_ _ | refine zz7 ?_ | refine zz8 ?_ _));exact BK714.out) hb);have n2_:=zz31 (zz4 (by repeat first | exact HB.out | apply zz2 | apply zz0 | apply zz1 | refine zz3 ?_ GE713.out | refine zz3 ?_ GE714.out) hb);clear BK713;clear BK714;clear HB;have BK713:=n0_;have BK714:=n1_;have HB:=n2_;clear n0_ n1_ n2_;(try clear hb);(try clear hb2);(try clear hk);(try clear hi);have hcz17_0:w16.cell? ⟨gb713,0,none⟩=some (.int .i64 a0_0):=(zz9 BK713.out 0).trans rfl;have hcz17_1:w16.cell? ⟨gb713,1,none⟩=some (.slice A0_1 l0_1.length c0_1):=(zz9 BK713.out 1).trans rfl;have hfz17_0:=zz10 BK713.out 0;have hfz17_1:=zz10 BK713.out 1) | (go_at_call 75;(with_reducible refine (spec_l1All.calls k _ _ l1 0 (wrap64 (a0_0 - 1)) t716 _ ?side1 ?side2 A13.out).mono ?_);(case side1=>repeat (first | exact (Kd.C_below HR1.out HB.out) | (with_reducible refine zz18 ?_ _) | (with_reducible refine zz19 ?_ _) | (with_reducible refine zz20 ?_)));(case side2=>exact HC1.out);rintro e w' ⟨rfl,⟨nd,rfl⟩⟩;(try first | exact ⟨rfl,_,World.drewN_drewN _ _ _⟩ | exact ⟨rfl,_,Eq.trans (World.drewN_drewN _ _ _) (congrArg (World.drewN _) (Nat.add_assoc _ _ _))⟩)))
    repeat (go_quiet (first | (go_at_call 42;(with_reducible refine (spec_paGood.calls k a0_0 _ _ l0_1 true _ ?side1 ?side2 A6.out).mono ?_);(case side1=>repeat (first | exact (Kd.C_below HR0_1.out HB.out) | (with_reducible refine zz18 ?_ _) | (with_reducible refine zz19 ?_ _) | (with_reducible refine zz20 ?_)));(case side2=>exact HC0_1.out);rintro e w16 ⟨rfl,hb⟩;have n0_:=zz31 (zz11 (g:=gb713) (o:=.cells #[.int .i64 a0_0,.slice A0_1 l0_1.length c0_1] 30 (0,0)) (by (with_reducible repeat (first | refine zz6 ?_ _ | refine zz7 ?_ | refine zz8 ?_ _));exact BK713.out) hb);have n1_:=zz31 (zz11 (g:=gb714) (o:=.cells #[.int .i64 0,.slice none 0 0] 30 (0,0)) (by (with_reducible repeat (first | refine zz6 ?_ _ | refine zz7 ?_ | refine zz8 ?_ _));exact BK714.out) hb);have n2_:=zz31 (zz4 (by repeat first | exact HB.out | apply zz2 | apply zz0 | apply zz1 | refine zz3 ?_ GE713.out | refine zz3 ?_ GE714.out) hb);clear BK713;clear BK714;clear HB;have BK713:=n0_;have BK714:=n1_;have HB:=n2_;clear n0_ n1_ n2_;(try clear hb);(try clear hb2);(try clear hk);(try clear hi);have hcz17_0:w16.cell? ⟨gb713,0,none⟩=some (.int .i64 a0_0):=(zz9 BK713.out 0).trans rfl;have hcz17_1:w16.cell? ⟨gb713,1,none⟩=some (.slice A0_1 l0_1.length c0_1):=(zz9 BK713.out 1).trans rfl;have hfz17_0:=zz10 BK713.out 0;have hfz17_1:=zz10 BK713.out 1) | (go_at_call 75;(with_reducible refine (spec_l1All.calls k _ _ l1 0 (wrap64 (a0_0 - 1)) t716 _ ?side1 ?side2 A13.out).mono ?_);(case side1=>repeat (first | exact (Kd.C_below HR1.out HB.out) | (with_reducible refine zz18 ?_ _) | (with_reducible refine zz19 ?_ _) | (with_reducible refine zz20 ?_)));(case side2=>exact HC1.out);rintro e w' ⟨rfl,⟨nd,rfl⟩⟩;(try first | exact ⟨rfl,_,World.drewN_drewN _ _ _⟩ | exact ⟨rfl,_,Eq.trans (World.drewN_drewN _ _ _) (congrArg (World.drewN _) (Nat.add_assoc _ _ _))⟩)));try go_wp2_with (first | (go_at_call 42;(with_reducible refine (spec_paGood.calls k a0_0 _ _ l0_1 true _ ?side1 ?side2 A6.out).mono ?_);(case side1=>repeat (first | exact (Kd.C_below HR0_1.out HB.out) | (with_reducible refine zz18 ?_ _) | (with_reducible refine zz19 ?_ _) | (with_reducible refine zz20 ?_)));(case side2=>exact HC0_1.out);rintro e w16 ⟨rfl,hb⟩;have n0_:=zz31 (zz11 (g:=gb713) (o:=.cells #[.int .i64 a0_0,.slice A0_1 l0_1.length c0_1] 30 (0,0)) (by (with_reducible repeat (first | refine zz6 ?_ _ | refine zz7 ?_ | refine zz8 ?_ _));exact BK713.out) hb);have n1_:=zz31 (zz11 (g:=gb714) (o:=.cells #[.int .i64 0,.slice none 0 0] 30 (0,0)) (by (with_reducible repeat (first | refine zz6 ?_ _ | refine zz7 ?_ | refine zz8 ?_ _));exact BK714.out) hb);have n2_:=zz31 (zz4 (by repeat first | exact HB.out | apply zz2 | apply zz0 | apply zz1 | refine zz3 ?_ GE713.out | refine zz3 ?_ GE714.out) hb);clear BK713;clear BK714;clear HB;have BK713:=n0_;have BK714:=n1_;have HB:=n2_;clear n0_ n1_ n2_;(try clear hb);(try clear hb2);(try clear hk);(try clear hi);have hcz17_0:w16.cell? ⟨gb713,0,none⟩=some (.int .i64 a0_0):=(zz9 BK713.out 0).trans rfl;have hcz17_1:w16.cell? ⟨gb713,1,none⟩=some (.slice A0_1 l0_1.length c0_1):=(zz9 BK713.out 1).trans rfl;have hfz17_0:=zz10 BK713.out 0;have hfz17_1:=zz10 BK713.out 1) | (go_at_call 75;(with_reducible refine (spec_l1All.calls k _ _ l1 0 (wrap64 (a0_0 - 1)) t716 _ ?side1 ?side2 A13.out).mono ?_);(case side1=>repeat (first | exact (Kd.C_below HR1.out HB.out) | (with_reducible refine zz18 ?_ _) | (with_reducible refine zz19 ?_ _) | (with_reducible refine zz20 ?_)));(case side2=>exact HC1.out);rintro e w' ⟨rfl,⟨nd,rfl⟩⟩;(try first | exact ⟨rfl,_,World.drewN_drewN _ _ _⟩ | exact ⟨rfl,_,Eq.trans (World.drewN_drewN _ _ _) (congrArg (World.drewN _) (Nat.add_assoc _ _ _))⟩))))
    go_meet
    case rel=>exact ⟨_,(!t716),(by first | rfl | (simp;done) | (simp [*];done)),H',⟨by first | omega | exact Nat.le_refl _⟩,⟨by (with_reducible repeat (first | refine zz6 ?_ _ | refine zz7 ?_ | refine zz8 ?_ _));exact BK713.out⟩,⟨by (with_reducible repeat (first | refine zz6 ?_ _ | refine zz7 ?_ | refine zz8 ?_ _));exact BK714.out⟩,⟨by repeat first | exact HB.out | apply zz2 | apply zz0 | apply zz1 | refine zz3 ?_ GE713.out | refine zz3 ?_ GE714.out⟩⟩
  ·replace c7:=Bool.eq_false_iff.mpr c7
   subst c7
   have H1:(spec_ChooseParty.j0 k l1 true a0_0 l0_1)=some (r1,r2,r3):=by rw [if_neg (show ¬ (false=true) by decide)] at H;exact H
   clear H
   have H:=H1
   clear H1
   have H':=zz31 H
   clear H
   have hnb18:=NB713_714.out
   have hnc18:=NB714_713.out
   have hcz19_0:w5.cell? ⟨gb713,0,none⟩=some (.int .i64 a0_0):=(zz9 BK713.out 0).trans rfl
   have hcz19_1:w5.cell? ⟨gb713,1,none⟩=some (.slice A0_1 l0_1.length c0_1):=(zz9 BK713.out 1).trans rfl
   have hfz19_0:=zz10 BK713.out 0
   have hfz19_1:=zz10 BK713.out 1
   go_wp2_with (first | (go_at_call 42;(with_reducible refine (spec_paGood.calls k a0_0 _ _ l0_1 false _ ?side1 ?side2 A6.out).mono ?_);(case side1=>repeat (first | exact (Kd.C_below HR0_1.out HB.out) | (with_reducible refine zz18 ?_ _) | (with_reducible refine zz19 ?_ _) | (with_reducible refine zz20 ?_)));(case side2=>exact HC0_1.out);rintro e w20 ⟨rfl,hb⟩;have n0_:=zz31 (zz11 (g:=gb713) (o:=.cells #[.int .i64 a0_0,.slice A0_1 l0_1.length c0_1] 30 (0,0)) (by (with_reducible repeat (first | refine zz6 ?_ _ | refine zz7 ?_ | refine zz8 ?_ _));exact BK713.out) hb);have n1_:=zz31 (zz11 (g:=gb714) (o:=.cells #[.int .i64 0,.slice none 0 0] 30 (0,0)) (by (with_reducible repeat (first | refine zz6 ?_ _ | refine zz7 ?_ | refine zz8 ?_ _));exact BK714.out) hb);have n2_:=zz31 (zz4 (by repeat first | exact HB.out | apply zz2 | apply zz0 | apply zz1 | refine zz3 ?_ GE713.out | refine zz3 ?_ GE714.out) hb);clear BK713;clear BK714;clear HB;have BK713:=n0_;have BK714:=n1_;have HB:=n2_;clear n0_ n1_ n2_;(try clear hb);(try clear hb2);(try clear hk);(try clear hi)))
   repeat (go_quiet (first | (go_at_call 42;(with_reducible refine (spec_paGood.calls k a0_0 _ _ l0_1 false _ ?side1 ?side2 A6.out).mono ?_);(case side1=>repeat (first | exact (Kd.C_below HR0_1.out HB.out) | (with_reducible refine zz18 ?_ _) | (with_reducible refine zz19 ?_ _) | (with_reducible refine zz20 ?_)));(case side2=>exact HC0_1.out);rintro e w20 ⟨rfl,hb⟩;have n0_:=zz31 (zz11 (g:=gb713) (o:=.cells #[.int .i64 a0_0,.slice A0_1 l0_1.length c0_1] 30 (0,0)) (by (with_reducible repeat (first | refine zz6 ?_ _ | refine zz7 ?_ | refine zz8 ?_ _));exact BK713.out) hb);have n1_:=zz31 (zz11 (g:=gb714) (o:=.cells #[.int .i64 0,.slice none 0 0] 30 (0,0)) (by (with_reducible repeat (first | refine zz6 ?_ _ | refine zz7 ?_ | refine zz8 ?_ _));exact BK714.out) hb);have n2_:=zz31 (zz4 (by repeat first | exact HB.out | apply zz2 | apply zz0 | apply zz1 | refine zz3 ?_ GE713.out | refine zz3 ?_ GE714.out) hb);clear BK713;clear BK714;clear HB;have BK713:=n0_;have BK714:=n1_;have HB:=n2_;clear n0_ n1_ n2_;(try clear hb);(try clear hb2);(try clear hk);(try clear hi)));try go_wp2_with (first | (go_at_call 42;(with_reducible refine (spec_paGood.calls k a0_0 _ _ l0_1 false _ ?side1 ?side2 A6.out).mono ?_);(case side1=>repeat (first | exact (Kd.C_below HR0_1.out HB.out) | (with_reducible refine zz18 ?_ _) | (with_reducible refine zz19 ?_ _) | (with_reducible refine zz20 ?_)));(case side2=>exact HC0_1.out);rintro e w20 ⟨rfl,hb⟩;have n0_:=zz31 (zz11 (g:=gb713) (o:=.cells #[.int .i64 a0_0,.slice A0_1 l0_1.length c0_1] 30 (0,0)) (by (with_reducible repeat (first | refine zz6 ?_ _ | refine zz7 ?_ | refine zz8 ?_ _));exact BK713.out) hb);have n1_:=zz31 (zz11 (g:=gb714) (o:=.cells #[.int .i64 0,.slice none 0 0] 30 (0,0)) (by (with_reducible repeat (first | refine zz6 ?_ _ | refine zz7 ?_ | refine zz8 ?_ _));exact BK714.out) hb);have n2_:=zz31 (zz4 (by repeat first | exact HB.out | apply zz2 | apply zz0 | apply zz1 | refine zz3 ?_ GE713.out | refine zz3 ?_ GE714.out) hb);clear BK713;clear BK714;clear HB;have BK713:=n0_;have BK714:=n1_;have HB:=n2_;clear n0_ n1_ n2_;(try clear hb);(try clear hb2);(try clear hk);(try clear hi))))
   go_meet
   case rel=>exact ⟨_,(true),(by first | rfl | (simp;done) | (simp [*];done)),H',⟨by first | omega | exact Nat.le_refl _⟩,⟨by (with_reducible repeat (first | refine zz6 ?_ _ | refine zz7 ?_ | refine zz8 ?_ _));exact BK713.out⟩,⟨by (with_reducible repeat (first | refine zz6 ?_ _ | refine zz7 ?_ | refine zz8 ?_ _));exact BK714.out⟩,⟨by repeat first | exact HB.out | apply zz2 | apply zz0 | apply zz1 | refine zz3 ?_ GE713.out | refine zz3 ?_ GE714.out⟩⟩
 case rest =>
  clear HC3
  try clear c1
  try clear p2
  try clear c3
  try clear p6
  try clear c7
  try clear c8
  try clear c8b0
  try clear c9
  try clear c14
  try clear c18
  try clear hcz10_0
  try clear hcz10_1
  try clear hcz12_0
  try clear hcz12_1
  try clear hcz15_0
  try clear hcz15_1
  try clear hcz17_0
  try clear hcz17_1
  try clear hcz19_0
  try clear hcz19_1
  try clear hfz10_0
  try clear hfz10_1
  try clear hfz12_0
  try clear hfz12_1
  try clear hfz15_0
  try clear hfz15_1
  try clear hfz17_0
  try clear hfz17_1
  try clear hfz19_0
  try clear hfz19_1
  obtain ⟨kq,x24_2,rfl,HA,HJ2,BK713,BK714,HB⟩:=hcut
  cases kq with
  | zero=>exact absurd HA.out (by simp [spec_ChooseParty.j0])
  | succ kj2 =>
   have H:=HA.out
   clear HA
   simp only [spec_ChooseParty.j0] at H
   by_cases c21:x24_2=true
   ·subst c21
    have H1:(some (0,([]:List (S80)),false))=some (r1,r2,r3):=by rw [if_pos rfl] at H;exact H
    clear H
    have H:=H1
    clear H1
    simp only [Option.some.injEq,Prod.mk.injEq] at H
    obtain ⟨rfl,rfl,rfl⟩:=H
    have hnb22:=NB714_713.out
    have hnc22:=NB713_714.out
    have hcz23_0:wc.cell? ⟨gb714,0,none⟩=some (.int .i64 0):=(zz9 BK714.out 0).trans rfl
    have hcz23_1:wc.cell? ⟨gb714,1,none⟩=some (.slice none 0 0):=(zz9 BK714.out 1).trans rfl
    have hfz23_0:=zz10 BK714.out 0
    have hfz23_1:=zz10 BK714.out 1
    go_wp2
    repeat (go_quiet (fail);try go_wp2)
    refine bodyPost_ret (results_ct rfl _ _ gb714 30 #[.int .i64 0,.slice none 0 0] (0,0) _ rfl (by (with_reducible repeat (first | refine zz6 ?_ _ | refine zz7 ?_ | refine zz8 ?_ _));refine blk_put (cs:=#[.int .i64 0,.slice none 0 0]) ?_ 1 _ rfl;(with_reducible repeat (first | refine zz6 ?_ _ | refine zz7 ?_ | refine zz8 ?_ _));refine blk_put (cs:=#[.int .i64 0,.slice none 0 0]) ?_ 0 _ rfl;(with_reducible repeat (first | refine zz6 ?_ _ | refine zz7 ?_ | refine zz8 ?_ _));exact BK714.out) Try.underlying30 rfl (by kernel_rfl)) rfl ?_
    exact ⟨_,by first | rfl | (simp [errW_none,errW_some] <;> rfl) | (simp [*,errW_none,errW_some] <;> rfl),by first | exact Kd.R_nil _ _ _ _ _ | exact Kd.N_nil _ _ _ _ _ | exact Kd.V_nil _ _ _ _ _ | exact Kd.Q_nil _ _ _ _ _ | exact Kd.S_nil _ _ _ _ _,by repeat first | exact HB.out | apply zz2 | apply zz0 | apply zz1 | refine zz3 ?_ GE713.out | refine zz3 ?_ GE714.out⟩
   ·replace c21:=Bool.eq_false_iff.mpr c21
    subst c21
    have H1:(spec_ChooseParty.l0 kj2 l1 1 a0_0 l0_1)=some (r1,r2,r3):=by rw [if_neg (show ¬ (false=true) by decide)] at H;exact H
    clear H
    have H:=H1
    clear H1
    have H':=zz31 H
    clear H
    go_wp2
    repeat (go_quiet (fail);try go_wp2)
    go_loopg [6] kj2 (fun kq v6 w'=>∃ (x6_2:Int) (x715000_2:Int),v6=.int .i64 x6_2∧Aside0 (spec_ChooseParty.l0 kq l1 x6_2 a0_0 l0_1=some (r1,r2,r3))∧Aside0 (kq≤kj2)∧Aside0 (w'.heap[gb713]?=some (.cells #[.int .i64 a0_0,(.slice A0_1 l0_1.length c0_1)] 30 (0,0)))∧Aside0 (w'.heap[gb714]?=some (.cells #[.int .i64 x715000_2,(.slice none 0 0)] 30 (0,0)))∧Aside0 (Below w.heap.size w w'))
    case atStart=>exact ⟨(1),(0),(by first | rfl | (simp;done) | (simp [*];done)),H',⟨Nat.le_refl _⟩,⟨by (with_reducible repeat (first | refine zz6 ?_ _ | refine zz7 ?_ | refine zz8 ?_ _));exact BK713.out⟩,⟨by (with_reducible repeat (first | refine zz6 ?_ _ | refine zz7 ?_ | refine zz8 ?_ _));exact BK714.out⟩,⟨by repeat first | exact HB.out | apply zz2 | apply zz0 | apply zz1 | refine zz3 ?_ GE713.out | refine zz3 ?_ GE714.out⟩⟩
    case round =>
     clear H'
     try clear c1
     try clear c2
     try clear p2
     try clear c3
     try clear p6
     try clear c7
     try clear c8
     try clear c8b0
     try clear c9
     try clear c14
     try clear c18
     try clear c21
     try clear c22
     try clear hcz10_0
     try clear hcz10_1
     try clear hcz12_0
     try clear hcz12_1
     try clear hcz15_0
     try clear hcz15_1
     try clear hcz17_0
     try clear hcz17_1
     try clear hcz19_0
     try clear hcz19_1
     try clear hcz23_0
     try clear hcz23_1
     try clear hfz10_0
     try clear hfz10_1
     try clear hfz12_0
     try clear hfz12_1
     try clear hfz15_0
     try clear hfz15_1
     try clear hfz17_0
     try clear hfz17_1
     try clear hfz19_0
     try clear hfz19_1
     try clear hfz23_0
     try clear hfz23_1
     try clear p2
     try clear p6
     obtain ⟨x6_2,x715000_2,rfl,HA,HK2,BK713,BK714,HB⟩:=hrel
     cases gk with
     | zero=>exact absurd HA.out (by simp [spec_ChooseParty.l0])
     | succ k2 =>
      have H:=HA.out
      clear HA
      simp only [spec_ChooseParty.l0] at H
      by_cases c24:x6_2 < (l1.length:Int)
      ·rw [if_pos c24] at H
       have c24b0:decide (x6_2 < (l1.length:Int))=true:=decide_eq_true c24
       clear c24
       obtain ⟨ji25,hji25⟩:∃ j_:Int,(wrap64 (x6_2 - 1))=j_:=⟨_,rfl⟩
       replace H:(if 0≤(ji25) then (if (ji25) < (l1.length:Int) then (if 0≤x6_2 then (if (rd l1 (ji25)) ≥ (rd l1 x6_2) then (some (0,([]:List (S80)),false)) else (spec_ChooseParty.l0 k2 l1 (wrap64 (x6_2+1)) a0_0 l0_1)) else (none)) else (none)) else (none))=some (r1,r2,r3):=by first | (rw [hji25] at H;exact H) | (simp only [hji25] at H ⊢;exact H)
       have hji25w:(IntKind.i64.wrap (x6_2 - 1))=ji25:=(i64_w _).trans hji25
       by_cases c26:0≤(ji25)
       ·rw [if_pos c26] at H
        have c26b0:decide (0≤(ji25))=true:=decide_eq_true c26
        clear c26
        by_cases c27:(ji25) < (l1.length:Int)
        ·rw [if_pos c27] at H
         have c27b0:decide ((ji25) < (l1.length:Int))=true:=decide_eq_true c27
         clear c27
         by_cases c28:0≤x6_2
         ·rw [if_pos c28] at H
          have c28b0:decide (0≤x6_2)=true:=decide_eq_true c28
          clear c28
          by_cases c29:(rd l1 (ji25)) ≥ (rd l1 x6_2)
          ·rw [if_pos c29] at H
           have c29b0:decide ((rd l1 x6_2)≤(rd l1 (ji25)))=true:=decide_eq_true c29
           clear c29
           simp only [Option.some.injEq,Prod.mk.injEq] at H
           obtain ⟨rfl,rfl,rfl⟩:=H
           have p717:0≤((ji25):Int):=zz29 (by first | (with_reducible assumption) | assumption)
           have q717:(ji25) < (l1.length:Int):=zz29 (by first | (with_reducible assumption) | assumption)
           obtain ⟨ad717,e717,hx717_0⟩:=Kd.at_int HR1.out (ji25) p717 q717
           cases e717
           replace hx717_0:=(HB.out.cell (World.block_lt_of_cell? w _ hx717_0)).trans hx717_0
           replace p717:=eq_true p717
           replace q717:=eq_true q717
           have p718:0≤(x6_2:Int):=zz29 (by first | (with_reducible assumption) | assumption)
           have q718:x6_2 < (l1.length:Int):=zz29 (by first | (with_reducible assumption) | assumption)
           obtain ⟨ad718,e718,hx718_0⟩:=Kd.at_int HR1.out x6_2 p718 q718
           obtain rfl:ad717=ad718:=(by injection e718)
           replace hx718_0:=(HB.out.cell (World.block_lt_of_cell? w _ hx718_0)).trans hx718_0
           replace p718:=eq_true p718
           replace q718:=eq_true q718
           have hnb30:=NB714_713.out
           have hnc30:=NB713_714.out
           have hcz31_0:wr.cell? ⟨gb714,0,none⟩=some (.int .i64 x715000_2):=(zz9 BK714.out 0).trans rfl
           have hcz31_1:wr.cell? ⟨gb714,1,none⟩=some (.slice none 0 0):=(zz9 BK714.out 1).trans rfl
           have hfz31_0:=zz10 BK714.out 0
           have hfz31_1:=zz10 BK714.out 1
           go_wp2
           repeat (go_quiet (fail);try go_wp2)
           refine bodyPost_ret (results_ct rfl _ _ gb714 30 #[.int .i64 0,.slice none 0 0] (0,0) _ rfl (by (with_reducible repeat (first | refine zz6 ?_ _ | refine zz7 ?_ | refine zz8 ?_ _));refine blk_put (cs:=#[.int .i64 0,.slice none 0 0]) ?_ 1 _ rfl;(with_reducible repeat (first | refine zz6 ?_ _ | refine zz7 ?_ | refine zz8 ?_ _));refine blk_put (cs:=#[.int .i64 x715000_2,.slice none 0 0]) ?_ 0 _ rfl;(with_reducible repeat (first | refine zz6 ?_ _ | refine zz7 ?_ | refine zz8 ?_ _));exact BK714.out) Try.underlying30 rfl (by kernel_rfl)) rfl ?_
           exact ⟨_,by first | rfl | (simp [errW_none,errW_some] <;> rfl) | (simp only [← hji25];first | rfl | (simp [errW_none,errW_some] <;> rfl)) | (simp [*,errW_none,errW_some] <;> rfl),by first | exact Kd.R_nil _ _ _ _ _ | exact Kd.N_nil _ _ _ _ _ | exact Kd.V_nil _ _ _ _ _ | exact Kd.Q_nil _ _ _ _ _ | exact Kd.S_nil _ _ _ _ _,by repeat first | exact HB.out | apply zz2 | apply zz0 | apply zz1 | refine zz3 ?_ GE713.out | refine zz3 ?_ GE714.out⟩
          ·rw [if_neg c29] at H
           have c29b0:decide ((rd l1 x6_2)≤(rd l1 (ji25)))=false:=decide_eq_false c29
           clear c29
           have H':=zz31 H
           clear H
           have p717:0≤((ji25):Int):=zz29 (by first | (with_reducible assumption) | assumption)
           have q717:(ji25) < (l1.length:Int):=zz29 (by first | (with_reducible assumption) | assumption)
           obtain ⟨ad717,e717,hx717_0⟩:=Kd.at_int HR1.out (ji25) p717 q717
           cases e717
           replace hx717_0:=(HB.out.cell (World.block_lt_of_cell? w _ hx717_0)).trans hx717_0
           replace p717:=eq_true p717
           replace q717:=eq_true q717
           have p718:0≤(x6_2:Int):=zz29 (by first | (with_reducible assumption) | assumption)
           have q718:x6_2 < (l1.length:Int):=zz29 (by first | (with_reducible assumption) | assumption)
           obtain ⟨ad718,e718,hx718_0⟩:=Kd.at_int HR1.out x6_2 p718 q718
           obtain rfl:ad717=ad718:=(by injection e718)
           replace hx718_0:=(HB.out.cell (World.block_lt_of_cell? w _ hx718_0)).trans hx718_0
           replace p718:=eq_true p718
           replace q718:=eq_true q718
           go_wp2
           repeat (go_quiet (fail);try go_wp2)
           go_roundg k2
           case measure=>have:=HJ2.out;have:=HK2.out;omega
           case rel=>exact ⟨(wrap64 (x6_2+1)),(x715000_2),(by first | rfl | (simp;done) | (simp [*];done)),H',⟨by have:=HJ2.out;have:=HK2.out;omega⟩,⟨by (with_reducible repeat (first | refine zz6 ?_ _ | refine zz7 ?_ | refine zz8 ?_ _));exact BK713.out⟩,⟨by (with_reducible repeat (first | refine zz6 ?_ _ | refine zz7 ?_ | refine zz8 ?_ _));exact BK714.out⟩,⟨by repeat first | exact HB.out | apply zz2 | apply zz0 | apply zz1 | refine zz3 ?_ GE713.out | refine zz3 ?_ GE714.out⟩⟩
         ·rw [if_neg c28] at H
          exact absurd H (by simp)
        ·rw [if_neg c27] at H
         exact absurd H (by simp)
       ·rw [if_neg c26] at H
        exact absurd H (by simp)
      ·rw [if_neg c24] at H
       have c24b0:decide (x6_2 < (l1.length:Int))=false:=decide_eq_false c24
       clear c24
       replace H:=zz30.mp H
       obtain ⟨⟨t719,t720⟩,A320,H⟩:=H
       replace H:(some (t719,t720,true))=some (r1,r2,r3):=H
       have A32:=zz31 A320
       clear A320
       simp only [Option.some.injEq,Prod.mk.injEq] at H
       obtain ⟨rfl,rfl,rfl⟩:=H
       have hnb33:=NB713_714.out
       have hnc33:=NB714_713.out
       have hcz34_0:wr.cell? ⟨gb713,0,none⟩=some (.int .i64 a0_0):=(zz9 BK713.out 0).trans rfl
       have hcz34_1:wr.cell? ⟨gb713,1,none⟩=some (.slice A0_1 l0_1.length c0_1):=(zz9 BK713.out 1).trans rfl
       have hfz34_0:=zz10 BK713.out 0
       have hfz34_1:=zz10 BK713.out 1
       go_wp2_with (first | (go_at_call 76;(with_reducible refine (spec_paChoose.calls k2 a0_0 _ _ l0_1 _ _ l1 t719 t720 _ ?side1 ?side2 ?side3 ?side4 A32.out).mono ?_);(case side1=>repeat (first | exact (Kd.C_below HR0_1.out HB.out) | (with_reducible refine zz18 ?_ _) | (with_reducible refine zz19 ?_ _) | (with_reducible refine zz20 ?_)));(case side2=>exact HC0_1.out);(case side3=>repeat (first | exact (Kd.C_below HR1.out HB.out) | (with_reducible refine zz18 ?_ _) | (with_reducible refine zz19 ?_ _) | (with_reducible refine zz20 ?_)));(case side4=>exact HC1.out);rintro e w35 ⟨v721,rfl,ho0,hb⟩;have n0_:=zz31 (Kd.R_lower ho0 (zz5 (by repeat first | exact HB.out | apply zz2 | apply zz0 | apply zz1 | refine zz3 ?_ GE713.out | refine zz3 ?_ GE714.out)));have n1_:=zz31 (zz11 (g:=gb713) (o:=.cells #[.int .i64 a0_0,.slice A0_1 l0_1.length c0_1] 30 (0,0)) (by (with_reducible repeat (first | refine zz6 ?_ _ | refine zz7 ?_ | refine zz8 ?_ _));exact BK713.out) hb);have n2_:=zz31 (zz11 (g:=gb714) (o:=.cells #[.int .i64 x715000_2,.slice none 0 0] 30 (0,0)) (by (with_reducible repeat (first | refine zz6 ?_ _ | refine zz7 ?_ | refine zz8 ?_ _));exact BK714.out) hb);have n3_:=zz31 (zz4 (by repeat first | exact HB.out | apply zz2 | apply zz0 | apply zz1 | refine zz3 ?_ GE713.out | refine zz3 ?_ GE714.out) hb);clear BK713;clear BK714;clear HB;have HO722:=n0_;have BK713:=n1_;have BK714:=n2_;have HB:=n3_;clear n0_ n1_ n2_ n3_;(try clear hb);(try clear hb2);(try clear hk);(try clear hi);(try clear ho0);have hcz36_0:w35.cell? ⟨gb714,0,none⟩=some (.int .i64 x715000_2):=(zz9 BK714.out 0).trans rfl;have hcz36_1:w35.cell? ⟨gb714,1,none⟩=some (.slice none 0 0):=(zz9 BK714.out 1).trans rfl;have hfz36_0:=zz10 BK714.out 0;have hfz36_1:=zz10 BK714.out 1;obtain ⟨Ao37,co37,eo37⟩:=Kd.R_slice HO722.out;subst eo37))
       repeat (go_quiet (first | (go_at_call 76;(with_reducible refine (spec_paChoose.calls k2 a0_0 _ _ l0_1 _ _ l1 t719 t720 _ ?side1 ?side2 ?side3 ?side4 A32.out).mono ?_);(case side1=>repeat (first | exact (Kd.C_below HR0_1.out HB.out) | (with_reducible refine zz18 ?_ _) | (with_reducible refine zz19 ?_ _) | (with_reducible refine zz20 ?_)));(case side2=>exact HC0_1.out);(case side3=>repeat (first | exact (Kd.C_below HR1.out HB.out) | (with_reducible refine zz18 ?_ _) | (with_reducible refine zz19 ?_ _) | (with_reducible refine zz20 ?_)));(case side4=>exact HC1.out);rintro e w35 ⟨v721,rfl,ho0,hb⟩;have n0_:=zz31 (Kd.R_lower ho0 (zz5 (by repeat first | exact HB.out | apply zz2 | apply zz0 | apply zz1 | refine zz3 ?_ GE713.out | refine zz3 ?_ GE714.out)));have n1_:=zz31 (zz11 (g:=gb713) (o:=.cells #[.int .i64 a0_0,.slice A0_1 l0_1.length c0_1] 30 (0,0)) (by (with_reducible repeat (first | refine zz6 ?_ _ | refine zz7 ?_ | refine zz8 ?_ _));exact BK713.out) hb);have n2_:=zz31 (zz11 (g:=gb714) (o:=.cells #[.int .i64 x715000_2,.slice none 0 0] 30 (0,0)) (by (with_reducible repeat (first | refine zz6 ?_ _ | refine zz7 ?_ | refine zz8 ?_ _));exact BK714.out) hb);have n3_:=zz31 (zz4 (by repeat first | exact HB.out | apply zz2 | apply zz0 | apply zz1 | refine zz3 ?_ GE713.out | refine zz3 ?_ GE714.out) hb);clear BK713;clear BK714;clear HB;have HO722:=n0_;have BK713:=n1_;have BK714:=n2_;have HB:=n3_;clear n0_ n1_ n2_ n3_;(try clear hb);(try clear hb2);(try clear hk);(try clear hi);(try clear ho0);have hcz36_0:w35.cell? ⟨gb714,0,none⟩=some (.int .i64 x715000_2):=(zz9 BK714.out 0).trans rfl;have hcz36_1:w35.cell? ⟨gb714,1,none⟩=some (.slice none 0 0):=(zz9 BK714.out 1).trans rfl;have hfz36_0:=zz10 BK714.out 0;have hfz36_1:=zz10 BK714.out 1;obtain ⟨Ao37,co37,eo37⟩:=Kd.R_slice HO722.out;subst eo37));try go_wp2_with (first | (go_at_call 76;(with_reducible refine (spec_paChoose.calls k2 a0_0 _ _ l0_1 _ _ l1 t719 t720 _ ?side1 ?side2 ?side3 ?side4 A32.out).mono ?_);(case side1=>repeat (first | exact (Kd.C_below HR0_1.out HB.out) | (with_reducible refine zz18 ?_ _) | (with_reducible refine zz19 ?_ _) | (with_reducible refine zz20 ?_)));(case side2=>exact HC0_1.out);(case side3=>repeat (first | exact (Kd.C_below HR1.out HB.out) | (with_reducible refine zz18 ?_ _) | (with_reducible refine zz19 ?_ _) | (with_reducible refine zz20 ?_)));(case side4=>exact HC1.out);rintro e w35 ⟨v721,rfl,ho0,hb⟩;have n0_:=zz31 (Kd.R_lower ho0 (zz5 (by repeat first | exact HB.out | apply zz2 | apply zz0 | apply zz1 | refine zz3 ?_ GE713.out | refine zz3 ?_ GE714.out)));have n1_:=zz31 (zz11 (g:=gb713) (o:=.cells #[.int .i64 a0_0,.slice A0_1 l0_1.length c0_1] 30 (0,0)) (by (with_reducible repeat (first | refine zz6 ?_ _ | refine zz7 ?_ | refine zz8 ?_ _));exact BK713.out) hb);have n2_:=zz31 (zz11 (g:=gb714) (o:=.cells #[.int .i64 x715000_2,.slice none 0 0] 30 (0,0)) (by (with_reducible repeat (first | refine zz6 ?_ _ | refine zz7 ?_ | refine zz8 ?_ _));exact BK714.out) hb);have n3_:=zz31 (zz4 (by repeat first | exact HB.out | apply zz2 | apply zz0 | apply zz1 | refine zz3 ?_ GE713.out | refine zz3 ?_ GE714.out) hb);clear BK713;clear BK714;clear HB;have HO722:=n0_;have BK713:=n1_;have BK714:=n2_;have HB:=n3_;clear n0_ n1_ n2_ n3_;(try clear hb);(try clear hb2);(try clear hk);(try clear hi);(try clear ho0);have hcz36_0:w35.cell? ⟨gb714,0,none⟩=some (.int .i64 x715000_2):=(zz9 BK714.out 0).trans rfl;have hcz36_1:w35.cell? ⟨gb714,1,none⟩=some (.slice none 0 0):=(zz9 BK714.out 1).trans rfl;have hfz36_0:=zz10 BK714.out 0;have hfz36_1:=zz10 BK714.out 1;obtain ⟨Ao37,co37,eo37⟩:=Kd.R_slice HO722.out;subst eo37)))
       refine bodyPost_ret (results_ct rfl _ _ gb714 30 #[.int .i64 t719,.slice Ao37 t720.length co37] (0,0) _ rfl (by (with_reducible repeat (first | refine zz6 ?_ _ | refine zz7 ?_ | refine zz8 ?_ _));refine blk_put (cs:=#[.int .i64 t719,.slice none 0 0]) ?_ 1 _ rfl;(with_reducible repeat (first | refine zz6 ?_ _ | refine zz7 ?_ | refine zz8 ?_ _));refine blk_put (cs:=#[.int .i64 x715000_2,.slice none 0 0]) ?_ 0 _ rfl;(with_reducible repeat (first | refine zz6 ?_ _ | refine zz7 ?_ | refine zz8 ?_ _));exact BK714.out) Try.underlying30 rfl (by kernel_rfl)) rfl ?_
       exact ⟨_,by first | rfl | (simp [errW_none,errW_some] <;> rfl) | (simp [*,errW_none,errW_some] <;> rfl),by (with_reducible repeat (first | apply zz12 | apply zz13 | apply zz14));exact Kd.R_mono (Kd.R_far (p:=⟨gb714,1,none⟩) (Kd.R_far (p:=⟨gb714,0,none⟩) (Kd.R_types HO722.out BK714.out (by decide)) (fun _ hk=>hk.2) (.int .i64 t719)) (fun _ hk=>hk.2) (.slice Ao37 t720.length co37)) (fun _ hk=>trivial),by repeat first | exact HB.out | apply zz2 | apply zz0 | apply zz1 | refine zz3 ?_ GE713.out | refine zz3 ?_ GE714.out⟩

/-! ### impl_ChooseParty: function 39 -/
mutual
def impl_ChooseParty.j0:Nat→List Int→Bool→Int→List (S80)→Option (Int × (List (S80)) × Bool)
 | 0,_,_,_,_=>none
 | k+1,x1,x20,x724000,x724001=>if x20=true then (some (0,([]:List (S80)),false)) else ((impl_Party_table.f k x724000 x724001).bind fun t727=>(if 0≤(x1.length:Int) then (if ((x1.length:Int):Int).toNat≤140737488355328 then (impl_ChooseParty.l0 k x1 t727 (List.replicate ((x1.length:Int):Int).toNat 0) x1 (x1.length:Int) 0) else (none)) else (none)))
def impl_ChooseParty.l0:Nat→List Int→List Int→List Int→List Int→Int→Int→Option (Int × (List (S80)) × Bool)
 | 0,_,_,_,_,_,_=>none
 | k+1,x1,x6,x7,x27,x28,x29=>if x29 < x28 then (if 0≤x29 then (if x29 < (x27.length:Int) then (impl_ChooseParty.l1 k x1 x6 x7 x29 (rd x27 x29) x27 x28 x29 x1 (x1.length:Int) 0) else (none)) else (none)) else ((impl_table_party.f k x7).bind fun bt733=>(some (bt733.1,bt733.2,true)))
def impl_ChooseParty.l1:Nat→List Int→List Int→List Int→Int→Int→List Int→Int→Int→List Int→Int→Int→Option (Int × (List (S80)) × Bool)
 | 0,_,_,_,_,_,_,_,_,_,_,_=>none
 | k+1,x1,x6,x7,x8,x9,x27,x28,x29,x34,x35,x36=>if x36 < x35 then (if 0≤x36 then (if x36 < (x34.length:Int) then ((impl_table_has.f x6 x9 (rd x34 x36)).bind fun t739=>(if t739=true then ((impl_table_put.f x7 x8 x36).bind fun t740=>(impl_ChooseParty.l1 k x1 x6 t740 x8 x9 x27 x28 x29 x34 x35 (wrap64 (x36+1)))) else (impl_ChooseParty.l1 k x1 x6 x7 x8 x9 x27 x28 x29 x34 x35 (wrap64 (x36+1))))) else (none)) else (none)) else (impl_ChooseParty.l0 k x1 x6 x7 x27 x28 (wrap64 (x29+1)))
end
def impl_ChooseParty.f (k:Nat) (a0_0:Int) (l0_1:List (S80)) (l1:List Int):Option (Int × (List (S80)) × Bool):=(impl_arePeople.f k a0_0 l0_1 l1).bind fun t725=>(if t725=true then ((impl_isRising.f k l1).bind fun t726=>(impl_ChooseParty.j0 k l1 (!t726) a0_0 l0_1)) else (impl_ChooseParty.j0 k l1 true a0_0 l0_1))
theorem impl_ChooseParty.mono_l:∀ k,(∀ y0 y1 y2 y3,LeO (impl_ChooseParty.j0 k y0 y1 y2 y3) (impl_ChooseParty.j0 (k+1) y0 y1 y2 y3))∧(∀ y0 y1 y2 y3 y4 y5,LeO (impl_ChooseParty.l0 k y0 y1 y2 y3 y4 y5) (impl_ChooseParty.l0 (k+1) y0 y1 y2 y3 y4 y5))∧(∀ y0 y1 y2 y3 y4 y5 y6 y7 y8 y9 y10,LeO (impl_ChooseParty.l1 k y0 y1 y2 y3 y4 y5 y6 y7 y8 y9 y10) (impl_ChooseParty.l1 (k+1) y0 y1 y2 y3 y4 y5 y6 y7 y8 y9 y10))
 | 0=>⟨fun _ _ _ _ r h=>by simp [impl_ChooseParty.j0] at h,fun _ _ _ _ _ _ r h=>by simp [impl_ChooseParty.l0] at h,fun _ _ _ _ _ _ _ _ _ _ _ r h=>by simp [impl_ChooseParty.l1] at h⟩
 | k+1=>by
  obtain ⟨ih0,ih1,ih2⟩:=impl_ChooseParty.mono_l k
  refine ⟨?_,?_,?_⟩
  ·intro y0 y1 y2 y3
   unfold impl_ChooseParty.j0
   repeat' first
   | (with_reducible exact ih0 _ _ _ _)
   | (with_reducible exact ih1 _ _ _ _ _ _)
   | (with_reducible exact ih2 _ _ _ _ _ _ _ _ _ _ _)
   | (with_reducible exact impl_Party_table.mono _ _ _)
   | (with_reducible exact impl_arePeople.mono _ _ _ _)
   | (with_reducible exact impl_isRising.mono _ _)
   | (with_reducible exact impl_table_party.mono _ _)
   | (with_reducible exact LeO.refl _)
   | (with_reducible exact LeO.none _)
   | (with_reducible refine LeO.ite ?_ ?_)
   | (with_reducible refine LeO.bind ?_ (fun _=>?_))
   | exact ih0 _ _ _ _
   | exact ih1 _ _ _ _ _ _
   | exact ih2 _ _ _ _ _ _ _ _ _ _ _
   | exact impl_Party_table.mono _ _ _
   | exact impl_arePeople.mono _ _ _ _
   | exact impl_isRising.mono _ _
   | exact impl_table_party.mono _ _
   | exact LeO.none _
   | refine LeO.ite ?_ ?_
   | refine LeO.bind ?_ (fun _=>?_)
  ·intro y0 y1 y2 y3 y4 y5
   unfold impl_ChooseParty.l0
   repeat' first
   | (with_reducible exact ih0 _ _ _ _)
   | (with_reducible exact ih1 _ _ _ _ _ _)
   | (with_reducible exact ih2 _ _ _ _ _ _ _ _ _ _ _)
   | (with_reducible exact impl_Party_table.mono _ _ _)
   | (with_reducible exact impl_arePeople.mono _ _ _ _)
   | (with_reducible exact impl_isRising.mono _ _)
   | (with_reducible exact impl_table_party.mono _ _)
   | (with_reducible exact LeO.refl _)
   | (with_reducible exact LeO.none _)
   | (with_reducible refine LeO.ite ?_ ?_)
   | (with_reducible refine LeO.bind ?_ (fun _=>?_))
   | exact ih0 _ _ _ _
   | exact ih1 _ _ _ _ _ _
   | exact ih2 _ _ _ _ _ _ _ _ _ _ _
   | exact impl_Party_table.mono _ _ _
   | exact impl_arePeople.mono _ _ _ _
   | exact impl_isRising.mono _ _
   | exact impl_table_party.mono _ _
   | exact LeO.none _
   | refine LeO.ite ?_ ?_
   | refine LeO.bind ?_ (fun _=>?_)
  ·intro y0 y1 y2 y3 y4 y5 y6 y7 y8 y9 y10
   unfold impl_ChooseParty.l1
   repeat' first
   | (with_reducible exact ih0 _ _ _ _)
   | (with_reducible exact ih1 _ _ _ _ _ _)
   | (with_reducible exact ih2 _ _ _ _ _ _ _ _ _ _ _)
   | (with_reducible exact impl_Party_table.mono _ _ _)
   | (with_reducible exact impl_arePeople.mono _ _ _ _)
   | (with_reducible exact impl_isRising.mono _ _)
   | (with_reducible exact impl_table_party.mono _ _)
   | (with_reducible exact LeO.refl _)
   | (with_reducible exact LeO.none _)
   | (with_reducible refine LeO.ite ?_ ?_)
   | (with_reducible refine LeO.bind ?_ (fun _=>?_))
   | exact ih0 _ _ _ _
   | exact ih1 _ _ _ _ _ _
   | exact ih2 _ _ _ _ _ _ _ _ _ _ _
   | exact impl_Party_table.mono _ _ _
   | exact impl_arePeople.mono _ _ _ _
   | exact impl_isRising.mono _ _
   | exact impl_table_party.mono _ _
   | exact LeO.none _
   | refine LeO.ite ?_ ?_
   | refine LeO.bind ?_ (fun _=>?_)
theorem impl_ChooseParty.mono:∀ a0 a1 a2 k,LeO (impl_ChooseParty.f k a0 a1 a2) (impl_ChooseParty.f (k+1) a0 a1 a2):=by
 intro a0 a1 a2 k
 obtain ⟨ih0,ih1,ih2⟩:=impl_ChooseParty.mono_l k
 unfold impl_ChooseParty.f
 repeat' first
   | (with_reducible exact ih0 _ _ _ _)
   | (with_reducible exact ih1 _ _ _ _ _ _)
   | (with_reducible exact ih2 _ _ _ _ _ _ _ _ _ _ _)
   | (with_reducible exact impl_Party_table.mono _ _ _)
   | (with_reducible exact impl_arePeople.mono _ _ _ _)
   | (with_reducible exact impl_isRising.mono _ _)
   | (with_reducible exact impl_table_party.mono _ _)
   | (with_reducible exact LeO.refl _)
   | (with_reducible exact LeO.none _)
   | (with_reducible refine LeO.ite ?_ ?_)
   | (with_reducible refine LeO.bind ?_ (fun _=>?_))
   | exact ih0 _ _ _ _
   | exact ih1 _ _ _ _ _ _
   | exact ih2 _ _ _ _ _ _ _ _ _ _ _
   | exact impl_Party_table.mono _ _ _
   | exact impl_arePeople.mono _ _ _ _
   | exact impl_isRising.mono _ _
   | exact impl_table_party.mono _ _
   | exact LeO.none _
   | refine LeO.ite ?_ ?_
   | refine LeO.bind ?_ (fun _=>?_)
set_option maxHeartbeats 8000000 in
set_option maxRecDepth 100000 in
theorem impl_ChooseParty.calls (k:Nat) (a0_0:Int) (A0_1:Option Addr) (c0_1:Nat) (l0_1:List (S80)) (A1:Option Addr) (c1:Nat) (l1:List Int) (r1:Int) (r2:List (S80)) (r3:Bool) (w:World) (hr0_1:Kd.C k80 w A0_1 l0_1.length l0_1) (hc0_1:l0_1.length≤c0_1) (hr1:Kd.C (Kd.int .i64) w A1 l1.length l1) (hc1:l1.length≤c1) (h:impl_ChooseParty.f k a0_0 l0_1 l1=some (r1,r2,r3)) :
  Calls Try.prog 39 #[.agg #[.int .i64 a0_0,.slice A0_1 l0_1.length c0_1],.slice A1 l1.length c1] w fun e w'=>∃ v1_:Value,e=.returned (.tuple #[.agg #[.int .i64 r1,v1_],.bool r3])∧Kd.R k80 80 w' w.heap.size (fun _=>True) v1_ r2∧Below w.heap.size w w':=by
 have hu30:=Try.underlying30
 have HR0_1:=zz31 hr0_1
 have HC0_1:=zz31 hc0_1
 clear hr0_1 hc0_1
 have HR1:=zz31 hr1
 have HC1:=zz31 hc1
 clear hr1 hc1
 have HB:=zz31 (Below.refl w.heap.size w)
 have H:((impl_arePeople.f k a0_0 l0_1 l1).bind fun t725=>(if t725=true then ((impl_isRising.f k l1).bind fun t726=>(impl_ChooseParty.j0 k l1 (!t726) a0_0 l0_1)) else (impl_ChooseParty.j0 k l1 true a0_0 l0_1)))=some (r1,r2,r3):=h
 clear h
 have HC3:=zz31 H
 clear H
 go_enter Try.func39,Try.ntmps39
 go_upto_region 1 with (first | ((with_reducible refine gate_dst (N:=2) rfl ?_);refine box_event ?hg (N:=2) ?hd (cs:=#[.int .i64 a0_0,.slice A0_1 l0_1.length c0_1]) (t:=30) ?hr ?_;(case hd=>rfl);(case hg=>rfl);(case hr=>first | (go_simp;done) | (go_simp;rfl));intro gb723 hg w4 hbox hb;have n0_:=zz31 (zz4 (by repeat first | exact HB.out | apply zz2 | apply zz0 | apply zz1) hb);have n1_:=zz31 (hbox);have n2_:=zz31 ((by rw [hg];exact (zz5 (by repeat first | exact HB.out | apply zz2 | apply zz0 | apply zz1)):w.heap.size≤gb723));have n3_:=zz31 ((by rw [hg];exact (zz5 (by repeat first | exact HB.out | apply zz2 | apply zz0 | apply zz1)):w.heap.size≤gb723));clear HB;have HB:=n0_;have BK723:=n1_;have GW723:=n2_;have GE723:=n3_;clear n0_ n1_ n2_ n3_;clear hb hbox hg) | ((with_reducible refine gate_dst (N:=4) rfl ?_);refine box_event ?hg (N:=4) ?hd (cs:=#[.int .i64 0,.slice none 0 0]) (t:=30) ?hr ?_;(case hd=>rfl);(case hg=>rfl);(case hr=>first | (go_simp;done) | (go_simp;rfl));intro gb724 hg w5 hbox hb;have n0_:=zz31 (zz11 (g:=gb723) (o:=.cells #[.int .i64 a0_0,.slice A0_1 l0_1.length c0_1] 30 (0,0)) (by (with_reducible repeat (first | refine zz6 ?_ _ | refine zz7 ?_ | refine zz8 ?_ _));exact BK723.out) hb);have n1_:=zz31 (zz4 (by repeat first | exact HB.out | apply zz2 | apply zz0 | apply zz1 | refine zz3 ?_ GE723.out) hb);have n2_:=zz31 (hbox);have n3_:=zz31 ((by rw [hg];exact (zz5 (by repeat first | exact HB.out | apply zz2 | apply zz0 | apply zz1 | refine zz3 ?_ GE723.out)):w.heap.size≤gb724));have n4_:=zz31 ((by rw [hg];exact (zz5 (by repeat first | exact HB.out | apply zz2 | apply zz0 | apply zz1 | refine zz3 ?_ GE723.out)):w.heap.size≤gb724));have n5_:=zz31 ((by rw [hg];exact Nat.ne_of_lt (blk_lt (g:=gb723) (o:=.cells #[.int .i64 a0_0,.slice A0_1 l0_1.length c0_1] 30 (0,0)) (by (with_reducible repeat (first | refine zz6 ?_ _ | refine zz7 ?_ | refine zz8 ?_ _));exact BK723.out)):gb723 ≠ gb724));have n6_:=zz31 ((by rw [hg];exact Nat.ne_of_gt (blk_lt (g:=gb723) (o:=.cells #[.int .i64 a0_0,.slice A0_1 l0_1.length c0_1] 30 (0,0)) (by (with_reducible repeat (first | refine zz6 ?_ _ | refine zz7 ?_ | refine zz8 ?_ _));exact BK723.out)):gb724 ≠ gb723));clear BK723;clear HB;have BK723:=n0_;have HB:=n1_;have BK724:=n2_;have GW724:=n3_;have GE724:=n4_;have NB723_724:=n5_;have NB724_723:=n6_;clear n0_ n1_ n2_ n3_ n4_ n5_ n6_;clear hb hbox hg))
 (try simp only [Act.put,zz21,zz22,zz23])
 go_cut [20] (fun v20 wc=>∃ (kq:Nat) (x20_2:Bool),v20=.bool x20_2∧Aside0 (impl_ChooseParty.j0 kq l1 x20_2 a0_0 l0_1=some (r1,r2,r3))∧Aside0 (kq≤k)∧Aside0 (wc.heap[gb723]?=some (.cells #[.int .i64 a0_0,(.slice A0_1 l0_1.length c0_1)] 30 (0,0)))∧Aside0 (wc.heap[gb724]?=some (.cells #[.int .i64 0,(.slice none 0 0)] 30 (0,0)))∧Aside0 (Below w.heap.size w wc))
 case first =>
  have H:=HC3.out
  clear HC3
  replace H:=zz30.mp H
  obtain ⟨t725,A60,H⟩:=H
  replace H:(if t725=true then ((impl_isRising.f k l1).bind fun t726=>(impl_ChooseParty.j0 k l1 (!t726) a0_0 l0_1)) else (impl_ChooseParty.j0 k l1 true a0_0 l0_1))=some (r1,r2,r3):=H
  have A6:=zz31 A60
  clear A60
  by_cases c7:t725=true
  ·subst c7
   have H1:((impl_isRising.f k l1).bind fun t726=>(impl_ChooseParty.j0 k l1 (!t726) a0_0 l0_1))=some (r1,r2,r3):=by rw [if_pos rfl] at H;exact H
   clear H
   have H:=H1
   clear H1
   replace H:=zz30.mp H
   obtain ⟨t726,A80,H⟩:=H
   replace H:(impl_ChooseParty.j0 k l1 (!t726) a0_0 l0_1)=some (r1,r2,r3):=H
   have A8:=zz31 A80
   clear A80
   have H':=zz31 H
   clear H
   have hnb9:=NB723_724.out
   have hnc9:=NB724_723.out
   have hcz10_0:w5.cell? ⟨gb723,0,none⟩=some (.int .i64 a0_0):=(zz9 BK723.out 0).trans rfl
   have hcz10_1:w5.cell? ⟨gb723,1,none⟩=some (.slice A0_1 l0_1.length c0_1):=(zz9 BK723.out 1).trans rfl
   have hfz10_0:=zz10 BK723.out 0
   have hfz10_1:=zz10 BK723.out 1
   go_wp2_with (first | ((with_reducible refine gate_callee (f:=58) rfl ?_);refine goesL_ (some 14) rfl rfl Try.func58 (by kernel_rfl) rfl #[.agg #[.int .i64 a0_0,.slice A0_1 l0_1.length c0_1],.slice A1 l1.length c1] rfl (by (try simp only [zz26,zz27,zz28]);first | done | rfl | (simp only [zz24,zz25];rfl)) ?_;(with_reducible refine (impl_arePeople.calls k a0_0 _ _ l0_1 _ _ l1 true _ ?side1 ?side2 ?side3 ?side4 A6.out).mono ?_);(case side1=>repeat (first | exact (Kd.C_below HR0_1.out HB.out) | (with_reducible refine zz18 ?_ _) | (with_reducible refine zz19 ?_ _) | (with_reducible refine zz20 ?_)));(case side2=>exact HC0_1.out);(case side3=>repeat (first | exact (Kd.C_below HR1.out HB.out) | (with_reducible refine zz18 ?_ _) | (with_reducible refine zz19 ?_ _) | (with_reducible refine zz20 ?_)));(case side4=>exact HC1.out);rintro e w11 ⟨rfl,hb⟩;refine ⟨_,rfl,?_⟩;have n0_:=zz31 (zz11 (g:=gb723) (o:=.cells #[.int .i64 a0_0,.slice A0_1 l0_1.length c0_1] 30 (0,0)) (by (with_reducible repeat (first | refine zz6 ?_ _ | refine zz7 ?_ | refine zz8 ?_ _));exact BK723.out) hb);have n1_:=zz31 (zz11 (g:=gb724) (o:=.cells #[.int .i64 0,.slice none 0 0] 30 (0,0)) (by (with_reducible repeat (first | refine zz6 ?_ _ | refine zz7 ?_ | refine zz8 ?_ _));exact BK724.out) hb);have n2_:=zz31 (zz4 (by repeat first | exact HB.out | apply zz2 | apply zz0 | apply zz1 | refine zz3 ?_ GE723.out | refine zz3 ?_ GE724.out) hb);clear BK723;clear BK724;clear HB;have BK723:=n0_;have BK724:=n1_;have HB:=n2_;clear n0_ n1_ n2_;(try clear hb);(try clear hb2);(try clear hk);(try clear hi)) | (go_at_call 59;(with_reducible refine (impl_isRising.calls k _ _ l1 t726 _ ?side1 ?side2 A8.out).mono ?_);(case side1=>repeat (first | exact (Kd.C_below HR1.out HB.out) | (with_reducible refine zz18 ?_ _) | (with_reducible refine zz19 ?_ _) | (with_reducible refine zz20 ?_)));(case side2=>exact HC1.out);rintro e w' ⟨rfl,⟨nd,rfl⟩⟩))
   go_meet
   case rel=>exact ⟨_,(!t726),(by first | rfl | (simp;done) | (simp [*];done)),H',⟨by first | omega | exact Nat.le_refl _⟩,⟨by (with_reducible repeat (first | refine zz6 ?_ _ | refine zz7 ?_ | refine zz8 ?_ _));exact BK723.out⟩,⟨by (with_reducible repeat (first | refine zz6 ?_ _ | refine zz7 ?_ | refine zz8 ?_ _));exact BK724.out⟩,⟨by repeat first | exact HB.out | apply zz2 | apply zz0 | apply zz1 | refine zz3 ?_ GE723.out | refine zz3 ?_ GE724.out⟩⟩
  ·replace c7:=Bool.eq_false_iff.mpr c7
   subst c7
   have H1:(impl_ChooseParty.j0 k l1 true a0_0 l0_1)=some (r1,r2,r3):=by rw [if_neg (show ¬ (false=true) by decide)] at H;exact H
   clear H
   have H:=H1
   clear H1
   have H':=zz31 H
   clear H
   have hnb12:=NB723_724.out
   have hnc12:=NB724_723.out
   have hcz13_0:w5.cell? ⟨gb723,0,none⟩=some (.int .i64 a0_0):=(zz9 BK723.out 0).trans rfl
   have hcz13_1:w5.cell? ⟨gb723,1,none⟩=some (.slice A0_1 l0_1.length c0_1):=(zz9 BK723.out 1).trans rfl
   have hfz13_0:=zz10 BK723.out 0
   have hfz13_1:=zz10 BK723.out 1
   go_wp2_with (first | ((with_reducible refine gate_callee (f:=58) rfl ?_);refine goesL_ (some 14) rfl rfl Try.func58 (by kernel_rfl) rfl #[.agg #[.int .i64 a0_0,.slice A0_1 l0_1.length c0_1],.slice A1 l1.length c1] rfl (by (try simp only [zz26,zz27,zz28]);first | done | rfl | (simp only [zz24,zz25];rfl)) ?_;(with_reducible refine (impl_arePeople.calls k a0_0 _ _ l0_1 _ _ l1 false _ ?side1 ?side2 ?side3 ?side4 A6.out).mono ?_);(case side1=>repeat (first | exact (Kd.C_below HR0_1.out HB.out) | (with_reducible refine zz18 ?_ _) | (with_reducible refine zz19 ?_ _) | (with_reducible refine zz20 ?_)));(case side2=>exact HC0_1.out);(case side3=>repeat (first | exact (Kd.C_below HR1.out HB.out) | (with_reducible refine zz18 ?_ _) | (with_reducible refine zz19 ?_ _) | (with_reducible refine zz20 ?_)));(case side4=>exact HC1.out);rintro e w14 ⟨rfl,hb⟩;refine ⟨_,rfl,?_⟩;have n0_:=zz31 (zz11 (g:=gb723) (o:=.cells #[.int .i64 a0_0,.slice A0_1 l0_1.length c0_1] 30 (0,0)) (by (with_reducible repeat (first | refine zz6 ?_ _ | refine zz7 ?_ | refine zz8 ?_ _));exact BK723.out) hb);have n1_:=zz31 (zz11 (g:=gb724) (o:=.cells #[.int .i64 0,.slice none 0 0] 30 (0,0)) (by (with_reducible repeat (first | refine zz6 ?_ _ | refine zz7 ?_ | refine zz8 ?_ _));exact BK724.out) hb);have n2_:=zz31 (zz4 (by repeat first | exact HB.out | apply zz2 | apply zz0 | apply zz1 | refine zz3 ?_ GE723.out | refine zz3 ?_ GE724.out) hb);clear BK723;clear BK724;clear HB;have BK723:=n0_;have BK724:=n1_;have HB:=n2_;clear n0_ n1_ n2_;(try clear hb);(try clear hb2);(try clear hk);(try clear hi)))
   go_meet
   case rel=>exact ⟨_,(true),(by first | rfl | (simp;done) | (simp [*];done)),H',⟨by first | omega | exact Nat.le_refl _⟩,⟨by (with_reducible repeat (first | refine zz6 ?_ _ | refine zz7 ?_ | refine zz8 ?_ _));exact BK723.out⟩,⟨by (with_reducible repeat (first | refine zz6 ?_ _ | refine zz7 ?_ | refine zz8 ?_ _));exact BK724.out⟩,⟨by repeat first | exact HB.out | apply zz2 | apply zz0 | apply zz1 | refine zz3 ?_ GE723.out | refine zz3 ?_ GE724.out⟩⟩
 case rest =>
  clear HC3
  try clear c1
  try clear p2
  try clear c3
  try clear c5
  try clear c7
  try clear c9
  try clear c12
  try clear hcz10_0
  try clear hcz10_1
  try clear hcz13_0
  try clear hcz13_1
  try clear hfz10_0
  try clear hfz10_1
  try clear hfz13_0
  try clear hfz13_1
  obtain ⟨kq,x20_2,rfl,HA,HJ2,BK723,BK724,HB⟩:=hcut
  cases kq with
  | zero=>exact absurd HA.out (by simp [impl_ChooseParty.j0])
  | succ kj2 =>
   have H:=HA.out
   clear HA
   simp only [impl_ChooseParty.j0] at H
   by_cases c15:x20_2=true
   ·subst c15
    have H1:(some (0,([]:List (S80)),false))=some (r1,r2,r3):=by rw [if_pos rfl] at H;exact H
    clear H
    have H:=H1
    clear H1
    simp only [Option.some.injEq,Prod.mk.injEq] at H
    obtain ⟨rfl,rfl,rfl⟩:=H
    have hnb16:=NB724_723.out
    have hnc16:=NB723_724.out
    have hcz17_0:wc.cell? ⟨gb724,0,none⟩=some (.int .i64 0):=(zz9 BK724.out 0).trans rfl
    have hcz17_1:wc.cell? ⟨gb724,1,none⟩=some (.slice none 0 0):=(zz9 BK724.out 1).trans rfl
    have hfz17_0:=zz10 BK724.out 0
    have hfz17_1:=zz10 BK724.out 1
    go_wp2
    refine bodyPost_ret (results_ct rfl _ _ gb724 30 #[.int .i64 0,.slice none 0 0] (0,0) _ rfl (by (with_reducible repeat (first | refine zz6 ?_ _ | refine zz7 ?_ | refine zz8 ?_ _));refine blk_put (cs:=#[.int .i64 0,.slice none 0 0]) ?_ 1 _ rfl;(with_reducible repeat (first | refine zz6 ?_ _ | refine zz7 ?_ | refine zz8 ?_ _));refine blk_put (cs:=#[.int .i64 0,.slice none 0 0]) ?_ 0 _ rfl;(with_reducible repeat (first | refine zz6 ?_ _ | refine zz7 ?_ | refine zz8 ?_ _));exact BK724.out) Try.underlying30 rfl (by kernel_rfl)) rfl ?_
    exact ⟨_,by first | rfl | (simp [errW_none,errW_some] <;> rfl) | (simp [*,errW_none,errW_some] <;> rfl),by first | exact Kd.R_nil _ _ _ _ _ | exact Kd.N_nil _ _ _ _ _ | exact Kd.V_nil _ _ _ _ _ | exact Kd.Q_nil _ _ _ _ _ | exact Kd.S_nil _ _ _ _ _,by repeat first | exact HB.out | apply zz2 | apply zz0 | apply zz1 | refine zz3 ?_ GE723.out | refine zz3 ?_ GE724.out⟩
   ·replace c15:=Bool.eq_false_iff.mpr c15
    subst c15
    have H1:((impl_Party_table.f kj2 a0_0 l0_1).bind fun t727=>(if 0≤(l1.length:Int) then (if ((l1.length:Int):Int).toNat≤140737488355328 then (impl_ChooseParty.l0 kj2 l1 t727 (List.replicate ((l1.length:Int):Int).toNat 0) l1 (l1.length:Int) 0) else (none)) else (none)))=some (r1,r2,r3):=by rw [if_neg (show ¬ (false=true) by decide)] at H;exact H
    clear H
    have H:=H1
    clear H1
    replace H:=zz30.mp H
    obtain ⟨t727,A180,H⟩:=H
    replace H:(if 0≤(l1.length:Int) then (if ((l1.length:Int):Int).toNat≤140737488355328 then (impl_ChooseParty.l0 kj2 l1 t727 (List.replicate ((l1.length:Int):Int).toNat 0) l1 (l1.length:Int) 0) else (none)) else (none))=some (r1,r2,r3):=H
    have A18:=zz31 A180
    clear A180
    by_cases c19:0≤(l1.length:Int)
    ·rw [if_pos c19] at H
     have c19b0:=eq_true c19
     have c19b1:decide (0≤(l1.length:Int))=true:=decide_eq_true c19
     clear c19
     by_cases c20:((l1.length:Int):Int).toNat≤140737488355328
     ·rw [if_pos c20] at H
      have c20b0:=eq_true c20
      have c20b1:decide (((l1.length:Int):Int).toNat≤140737488355328)=true:=decide_eq_true c20
      clear c20
      obtain ⟨y730,hy730⟩:∃ y_:List Int,y_=(List.replicate ((l1.length:Int):Int).toNat 0):=⟨_,rfl⟩
      replace H:(impl_ChooseParty.l0 kj2 l1 t727 y730 l1 (l1.length:Int) 0)=some (r1,r2,r3):=by first | (rw [hy730];with_reducible exact H) | (have H2_:=(Option.bind_some _ _).symm.trans H;rw [hy730];with_reducible exact H2_) | (have H2_:=(Option.bind_some _ _).symm.trans H;with_reducible exact H2_) | with_reducible exact H | (rw [hy730];exact H) | exact H
      have Ny730:=zz31 hy730
      clear hy730
      have H':=zz31 H
      clear H
      try go_wp2
      have n0_:=zz31 (zz7 BK723.out)
      have n1_:=zz31 (zz7 BK724.out)
      have n2_:=zz31 (zz1 HB.out)
      clear BK723
      clear BK724
      clear HB
      have BK723:=n0_
      have BK724:=n1_
      have HB:=n2_
      clear n0_ n1_ n2_
      refine start_ (n:=7) (S:=fun w'=>w'.cell? ⟨gb723,0,none⟩=some (.int .i64 a0_0)∧w'.cell? ⟨gb723,1,none⟩=some (.slice A0_1 l0_1.length c0_1)) (ds:=[]) #[F,F,F,F,F,F,F] (by kernel_rfl) rfl rfl ⟨(zz9 BK723.out 0).trans rfl,(zz9 BK723.out 1).trans rfl⟩ (fun hHeld=>?_)
      generalize wc.drew=w21 at BK723 BK724 HB hHeld ⊢
      refine pure_ (i:=2) (N:=some 24) (v:=?_) (a':=?_) #[F,F,T,F,F,F,F] rfl rfl (by kernel_rfl) (fun _ _ _ h=>h) (Or.inl ⟨by rfl,?_⟩) ?_ ?_
      rotate_left
      ·intro w'
       go_simp
       with_reducible rfl
      rotate_left
      ·simp only [Act.put,zz21,zz22,zz23,i64_w,i32_w]
       rfl
      refine pure_ (i:=3) (N:=some 25) (v:=?_) (a':=?_) #[F,F,T,T,F,F,F] rfl rfl (by kernel_rfl) (fun _ _ _ h=>h) (Or.inl ⟨by rfl,?_⟩) ?_ ?_
      rotate_left
      ·intro w'
       go_simp
       with_reducible rfl
      rotate_left
      ·simp only [Act.put,zz21,zz22,zz23,i64_w,i32_w]
       rfl
      refine take_ (i:=0) (N:=some 22) (v:=?_) (a':=?_) #[T,F,T,T,F,F,F] rfl rfl (by kernel_rfl) (fun _ _ _ h=>h) (Or.inl ⟨by rfl,?_⟩) hHeld ?_ ?_
      rotate_left
      ·rintro w' ⟨s0,s1⟩
       go_simp
       with_reducible rfl
      rotate_left
      ·simp only [Act.put,zz21,zz22,zz23,i64_w,i32_w]
       rfl
      refine join_ (σ:=Value × Value) 1 #[T,T,T,T,T,T,F] (fun s_=>[(23,s_.1),(26,s_.2),(6,s_.1)]) (fun s_ w'=>(w'.cell? ⟨gb723,0,none⟩=some (.int .i64 a0_0)∧w'.cell? ⟨gb723,1,none⟩=some (.slice A0_1 l0_1.length c0_1))∧(Kd.R (Kd.int .u16) 96 w' w.heap.size (fun k_=>some k_ ≠ (s_.2:Value).ownBlock) s_.1 t727)∧(Kd.R (Kd.int .u16) 96 w' w.heap.size (fun k_=>some k_ ≠ (s_.1:Value).ownBlock) s_.2 y730)∧(w'.heap[gb723]?=some (.cells #[.int .i64 a0_0,.slice A0_1 l0_1.length c0_1] 30 (0,0)))∧(w'.heap[gb724]?=some (.cells #[.int .i64 0,.slice none 0 0] 30 (0,0)))∧(Below w.heap.size w w')) ?_ ?_
      rotate_left
      ·intro hCont
       refine two_ (i:=1) (j:=4) (Ni:=some 23) (Nj:=some 26) #[T,T,T,T,F,F,F] #[T,F,T,T,T,F,F] rfl rfl rfl rfl (by kernel_rfl) (by decide) (by decide) (fun K hK=>?_) (fun K hK=>?_)
       ·skip
        refine goes_ Try.func46 (by kernel_rfl) rfl #[.agg #[.int .i64 a0_0,.slice A0_1 l0_1.length c0_1]] (by rfl) rfl rfl (by (try simp only [zz26,zz27,zz28]);first | done | rfl | (simp only [zz24,zz25];rfl)) ?_
        with_reducible refine (impl_Party_table.calls kj2 a0_0 _ _ l0_1 t727 _ ?side1 ?side2 A18.out).mono ?_
        (case side1=>repeat (first | exact (Kd.C_below HR0_1.out HB.out) | (with_reducible refine zz18 ?_ _) | (with_reducible refine zz19 ?_ _) | (with_reducible refine zz20 ?_)))
        (case side2=>exact HC0_1.out)
        rintro e w22 ⟨v728,rfl,ho0,hb⟩
        refine ⟨_,rfl,?_⟩
        have n0_:=zz31 (Kd.R_lower ho0 (zz5 (by repeat first | exact HB.out | apply zz2 | apply zz0 | apply zz1 | refine zz3 ?_ GE723.out | refine zz3 ?_ GE724.out)))
        have n1_:=zz31 (zz11 (g:=gb723) (o:=.cells #[.int .i64 a0_0,.slice A0_1 l0_1.length c0_1] 30 (0,0)) (by (with_reducible repeat (first | refine zz6 ?_ _ | refine zz7 ?_ | refine zz8 ?_ _));exact BK723.out) hb)
        have n2_:=zz31 (zz11 (g:=gb724) (o:=.cells #[.int .i64 0,.slice none 0 0] 30 (0,0)) (by (with_reducible repeat (first | refine zz6 ?_ _ | refine zz7 ?_ | refine zz8 ?_ _));exact BK724.out) hb)
        have n3_:=zz31 (zz4 (by repeat first | exact HB.out | apply zz2 | apply zz0 | apply zz1 | refine zz3 ?_ GE723.out | refine zz3 ?_ GE724.out) hb)
        clear BK723
        clear BK724
        clear HB
        have HO729:=n0_
        have BK723:=n1_
        have BK724:=n2_
        have HB:=n3_
        clear n0_ n1_ n2_ n3_
        (try clear hb)
        (try clear hb2)
        (try clear hk)
        (try clear hi)
        (try clear ho0)
        refine hK.out _ _ ⟨(zz9 BK723.out 0).trans rfl,(zz9 BK723.out 1).trans rfl⟩ (fun hHeld=>?_)
        clear hK K
        refine norm_ (a':=?_) ?_ ?_
        rotate_left
        ·show Act.put _ (some 23) _=_
         simp only [Act.put,zz21,zz22,zz23,i64_w,i32_w]
         rfl
        refine pure_ (i:=5) (N:=some 6) (v:=?_) (a':=?_) #[T,T,T,T,F,T,F] rfl rfl (by kernel_rfl) (fun _ _ _ h=>h) (Or.inl ⟨by rfl,?_⟩) ?_ ?_
        rotate_left
        ·intro w'
         go_simp
         with_reducible rfl
        rotate_left
        ·simp only [Act.put,zz21,zz22,zz23,i64_w,i32_w]
         rfl
        refine one_ (i:=4) (N:=some 26) #[T,T,T,T,T,T,F] rfl rfl (by kernel_rfl) (by decide) (fun K hK=>?_)
        refine Kd.R_make_step (Kd.int .u16) _ 96 (by rfl) (N:=26) rfl 60 _ _ rfl (l1.length:Int) rfl rfl Try.underlying60 (.int .u16 0) 2 info96 rfl (by decide) (by omega) 0 (ok:=fun _=>True) (okp:=fun _=>True) rfl (fun _ hk=>hk) trivial (zz29 (by first | (with_reducible assumption) | assumption)) (Nat.le_trans (Nat.mul_le_mul_right _ (zz29 (by first | (with_reducible assumption) | assumption):(l1.length:Int).toNat≤140737488355328)) (by omega)) (Below.refl _ _) (Nat.le_refl _) ?_
        intro v731 w23 ho24 hb hg_ hnew_
        clear hg_ hnew_
        (first | rw [← Ny730.out] at ho24 | (simp only [Int.reduceToNat] at ho24;rw [← Ny730.out] at ho24))
        have n0_:=zz31 (Kd.R_elder' (by (with_reducible repeat (first | apply zz12 | apply zz13 | apply zz14));exact HO729.out) (Kd.R_base ho24) hb)
        have n1_:=zz31 (Kd.R_lower (Kd.R_new' ho24 (Kd.R_lt (by (with_reducible repeat (first | apply zz12 | apply zz13 | apply zz14));exact HO729.out))) (zz5 (by repeat first | exact HB.out | apply zz2 | apply zz0 | apply zz1 | refine zz3 ?_ GE723.out | refine zz3 ?_ GE724.out)))
        have n2_:=zz31 (zz11 (g:=gb723) (o:=.cells #[.int .i64 a0_0,.slice A0_1 l0_1.length c0_1] 30 (0,0)) (by (with_reducible repeat (first | refine zz6 ?_ _ | refine zz7 ?_ | refine zz8 ?_ _));exact BK723.out) hb)
        have n3_:=zz31 (zz11 (g:=gb724) (o:=.cells #[.int .i64 0,.slice none 0 0] 30 (0,0)) (by (with_reducible repeat (first | refine zz6 ?_ _ | refine zz7 ?_ | refine zz8 ?_ _));exact BK724.out) hb)
        have n4_:=zz31 (zz4 (by repeat first | exact HB.out | apply zz2 | apply zz0 | apply zz1 | refine zz3 ?_ GE723.out | refine zz3 ?_ GE724.out) hb)
        clear HO729
        clear BK723
        clear BK724
        clear HB
        have HO729:=n0_
        have HO732:=n1_
        have BK723:=n2_
        have BK724:=n3_
        have HB:=n4_
        clear n0_ n1_ n2_ n3_ n4_
        clear hb ho24
        refine hK.out _ _ ⟨(zz9 BK723.out 0).trans rfl,(zz9 BK723.out 1).trans rfl⟩ (fun hHeld=>?_)
        clear hK K
        refine norm_ (a':=?_) ?_ ?_
        rotate_left
        ·show Act.put _ (some 26) _=_
         simp only [Act.put,zz21,zz22,zz23,i64_w,i32_w]
         rfl
        exact norm_ (by simp only [putAll,Act.put,zz21,zz22,zz23]) (hCont (v728,v731) _ ⟨hHeld,(by (with_reducible repeat (first | apply zz12 | apply zz13 | apply zz14));exact Kd.R_mono HO729.out (fun _ hk=>hk.2)),(by (with_reducible repeat (first | apply zz12 | apply zz13 | apply zz14));exact Kd.R_mono HO732.out (fun _ hk=>hk.2)),(by (with_reducible repeat (first | refine zz6 ?_ _ | refine zz7 ?_ | refine zz8 ?_ _));exact BK723.out),(by (with_reducible repeat (first | refine zz6 ?_ _ | refine zz7 ?_ | refine zz8 ?_ _));exact BK724.out),(by repeat first | exact HB.out | apply zz2 | apply zz0 | apply zz1 | refine zz3 ?_ GE723.out | refine zz3 ?_ GE724.out)⟩)
       ·skip
        refine Kd.R_make_step (Kd.int .u16) _ 96 (by rfl) (N:=26) rfl 60 _ _ rfl (l1.length:Int) rfl rfl Try.underlying60 (.int .u16 0) 2 info96 rfl (by decide) (by omega) 0 (ok:=fun _=>True) (okp:=fun _=>True) rfl (fun _ hk=>hk) trivial (zz29 (by first | (with_reducible assumption) | assumption)) (Nat.le_trans (Nat.mul_le_mul_right _ (zz29 (by first | (with_reducible assumption) | assumption):(l1.length:Int).toNat≤140737488355328)) (by omega)) (Below.refl _ _) (Nat.le_refl _) ?_
        intro v731 w22 ho23 hb hg_ hnew_
        clear hg_ hnew_
        (first | rw [← Ny730.out] at ho23 | (simp only [Int.reduceToNat] at ho23;rw [← Ny730.out] at ho23))
        have n0_:=zz31 (Kd.R_lower ho23 (zz5 (by repeat first | exact HB.out | apply zz2 | apply zz0 | apply zz1 | refine zz3 ?_ GE723.out | refine zz3 ?_ GE724.out)))
        have n1_:=zz31 (zz11 (g:=gb723) (o:=.cells #[.int .i64 a0_0,.slice A0_1 l0_1.length c0_1] 30 (0,0)) (by (with_reducible repeat (first | refine zz6 ?_ _ | refine zz7 ?_ | refine zz8 ?_ _));exact BK723.out) hb)
        have n2_:=zz31 (zz11 (g:=gb724) (o:=.cells #[.int .i64 0,.slice none 0 0] 30 (0,0)) (by (with_reducible repeat (first | refine zz6 ?_ _ | refine zz7 ?_ | refine zz8 ?_ _));exact BK724.out) hb)
        have n3_:=zz31 (zz4 (by repeat first | exact HB.out | apply zz2 | apply zz0 | apply zz1 | refine zz3 ?_ GE723.out | refine zz3 ?_ GE724.out) hb)
        clear BK723
        clear BK724
        clear HB
        have HO732:=n0_
        have BK723:=n1_
        have BK724:=n2_
        have HB:=n3_
        clear n0_ n1_ n2_ n3_
        clear hb ho23
        refine hK.out _ _ ⟨(zz9 BK723.out 0).trans rfl,(zz9 BK723.out 1).trans rfl⟩ (fun hHeld=>?_)
        clear hK K
        refine norm_ (a':=?_) ?_ ?_
        rotate_left
        ·show Act.put _ (some 26) _=_
         simp only [Act.put,zz21,zz22,zz23,i64_w,i32_w]
         rfl
        refine one_ (i:=1) (N:=some 23) #[T,T,T,T,T,F,F] rfl rfl (by kernel_rfl) (by decide) (fun K hK=>?_)
        refine goes_ Try.func46 (by kernel_rfl) rfl #[.agg #[.int .i64 a0_0,.slice A0_1 l0_1.length c0_1]] (by rfl) rfl rfl (by (try simp only [zz26,zz27,zz28]);first | done | rfl | (simp only [zz24,zz25];rfl)) ?_
        with_reducible refine (impl_Party_table.calls kj2 a0_0 _ _ l0_1 t727 _ ?side1 ?side2 A18.out).mono ?_
        (case side1=>repeat (first | exact (Kd.C_below HR0_1.out HB.out) | (with_reducible refine zz18 ?_ _) | (with_reducible refine zz19 ?_ _) | (with_reducible refine zz20 ?_)))
        (case side2=>exact HC0_1.out)
        rintro e w24 ⟨v728,rfl,ho0,hb⟩
        refine ⟨_,rfl,?_⟩
        have n0_:=zz31 (Kd.R_elder' (by (with_reducible repeat (first | apply zz12 | apply zz13 | apply zz14));exact HO732.out) (Kd.R_base ho0) hb)
        have n1_:=zz31 (Kd.R_lower (Kd.R_new' ho0 (Kd.R_lt (by (with_reducible repeat (first | apply zz12 | apply zz13 | apply zz14));exact HO732.out))) (zz5 (by repeat first | exact HB.out | apply zz2 | apply zz0 | apply zz1 | refine zz3 ?_ GE723.out | refine zz3 ?_ GE724.out)))
        have n2_:=zz31 (zz11 (g:=gb723) (o:=.cells #[.int .i64 a0_0,.slice A0_1 l0_1.length c0_1] 30 (0,0)) (by (with_reducible repeat (first | refine zz6 ?_ _ | refine zz7 ?_ | refine zz8 ?_ _));exact BK723.out) hb)
        have n3_:=zz31 (zz11 (g:=gb724) (o:=.cells #[.int .i64 0,.slice none 0 0] 30 (0,0)) (by (with_reducible repeat (first | refine zz6 ?_ _ | refine zz7 ?_ | refine zz8 ?_ _));exact BK724.out) hb)
        have n4_:=zz31 (zz4 (by repeat first | exact HB.out | apply zz2 | apply zz0 | apply zz1 | refine zz3 ?_ GE723.out | refine zz3 ?_ GE724.out) hb)
        clear HO732
        clear BK723
        clear BK724
        clear HB
        have HO732:=n0_
        have HO729:=n1_
        have BK723:=n2_
        have BK724:=n3_
        have HB:=n4_
        clear n0_ n1_ n2_ n3_ n4_
        (try clear hb)
        (try clear hb2)
        (try clear hk)
        (try clear hi)
        (try clear ho0)
        refine hK.out _ _ ⟨(zz9 BK723.out 0).trans rfl,(zz9 BK723.out 1).trans rfl⟩ (fun hHeld=>?_)
        clear hK K
        refine norm_ (a':=?_) ?_ ?_
        rotate_left
        ·show Act.put _ (some 23) _=_
         simp only [Act.put,zz21,zz22,zz23,i64_w,i32_w]
         rfl
        refine pure_ (i:=5) (N:=some 6) (v:=?_) (a':=?_) #[T,T,T,T,T,T,F] rfl rfl (by kernel_rfl) (fun _ _ _ h=>h) (Or.inl ⟨by rfl,?_⟩) ?_ ?_
        rotate_left
        ·intro w'
         go_simp
         with_reducible rfl
        rotate_left
        ·simp only [Act.put,zz21,zz22,zz23,i64_w,i32_w]
         rfl
        exact norm_ (by simp only [putAll,Act.put,zz21,zz22,zz23]) (hCont (v728,v731) _ ⟨hHeld,(by (with_reducible repeat (first | apply zz12 | apply zz13 | apply zz14));exact Kd.R_mono HO729.out (fun _ hk=>hk.2)),(by (with_reducible repeat (first | apply zz12 | apply zz13 | apply zz14));exact Kd.R_mono HO732.out (fun _ hk=>hk.2)),(by (with_reducible repeat (first | refine zz6 ?_ _ | refine zz7 ?_ | refine zz8 ?_ _));exact BK723.out),(by (with_reducible repeat (first | refine zz6 ?_ _ | refine zz7 ?_ | refine zz8 ?_ _));exact BK724.out),(by repeat first | exact HB.out | apply zz2 | apply zz0 | apply zz1 | refine zz3 ?_ GE723.out | refine zz3 ?_ GE724.out)⟩)
      rintro ⟨v728,v731⟩ w25 ⟨hS_,h0_,h1_,h2_,h3_,h4_⟩
      have n0_:Aside0 (Kd.R (Kd.int .u16) 96 w25 w.heap.size (fun k_=>some k_ ≠ (v731:Value).ownBlock) v728 t727):=⟨h0_⟩
      have n1_:Aside0 (Kd.R (Kd.int .u16) 96 w25 w.heap.size (fun k_=>some k_ ≠ (v728:Value).ownBlock) v731 y730):=⟨h1_⟩
      have n2_:Aside0 (w25.heap[gb723]?=some (.cells #[.int .i64 a0_0,.slice A0_1 l0_1.length c0_1] 30 (0,0))):=⟨h2_⟩
      have n3_:Aside0 (w25.heap[gb724]?=some (.cells #[.int .i64 0,.slice none 0 0] 30 (0,0))):=⟨h3_⟩
      have n4_:Aside0 (Below w.heap.size w w25):=⟨h4_⟩
      clear BK723
      clear BK724
      clear HB
      clear h0_ h1_ h2_ h3_ h4_
      have HO729:=n0_
      have HO732:=n1_
      have BK723:=n2_
      have BK724:=n3_
      have HB:=n4_
      clear n0_ n1_ n2_ n3_ n4_
      have hHeld:w25.cell? ⟨gb723,0,none⟩=some (.int .i64 a0_0)∧w25.cell? ⟨gb723,1,none⟩=some (.slice A0_1 l0_1.length c0_1):=hS_
      refine norm_ (a':=?_) ?_ ?_
      rotate_left
      ·simp only [putAll,Act.put,zz21,zz22,zz23]
       rfl
      refine pure_ (i:=6) (N:=some 7) (v:=?_) (a':=?_) #[T,T,T,T,T,T,T] rfl rfl (by kernel_rfl) (fun _ _ _ h=>h) (Or.inl ⟨by rfl,?_⟩) ?_ ?_
      rotate_left
      ·intro w'
       go_simp
       with_reducible rfl
      rotate_left
      ·simp only [Act.put,zz21,zz22,zz23,i64_w,i32_w]
       rfl
      refine done_ (by kernel_rfl) ?_
      try go_wp2
      go_loopg [29] kj2 (fun kq v29 w'=>∃ (x7_2:List Int) (x29_2:Int),v29=.int .i64 x29_2∧Aside0 (impl_ChooseParty.l0 kq l1 t727 x7_2 l1 (l1.length:Int) x29_2=some (r1,r2,r3))∧Aside0 (kq≤kj2)∧Aside0 (Kd.R (Kd.int .u16) 96 w' w.heap.size (fun k_=>some k_ ≠ (v731:Value).ownBlock) v728 t727)∧Aside0 (Kd.R (Kd.int .u16) 96 w' w.heap.size (fun k_=>some k_ ≠ (v728:Value).ownBlock) v731 x7_2)∧Aside0 (w'.heap[gb723]?=some (.cells #[.int .i64 a0_0,(.slice A0_1 l0_1.length c0_1)] 30 (0,0)))∧Aside0 (w'.heap[gb724]?=some (.cells #[.int .i64 0,(.slice none 0 0)] 30 (0,0)))∧Aside0 (Below w.heap.size w w'))
      case atStart=>exact ⟨(y730),(0),(by first | rfl | (simp;done) | (simp [*];done)),H',⟨Nat.le_refl _⟩,⟨by (with_reducible repeat (first | apply zz12 | apply zz13 | apply zz14));exact HO729.out⟩,⟨by (with_reducible repeat (first | apply zz12 | apply zz13 | apply zz14));exact HO732.out⟩,⟨by (with_reducible repeat (first | refine zz6 ?_ _ | refine zz7 ?_ | refine zz8 ?_ _));exact BK723.out⟩,⟨by (with_reducible repeat (first | refine zz6 ?_ _ | refine zz7 ?_ | refine zz8 ?_ _));exact BK724.out⟩,⟨by repeat first | exact HB.out | apply zz2 | apply zz0 | apply zz1 | refine zz3 ?_ GE723.out | refine zz3 ?_ GE724.out⟩⟩
      case round =>
       clear H'
       try clear c1
       try clear c2
       try clear p2
       try clear c3
       try clear c4
       try clear c5
       try clear c7
       try clear c9
       try clear c12
       try clear c15
       try clear c16
       try clear c19
       try clear c19b0
       try clear c19b1
       try clear c20
       try clear c20b0
       try clear c20b1
       try clear hcz10_0
       try clear hcz10_1
       try clear hcz13_0
       try clear hcz13_1
       try clear hcz17_0
       try clear hcz17_1
       try clear hfz10_0
       try clear hfz10_1
       try clear hfz13_0
       try clear hfz13_1
       try clear hfz17_0
       try clear hfz17_1
       try clear p2
       obtain ⟨x7_2,x29_2,rfl,HA,HK2,HO_6,HO_7,BK723,BK724,HB⟩:=hrel
       cases gk with
       | zero=>exact absurd HA.out (by simp [impl_ChooseParty.l0])
       | succ k2 =>
        have H:=HA.out
        clear HA
        simp only [impl_ChooseParty.l0] at H
        by_cases c26:x29_2 < (l1.length:Int)
        ·rw [if_pos c26] at H
         have c26b0:decide (x29_2 < (l1.length:Int))=true:=decide_eq_true c26
         clear c26
         by_cases c27:0≤x29_2
         ·rw [if_pos c27] at H
          have c27b0:decide (0≤x29_2)=true:=decide_eq_true c27
          clear c27
          by_cases c28:x29_2 < (l1.length:Int)
          ·rw [if_pos c28] at H
           have c28b0:decide (x29_2 < (l1.length:Int))=true:=decide_eq_true c28
           clear c28
           have H':=zz31 H
           clear H
           have p737:0≤(x29_2:Int):=zz29 (by first | (with_reducible assumption) | assumption)
           have q737:x29_2 < (l1.length:Int):=zz29 (by first | (with_reducible assumption) | assumption)
           obtain ⟨ad737,e737,hx737_0⟩:=Kd.at_int HR1.out x29_2 p737 q737
           cases e737
           replace hx737_0:=(HB.out.cell (World.block_lt_of_cell? w _ hx737_0)).trans hx737_0
           replace p737:=eq_true p737
           replace q737:=eq_true q737
           go_wp2
           go_loopg [36] k2 (fun kq v36 w'=>∃ (x7_3:List Int) (x36_3:Int),v36=.int .i64 x36_3∧Aside0 (impl_ChooseParty.l1 kq l1 t727 x7_3 x29_2 (rd l1 x29_2) l1 (l1.length:Int) x29_2 l1 (l1.length:Int) x36_3=some (r1,r2,r3))∧Aside0 (kq≤k2)∧Aside0 (Kd.R (Kd.int .u16) 96 w' w.heap.size (fun k_=>some k_ ≠ (v731:Value).ownBlock) v728 t727)∧Aside0 (Kd.R (Kd.int .u16) 96 w' w.heap.size (fun k_=>some k_ ≠ (v728:Value).ownBlock) v731 x7_3)∧Aside0 (w'.heap[gb723]?=some (.cells #[.int .i64 a0_0,(.slice A0_1 l0_1.length c0_1)] 30 (0,0)))∧Aside0 (w'.heap[gb724]?=some (.cells #[.int .i64 0,(.slice none 0 0)] 30 (0,0)))∧Aside0 (Below w.heap.size w w'))
           case atStart=>exact ⟨(x7_2),(0),(by first | rfl | (simp;done) | (simp [*];done)),H',⟨Nat.le_refl _⟩,⟨by (with_reducible repeat (first | apply zz12 | apply zz13 | apply zz14));exact HO_6.out⟩,⟨by (with_reducible repeat (first | apply zz12 | apply zz13 | apply zz14));exact HO_7.out⟩,⟨by (with_reducible repeat (first | refine zz6 ?_ _ | refine zz7 ?_ | refine zz8 ?_ _));exact BK723.out⟩,⟨by (with_reducible repeat (first | refine zz6 ?_ _ | refine zz7 ?_ | refine zz8 ?_ _));exact BK724.out⟩,⟨by repeat first | exact HB.out | apply zz2 | apply zz0 | apply zz1 | refine zz3 ?_ GE723.out | refine zz3 ?_ GE724.out⟩⟩
           case round =>
            clear H'
            try clear c1
            try clear c2
            try clear p2
            try clear c3
            try clear c4
            try clear c5
            try clear c7
            try clear p7
            try clear q7
            try clear hx7
            try clear c9
            try clear c12
            try clear c15
            try clear c16
            try clear c19
            try clear c19b0
            try clear c19b1
            try clear c20
            try clear c20b0
            try clear c20b1
            try clear c26
            try clear c26b0
            try clear c27
            try clear c27b0
            try clear c28
            try clear c28b0
            try clear hcz10_0
            try clear hcz10_1
            try clear hcz13_0
            try clear hcz13_1
            try clear hcz17_0
            try clear hcz17_1
            try clear hfz10_0
            try clear hfz10_1
            try clear hfz13_0
            try clear hfz13_1
            try clear hfz17_0
            try clear hfz17_1
            try clear hx737_0
            try clear p2
            try clear p737
            try clear q737
            obtain ⟨x7_3,x36_3,rfl,HA,HK3,HO_6,HO_7,BK723,BK724,HB⟩:=hrel
            cases gk with
            | zero=>exact absurd HA.out (by simp [impl_ChooseParty.l1])
            | succ k3 =>
             have H:=HA.out
             clear HA
             simp only [impl_ChooseParty.l1] at H
             by_cases c29:x36_3 < (l1.length:Int)
             ·rw [if_pos c29] at H
              have c29b0:decide (x36_3 < (l1.length:Int))=true:=decide_eq_true c29
              clear c29
              by_cases c30:0≤x36_3
              ·rw [if_pos c30] at H
               have c30b0:decide (0≤x36_3)=true:=decide_eq_true c30
               clear c30
               by_cases c31:x36_3 < (l1.length:Int)
               ·rw [if_pos c31] at H
                have c31b0:decide (x36_3 < (l1.length:Int))=true:=decide_eq_true c31
                clear c31
                replace H:=zz30.mp H
                obtain ⟨t739,A320,H⟩:=H
                replace H:(if t739=true then ((impl_table_put.f x7_3 x29_2 x36_3).bind fun t740=>(impl_ChooseParty.l1 k3 l1 t727 t740 x29_2 (rd l1 x29_2) l1 (l1.length:Int) x29_2 l1 (l1.length:Int) (wrap64 (x36_3+1)))) else (impl_ChooseParty.l1 k3 l1 t727 x7_3 x29_2 (rd l1 x29_2) l1 (l1.length:Int) x29_2 l1 (l1.length:Int) (wrap64 (x36_3+1))))=some (r1,r2,r3):=H
                have A32:=zz31 A320
                clear A320
                by_cases c33:t739=true
                ·subst c33
                 have H1:((impl_table_put.f x7_3 x29_2 x36_3).bind fun t740=>(impl_ChooseParty.l1 k3 l1 t727 t740 x29_2 (rd l1 x29_2) l1 (l1.length:Int) x29_2 l1 (l1.length:Int) (wrap64 (x36_3+1))))=some (r1,r2,r3):=by rw [if_pos rfl] at H;exact H
                 clear H
                 have H:=H1
                 clear H1
                 replace H:=zz30.mp H
                 obtain ⟨t740,A340,H⟩:=H
                 replace H:(impl_ChooseParty.l1 k3 l1 t727 t740 x29_2 (rd l1 x29_2) l1 (l1.length:Int) x29_2 l1 (l1.length:Int) (wrap64 (x36_3+1)))=some (r1,r2,r3):=H
                 have A34:=zz31 A340
                 clear A340
                 have H':=zz31 H
                 clear H
                 have p738:0≤(x36_3:Int):=zz29 (by first | (with_reducible assumption) | assumption)
                 have q738:x36_3 < (l1.length:Int):=zz29 (by first | (with_reducible assumption) | assumption)
                 obtain ⟨ad738,e738,hx738_0⟩:=Kd.at_int HR1.out x36_3 p738 q738
                 obtain rfl:ad737=ad738:=(by injection e738)
                 replace hx738_0:=(HB.out.cell (World.block_lt_of_cell? w _ hx738_0)).trans hx738_0
                 replace p738:=eq_true p738
                 replace q738:=eq_true q738
                 obtain ⟨Ao35,co35,eo35⟩:=Kd.R_slice HO_6.out
                 subst eo35
                 go_wp2_with (first | ((with_reducible refine gate_callee (f:=48) rfl ?_);refine goesL_ (some 44) rfl rfl Try.func48 (by kernel_rfl) rfl #[.slice Ao35 t727.length co35,.int .i64 (rd l1 x29_2),.int .i64 (rd l1 x36_3)] rfl (by (try simp only [zz26,zz27,zz28]);first | done | rfl | (simp only [zz24,zz25];rfl)) ?_;(with_reducible refine (impl_table_has.calls _ _ t727 (rd l1 x29_2) (rd l1 x36_3) true _ ?side1 ?side2 A32.out).mono ?_);(case side1=>repeat (first | exact (Kd.R_reads' HO_6.out).2.2 | (with_reducible refine zz18 ?_ _) | (with_reducible refine zz19 ?_ _) | (with_reducible refine zz20 ?_)));(case side2=>exact (Kd.R_reads' HO_6.out).2.1);rintro e w' ⟨rfl,⟨nd,rfl⟩⟩;refine ⟨_,rfl,?_⟩;obtain ⟨Ao36,co36,eo36⟩:=Kd.R_slice HO_7.out;subst eo36) | ((with_reducible refine gate_callee (f:=66) rfl ?_);refine goesL_ (some 48) rfl rfl Try.func66 (by kernel_rfl) rfl #[.slice Ao36 x7_3.length co36,.int .i64 x29_2,.int .i64 x36_3] rfl (by (try simp only [zz26,zz27,zz28]);first | done | rfl | (simp only [zz24,zz25];rfl)) ?_;(with_reducible refine (impl_table_put.calls (fun k_=>some k_=(.slice Ao36 x7_3.length co36:Value).ownBlock) (.slice Ao36 x7_3.length co36) x7_3 x29_2 x36_3 t740 w _ ?side1 ?side2 A34.out).mono ?_);(case side1=>repeat first | exact HB.out | apply zz2 | apply zz0 | apply zz1 | refine zz3 ?_ GE723.out | refine zz3 ?_ GE724.out);(case side2=>exact Kd.R_tight rfl HO_7.out);rintro e w37 ⟨rfl,hy0,hb,hkp⟩;refine ⟨_,rfl,?_⟩;have n0_:=zz31 (Kd.R_mono (ok':=fun k_=>some k_ ≠ (.slice Ao36 x7_3.length co36:Value).ownBlock) (Kd.R_keptB (HO_6.out) hkp (fun k_ hk_ hs_=>(hk_) hs_)) (fun k_ hk_=>hk_.1));have n1_:=zz31 (Kd.R_reok rfl hy0 (fun k_ e_=>HO_7.out.1 k_ e_));have n2_:=zz31 (blk_kept (by first | (with_reducible exact BK723.out) | ((with_reducible repeat (first | refine zz6 ?_ _ | refine zz7 ?_ | refine zz8 ?_ _));exact BK723.out)) hkp (fun hs_=>(fun e_=>(Kd.R_ne HO_7.out BK723.out (by decide)) e_) hs_));have n3_:=zz31 (blk_kept (by first | (with_reducible exact BK724.out) | ((with_reducible repeat (first | refine zz6 ?_ _ | refine zz7 ?_ | refine zz8 ?_ _));exact BK724.out)) hkp (fun hs_=>(fun e_=>(Kd.R_ne HO_7.out BK724.out (by decide)) e_) hs_));have n4_:=zz31 (hb);clear HO_6;clear HO_7;clear BK723;clear BK724;clear HB;have HO_6:=n0_;have HO_7:=n1_;have BK723:=n2_;have BK724:=n3_;have HB:=n4_;clear n0_ n1_ n2_ n3_ n4_;(try clear hb);(try clear hkp);(try clear hy0)))
                 go_roundg k3
                 case measure=>have:=HJ2.out;have:=HK2.out;have:=HK3.out;omega
                 case rel=>exact ⟨(t740),(wrap64 (x36_3+1)),(by first | rfl | (simp;done) | (simp [*];done)),H',⟨by have:=HJ2.out;have:=HK2.out;have:=HK3.out;omega⟩,⟨by (with_reducible repeat (first | apply zz12 | apply zz13 | apply zz14));exact HO_6.out⟩,⟨by (with_reducible repeat (first | apply zz12 | apply zz13 | apply zz14));exact HO_7.out⟩,⟨by (with_reducible repeat (first | refine zz6 ?_ _ | refine zz7 ?_ | refine zz8 ?_ _));exact BK723.out⟩,⟨by (with_reducible repeat (first | refine zz6 ?_ _ | refine zz7 ?_ | refine zz8 ?_ _));exact BK724.out⟩,⟨by repeat first | exact HB.out | apply zz2 | apply zz0 | apply zz1 | refine zz3 ?_ GE723.out | refine zz3 ?_ GE724.out⟩⟩
                ·replace c33:=Bool.eq_false_iff.mpr c33
                 subst c33
                 have H1:(impl_ChooseParty.l1 k3 l1 t727 x7_3 x29_2 (rd l1 x29_2) l1 (l1.length:Int) x29_2 l1 (l1.length:Int) (wrap64 (x36_3+1)))=some (r1,r2,r3):=by rw [if_neg (show ¬ (false=true) by decide)] at H;exact H
                 clear H
                 have H:=H1
                 clear H1
                 have H':=zz31 H
                 clear H
                 have p738:0≤(x36_3:Int):=zz29 (by first | (with_reducible assumption) | assumption)
                 have q738:x36_3 < (l1.length:Int):=zz29 (by first | (with_reducible assumption) | assumption)
                 obtain ⟨ad738,e738,hx738_0⟩:=Kd.at_int HR1.out x36_3 p738 q738
                 obtain rfl:ad737=ad738:=(by injection e738)
                 replace hx738_0:=(HB.out.cell (World.block_lt_of_cell? w _ hx738_0)).trans hx738_0
                 replace p738:=eq_true p738
                 replace q738:=eq_true q738
                 obtain ⟨Ao38,co38,eo38⟩:=Kd.R_slice HO_6.out
                 subst eo38
                 go_wp2_with (first | ((with_reducible refine gate_callee (f:=48) rfl ?_);refine goesL_ (some 44) rfl rfl Try.func48 (by kernel_rfl) rfl #[.slice Ao38 t727.length co38,.int .i64 (rd l1 x29_2),.int .i64 (rd l1 x36_3)] rfl (by (try simp only [zz26,zz27,zz28]);first | done | rfl | (simp only [zz24,zz25];rfl)) ?_;(with_reducible refine (impl_table_has.calls _ _ t727 (rd l1 x29_2) (rd l1 x36_3) false _ ?side1 ?side2 A32.out).mono ?_);(case side1=>repeat (first | exact (Kd.R_reads' HO_6.out).2.2 | (with_reducible refine zz18 ?_ _) | (with_reducible refine zz19 ?_ _) | (with_reducible refine zz20 ?_)));(case side2=>exact (Kd.R_reads' HO_6.out).2.1);rintro e w' ⟨rfl,⟨nd,rfl⟩⟩;refine ⟨_,rfl,?_⟩))
                 go_roundg k3
                 case measure=>have:=HJ2.out;have:=HK2.out;have:=HK3.out;omega
                 case rel=>exact ⟨(x7_3),(wrap64 (x36_3+1)),(by first | rfl | (simp;done) | (simp [*];done)),H',⟨by have:=HJ2.out;have:=HK2.out;have:=HK3.out;omega⟩,⟨by (with_reducible repeat (first | apply zz12 | apply zz13 | apply zz14));exact HO_6.out⟩,⟨by (with_reducible repeat (first | apply zz12 | apply zz13 | apply zz14));exact HO_7.out⟩,⟨by (with_reducible repeat (first | refine zz6 ?_ _ | refine zz7 ?_ | refine zz8 ?_ _));exact BK723.out⟩,⟨by (with_reducible repeat (first | refine zz6 ?_ _ | refine zz7 ?_ | refine zz8 ?_ _));exact BK724.out⟩,⟨by repeat first | exact HB.out | apply zz2 | apply zz0 | apply zz1 | refine zz3 ?_ GE723.out | refine zz3 ?_ GE724.out⟩⟩
               ·rw [if_neg c31] at H
                exact absurd H (by simp)
              ·rw [if_neg c30] at H
               exact absurd H (by simp)
             ·rw [if_neg c29] at H
              have c29b0:decide (x36_3 < (l1.length:Int))=false:=decide_eq_false c29
              clear c29
              have H':=zz31 H
              clear H
              go_wp2
              go_roundg k3
              case measure=>have:=HJ2.out;have:=HK2.out;have:=HK3.out;omega
              case rel=>exact ⟨(x7_3),(wrap64 (x29_2+1)),(by first | rfl | (simp;done) | (simp [*];done)),H',⟨by have:=HJ2.out;have:=HK2.out;have:=HK3.out;omega⟩,⟨by (with_reducible repeat (first | apply zz12 | apply zz13 | apply zz14));exact HO_6.out⟩,⟨by (with_reducible repeat (first | apply zz12 | apply zz13 | apply zz14));exact HO_7.out⟩,⟨by (with_reducible repeat (first | refine zz6 ?_ _ | refine zz7 ?_ | refine zz8 ?_ _));exact BK723.out⟩,⟨by (with_reducible repeat (first | refine zz6 ?_ _ | refine zz7 ?_ | refine zz8 ?_ _));exact BK724.out⟩,⟨by repeat first | exact HB.out | apply zz2 | apply zz0 | apply zz1 | refine zz3 ?_ GE723.out | refine zz3 ?_ GE724.out⟩⟩
          ·rw [if_neg c28] at H
           exact absurd H (by simp)
         ·rw [if_neg c27] at H
          exact absurd H (by simp)
        ·rw [if_neg c26] at H
         have c26b0:decide (x29_2 < (l1.length:Int))=false:=decide_eq_false c26
         clear c26
         replace H:=zz30.mp H
         obtain ⟨⟨t733,t734⟩,A390,H⟩:=H
         replace H:(some (t733,t734,true))=some (r1,r2,r3):=H
         have A39:=zz31 A390
         clear A390
         simp only [Option.some.injEq,Prod.mk.injEq] at H
         obtain ⟨rfl,rfl,rfl⟩:=H
         obtain ⟨Ao40,co40,eo40⟩:=Kd.R_slice HO_7.out
         subst eo40
         go_wp2_with (first | ((with_reducible refine gate_callee (f:=67) rfl ?_);refine goesL_ (some 52) rfl rfl Try.func67 (by kernel_rfl) rfl #[.slice Ao40 x7_2.length co40] rfl (by (try simp only [zz26,zz27,zz28]);first | done | rfl | (simp only [zz24,zz25];rfl)) ?_;(with_reducible refine (impl_table_party.calls k2 _ _ x7_2 t733 t734 _ ?side1 ?side2 A39.out).mono ?_);(case side1=>repeat (first | exact (Kd.R_reads' HO_7.out).2.2 | (with_reducible refine zz18 ?_ _) | (with_reducible refine zz19 ?_ _) | (with_reducible refine zz20 ?_)));(case side2=>exact (Kd.R_reads' HO_7.out).2.1);rintro e w41 ⟨v735,rfl,ho0,hb⟩;refine ⟨_,rfl,?_⟩;have n0_:=zz31 (Kd.R_below (by (with_reducible repeat (first | apply zz12 | apply zz13 | apply zz14));exact HO_6.out) hb);have n1_:=zz31 (Kd.R_below (by (with_reducible repeat (first | apply zz12 | apply zz13 | apply zz14));exact HO_7.out) hb);have n2_:=zz31 (Kd.R_lower ho0 (zz5 (by repeat first | exact HB.out | apply zz2 | apply zz0 | apply zz1 | refine zz3 ?_ GE723.out | refine zz3 ?_ GE724.out)));have n3_:=zz31 (zz11 (g:=gb723) (o:=.cells #[.int .i64 a0_0,.slice A0_1 l0_1.length c0_1] 30 (0,0)) (by (with_reducible repeat (first | refine zz6 ?_ _ | refine zz7 ?_ | refine zz8 ?_ _));exact BK723.out) hb);have n4_:=zz31 (zz11 (g:=gb724) (o:=.cells #[.int .i64 0,.slice none 0 0] 30 (0,0)) (by (with_reducible repeat (first | refine zz6 ?_ _ | refine zz7 ?_ | refine zz8 ?_ _));exact BK724.out) hb);have n5_:=zz31 (zz4 (by repeat first | exact HB.out | apply zz2 | apply zz0 | apply zz1 | refine zz3 ?_ GE723.out | refine zz3 ?_ GE724.out) hb);clear HO_6;clear HO_7;clear BK723;clear BK724;clear HB;have HO_6:=n0_;have HO_7:=n1_;have HO736:=n2_;have BK723:=n3_;have BK724:=n4_;have HB:=n5_;clear n0_ n1_ n2_ n3_ n4_ n5_;(try clear hb);(try clear hb2);(try clear hk);(try clear hi);(try clear ho0);have hnb42:=NB724_723.out;have hnc42:=NB723_724.out;have hcz43_0:w41.cell? ⟨gb724,0,none⟩=some (.int .i64 0):=(zz9 BK724.out 0).trans rfl;have hcz43_1:w41.cell? ⟨gb724,1,none⟩=some (.slice none 0 0):=(zz9 BK724.out 1).trans rfl;have hfz43_0:=zz10 BK724.out 0;have hfz43_1:=zz10 BK724.out 1;obtain ⟨Ao44,co44,eo44⟩:=Kd.R_slice HO736.out;subst eo44))
         refine bodyPost_ret (results_ct rfl _ _ gb724 30 #[.int .i64 t733,.slice Ao44 t734.length co44] (0,0) _ rfl (by (with_reducible repeat (first | refine zz6 ?_ _ | refine zz7 ?_ | refine zz8 ?_ _));refine blk_put (cs:=#[.int .i64 t733,.slice none 0 0]) ?_ 1 _ rfl;(with_reducible repeat (first | refine zz6 ?_ _ | refine zz7 ?_ | refine zz8 ?_ _));refine blk_put (cs:=#[.int .i64 0,.slice none 0 0]) ?_ 0 _ rfl;(with_reducible repeat (first | refine zz6 ?_ _ | refine zz7 ?_ | refine zz8 ?_ _));exact BK724.out) Try.underlying30 rfl (by kernel_rfl)) rfl ?_
         exact ⟨_,by first | rfl | (simp [errW_none,errW_some] <;> rfl) | (simp [*,errW_none,errW_some] <;> rfl),by (with_reducible repeat (first | apply zz12 | apply zz13 | apply zz14));exact Kd.R_mono (Kd.R_far (p:=⟨gb724,1,none⟩) (Kd.R_far (p:=⟨gb724,0,none⟩) (Kd.R_types HO736.out BK724.out (by decide)) (fun _ hk=>hk.2) (.int .i64 t733)) (fun _ hk=>hk.2) (.slice Ao44 t734.length co44)) (fun _ hk=>trivial),by repeat first | exact HB.out | apply zz2 | apply zz0 | apply zz1 | refine zz3 ?_ GE723.out | refine zz3 ?_ GE724.out⟩
     ·rw [if_neg c20] at H
      exact absurd H (by simp)
    ·rw [if_neg c19] at H
     exact absurd H (by simp)

end Go.Proofs.Ytialimbdkokdcaa.P
