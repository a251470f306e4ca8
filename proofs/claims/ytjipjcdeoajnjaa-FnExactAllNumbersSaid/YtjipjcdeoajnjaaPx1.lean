-- PRINTED by print.py (a twelfth state) out of the translation. Not trusted: Lean checks it.
import Derived.Test.YtjipjcdeoajnjaaPx0
namespace Go.Proofs.Ytjipjcdeoajnjaa.P
open Go.RowKit Go.Proofs.YtjipjcdeoajnjaaW.PrintWords Go.Proofs.YtjipjcdeoajnjaaW.PrintLast Go.Proofs.YtjipjcdeoajnjaaW.PrintMore
open Bool renaming true → T, false → F
attribute [local go_sem] max2_int min2_int max_two min_two max_three min_three max_four min_four   -- for this text's walks alone
set_option linter.unusedVariables false
set_option linter.unusedSimpArgs false

/-! ### spec_l1In: function 76 -/
def spec_l1In.f (a0:Int) (a1:Int) (a2:Int):Option (Bool):=if a0 ≥ a1 then (some (decide (a0≤a2))) else (some false)
set_option maxHeartbeats 8000000 in
set_option maxRecDepth 100000 in
theorem spec_l1In.calls (a0:Int) (a1:Int) (a2:Int) (r:Bool) (w:World) (h:spec_l1In.f a0 a1 a2=some r) :
  Calls Try.prog 76 #[.int .i64 a0,.int .i64 a1,.int .i64 a2] w fun e w'=>e=.returned (.bool r)∧Drawn0 w w':=by
 have H:(if a0 ≥ a1 then (some (decide (a0≤a2))) else (some false))=some r:=h
 clear h
 by_cases c4:a0 ≥ a1
 ·rw [if_pos c4] at H
  have c4b0:decide (a1≤a0)=true:=decide_eq_true c4
  clear c4
  obtain rfl:=Option.some.inj H
  go_enter Try.func76,Try.ntmps76
  go_wp2
  go_ret
  exact ⟨by first | rfl | (simp;done) | (simp [*];done),by repeat (first | exact Drawn0.refl _ | apply Drawn0.step)⟩
 ·rw [if_neg c4] at H
  have c4b0:decide (a1≤a0)=false:=decide_eq_false c4
  clear c4
  obtain rfl:=Option.some.inj H
  go_enter Try.func76,Try.ntmps76
  go_wp2
  go_ret
  exact ⟨by first | rfl | (simp;done) | (simp [*];done),by repeat (first | exact Drawn0.refl _ | apply Drawn0.step)⟩

/-! ### spec_l1Own: function 59 -/
def spec_l1Own.f (l0:List Int):Option (List Int):=(some (([]:List Int):List Int)).bind fun y101=>(if y101.length+l0.length < 17592186044416 then (some (y101 ++ l0)) else (none))
set_option maxHeartbeats 8000000 in
set_option maxRecDepth 100000 in
theorem spec_l1Own.calls (A0:Option Addr) (c0:Nat) (l0:List Int) (r:List Int) (w:World) (hr0:Kd.C (Kd.int .i64) w A0 l0.length l0) (hc0:l0.length≤c0) (h:spec_l1Own.f l0=some r) :
  Calls Try.prog 59 #[.slice A0 l0.length c0] w fun e w'=>∃ v0_:Value,e=.returned (v0_)∧Kd.R (Kd.int .i64) 3 w' w.heap.size (fun _=>True) v0_ r∧Below w.heap.size w w':=by
 have HR0:=zz31 hr0
 have HC0:=zz31 hc0
 clear hr0 hc0
 have HB:=zz31 (Below.refl w.heap.size w)
 have H:((some (([]:List Int):List Int)).bind fun y101=>(if y101.length+l0.length < 17592186044416 then (some (y101 ++ l0)) else (none)))=some r:=h
 clear h
 obtain ⟨y101,hy101⟩:∃ y_:List Int,y_=(([]:List Int)):=⟨_,rfl⟩
 replace H:(if y101.length+l0.length < 17592186044416 then (some (y101 ++ l0)) else (none))=some r:=by first | (rw [hy101];with_reducible exact H) | (have H2_:=(Option.bind_some _ _).symm.trans H;rw [hy101];with_reducible exact H2_) | (have H2_:=(Option.bind_some _ _).symm.trans H;with_reducible exact H2_) | with_reducible exact H | (rw [hy101];exact H) | exact H
 have Ny101:=zz31 hy101
 clear hy101
 by_cases c2:y101.length+l0.length < 17592186044416
 ·rw [if_pos c2] at H
  have LMc2:=zz31 c2
  clear c2
  obtain ⟨y104,hy104⟩:∃ y_:List Int,y_=(y101 ++ l0):=⟨_,rfl⟩
  replace H:(some y104)=some r:=by first | (rw [hy104];with_reducible exact H) | (have H2_:=(Option.bind_some _ _).symm.trans H;rw [hy104];with_reducible exact H2_) | (have H2_:=(Option.bind_some _ _).symm.trans H;with_reducible exact H2_) | with_reducible exact H | (rw [hy104];exact H) | exact H
  have Ny104:=zz31 hy104
  clear hy104
  obtain rfl:=Option.some.inj H
  go_enter Try.func59,Try.ntmps59
  go_wp2_with (first | ((with_reducible refine gate_dst (N:=3) rfl ?_);refine Kd.R_lit (Kd.int .i64) _ 3 ?hg (N:=3) ?hd (xs:=([]:List Int)) (inner:=[]) (ok:=fun _=>True) (okp:=fun _=>True) ?hr ?hp (fun _ hk=>hk) trivial (Below.refl _ _) (Nat.le_refl _) (by simp) ?_;(case hd=>rfl);(case hg=>rfl);(case hr=>first | (go_simp;done) | (go_simp;rfl));(case hp=>exact (Reps.none _ _));intro v102 w3 ho4 hb hg_ hnew_;clear hg_ hnew_;(first | rw [← Ny101.out] at ho4 | (simp only [Int.reduceToNat] at ho4;rw [← Ny101.out] at ho4));have n0_:=zz31 (Kd.R_lower ho4 (zz5 (by repeat first | exact HB.out | apply zz2 | apply zz0 | apply zz1)));have n1_:=zz31 (zz4 (by repeat first | exact HB.out | apply zz2 | apply zz0 | apply zz1) hb);clear HB;have HO103:=n0_;have HB:=n1_;clear n0_ n1_;clear hb ho4) | ((with_reducible refine gate_builtin (b:=.append) (xs:=#[.tmp 3,.tmp 4]) rfl ?_);at_builtin;refine Kd.R_append_rows (Kd.int .i64) (w0:=w) w.heap.size rfl (.tmp 3) (.tmp 4) 22 3 (.int .i64 0) 8 rfl Try.underlying22 info3 rfl (by decide) (by omega) v102 y101 l0 _ _ _ (fun _=>True) (fun _=>False) rfl rfl ?aO ?aR (fun _ _ h=>h) (fun _ h=>h.elim) ?aF ?aB ?aS ?aL ?_;(case aR=>repeat (first | exact (Kd.C_below HR0.out HB.out) | (with_reducible refine zz18 ?_ _) | (with_reducible refine zz19 ?_ _) | (with_reducible refine zz20 ?_)));(case aB=>exact (by repeat first | exact HB.out | apply zz2 | apply zz0 | apply zz1));(case aF=>exact (fun _ _=>trivial));(case aO=>exact (by (with_reducible repeat (first | apply zz12 | apply zz13 | apply zz14));exact HO103.out));(case aS=>exact (zz5 (by repeat first | exact HB.out | apply zz2 | apply zz0 | apply zz1)));(case aL=>have:=LMc2.out;omega);intro v105 w5 ho hb hg hat;rw [← Ny104.out] at ho;have n0_:=zz31 (hb);have n1_:=zz31 (ho);clear HB;clear HO103;have HB:=n0_;have HO106:=n1_;clear n0_ n1_;clear ho hb hg hat))
  go_ret
  exact ⟨_,by first | rfl | (simp [errW_none,errW_some] <;> rfl) | (simp [*,errW_none,errW_some] <;> rfl),by (with_reducible repeat (first | apply zz12 | apply zz13 | apply zz14));exact HO106.out,by repeat first | exact HB.out | apply zz2 | apply zz0 | apply zz1⟩
 ·rw [if_neg c2] at H
  exact absurd H (by simp)

/-! ### spec_deSum: function 58 -/
def spec_deSum.l0:Nat→Int→List Int→Int→Int→Option (Int)
 | 0,_,_,_,_=>none
 | k+1,x3,x6,x7,x8=>if x8 < x7 then (if 0≤x8 then (if x8 < (x6.length:Int) then (spec_deSum.l0 k (wrap64 (x3+(rd x6 x8))) x6 x7 (wrap64 (x8+1))) else (none)) else (none)) else (some x3)
def spec_deSum.f (k:Nat) (l0:List Int):Option (Int):=spec_deSum.l0 k 0 l0 (l0.length:Int) 0
theorem spec_deSum.mono_l:∀ k,(∀ y0 y1 y2 y3,LeO (spec_deSum.l0 k y0 y1 y2 y3) (spec_deSum.l0 (k+1) y0 y1 y2 y3))
 | 0=>fun _ _ _ _ r h=>by simp [spec_deSum.l0] at h
 | k+1=>by
  have ih0:=spec_deSum.mono_l k
  ·intro y0 y1 y2 y3
   unfold spec_deSum.l0
   repeat' first
   | (with_reducible exact ih0 _ _ _ _)
   | (with_reducible exact LeO.refl _)
   | (with_reducible exact LeO.none _)
   | (with_reducible refine LeO.ite ?_ ?_)
   | (with_reducible refine LeO.bind ?_ (fun _=>?_))
   | exact ih0 _ _ _ _
   | exact LeO.none _
   | refine LeO.ite ?_ ?_
   | refine LeO.bind ?_ (fun _=>?_)
theorem spec_deSum.mono:∀ a0 k,LeO (spec_deSum.f k a0) (spec_deSum.f (k+1) a0):=by
 intro a0 k
 have ih0:=spec_deSum.mono_l k
 unfold spec_deSum.f
 repeat' first
   | (with_reducible exact ih0 _ _ _ _)
   | (with_reducible exact LeO.refl _)
   | (with_reducible exact LeO.none _)
   | (with_reducible refine LeO.ite ?_ ?_)
   | (with_reducible refine LeO.bind ?_ (fun _=>?_))
   | exact ih0 _ _ _ _
   | exact LeO.none _
   | refine LeO.ite ?_ ?_
   | refine LeO.bind ?_ (fun _=>?_)
set_option maxHeartbeats 8000000 in
set_option maxRecDepth 100000 in
theorem spec_deSum.calls (k:Nat) (A0:Option Addr) (c0:Nat) (l0:List Int) (r:Int) (w:World) (hr0:Kd.C (Kd.int .i64) w A0 l0.length l0) (hc0:l0.length≤c0) (h:spec_deSum.f k l0=some r) :
  Calls Try.prog 58 #[.slice A0 l0.length c0] w fun e w'=>e=.returned (.int .i64 r)∧Drawn0 w w':=by
 have HR0:=zz31 hr0
 have HC0:=zz31 hc0
 clear hr0 hc0
 have H:(spec_deSum.l0 k 0 l0 (l0.length:Int) 0)=some r:=h
 clear h
 have H':=zz31 H
 clear H
 go_enter Try.func58,Try.ntmps58
 go_wp2
 go_loopg [3,8] k (fun kq v3 v8 w'=>∃ (x3_1:Int) (x8_1:Int),v3=.int .i64 x3_1∧v8=.int .i64 x8_1∧Aside0 (spec_deSum.l0 kq x3_1 l0 (l0.length:Int) x8_1=some r)∧Aside0 (kq≤k)∧Drawn0 w w')
 case atStart=>exact ⟨(0),(0),(by first | rfl | (simp;done) | (simp [*];done)),(by first | rfl | (simp;done) | (simp [*];done)),H',⟨Nat.le_refl _⟩,by repeat (first | exact Drawn0.refl _ | apply Drawn0.step)⟩
 case round =>
  clear H'
  obtain ⟨x3_1,x8_1,rfl,rfl,HA,HK1,⟨m1,rfl⟩⟩:=hrel
  cases gk with
  | zero=>exact absurd HA.out (by simp [spec_deSum.l0])
  | succ k1 =>
   have H:=HA.out
   clear HA
   simp only [spec_deSum.l0] at H
   by_cases c2:x8_1 < (l0.length:Int)
   ·rw [if_pos c2] at H
    have c2b0:decide (x8_1 < (l0.length:Int))=true:=decide_eq_true c2
    clear c2
    by_cases c3:0≤x8_1
    ·rw [if_pos c3] at H
     have c3b0:decide (0≤x8_1)=true:=decide_eq_true c3
     clear c3
     by_cases c4:x8_1 < (l0.length:Int)
     ·rw [if_pos c4] at H
      have c4b0:decide (x8_1 < (l0.length:Int))=true:=decide_eq_true c4
      clear c4
      have H':=zz31 H
      clear H
      have p107:0≤(x8_1:Int):=zz29 (by first | (with_reducible assumption) | assumption)
      have q107:x8_1 < (l0.length:Int):=zz29 (by first | (with_reducible assumption) | assumption)
      obtain ⟨ad107,e107,hx107_0⟩:=Kd.at_int HR0.out x8_1 p107 q107
      cases e107
      replace p107:=eq_true p107
      replace q107:=eq_true q107
      go_wp2
      go_roundg k1
      case measure=>have:=HK1.out;omega
      case rel=>exact ⟨(wrap64 (x3_1+(rd l0 x8_1))),(wrap64 (x8_1+1)),(by first | rfl | (simp;done) | (simp [*];done)),(by first | rfl | (simp;done) | (simp [*];done)),H',⟨by have:=HK1.out;omega⟩,by repeat (first | exact Drawn0.refl _ | apply Drawn0.step)⟩
     ·rw [if_neg c4] at H
      exact absurd H (by simp)
    ·rw [if_neg c3] at H
     exact absurd H (by simp)
   ·rw [if_neg c2] at H
    have c2b0:decide (x8_1 < (l0.length:Int))=false:=decide_eq_false c2
    clear c2
    obtain rfl:=Option.some.inj H
    go_wp2
    go_ret
    exact ⟨by first | rfl | (simp;done) | (simp [*];done),by repeat (first | exact Drawn0.refl _ | apply Drawn0.step)⟩

/-! ### spec_deSorted: function 70 -/
mutual
def spec_deSorted.l0:Nat→List Int→List Int→Int→Option (List Int)
 | 0,_,_,_=>none
 | k+1,x0,x3,x4=>if x4 ≥ 0 then (spec_deSorted.l1 k x0 x3 x4 x0 (x0.length:Int) 0) else (some x3)
def spec_deSorted.l1:Nat→List Int→List Int→Int→List Int→Int→Int→Option (List Int)
 | 0,_,_,_,_,_,_=>none
 | k+1,x0,x3,x4,x13,x14,x15=>if x15 < x14 then (if 0≤x15 then (if x15 < (x13.length:Int) then (if x4=(rd x13 x15) then (if x3.length < 17592186044416 then (spec_deSorted.l1 k x0 (x3 ++ [x4]) x4 x13 x14 (wrap64 (x15+1))) else (none)) else (spec_deSorted.l1 k x0 x3 x4 x13 x14 (wrap64 (x15+1)))) else (none)) else (none)) else (spec_deSorted.l0 k x0 x3 (wrap64 (x4 - 1)))
end
def spec_deSorted.f (k:Nat) (l0:List Int):Option (List Int):=spec_deSorted.l0 k l0 ([]:List Int) (l0.length:Int)
theorem spec_deSorted.mono_l:∀ k,(∀ y0 y1 y2,LeO (spec_deSorted.l0 k y0 y1 y2) (spec_deSorted.l0 (k+1) y0 y1 y2))∧(∀ y0 y1 y2 y3 y4 y5,LeO (spec_deSorted.l1 k y0 y1 y2 y3 y4 y5) (spec_deSorted.l1 (k+1) y0 y1 y2 y3 y4 y5))
 | 0=>⟨fun _ _ _ r h=>by simp [spec_deSorted.l0] at h,fun _ _ _ _ _ _ r h=>by simp [spec_deSorted.l1] at h⟩
 | k+1=>by
  obtain ⟨ih0,ih1⟩:=spec_deSorted.mono_l k
  refine ⟨?_,?_⟩
  ·intro y0 y1 y2
   unfold spec_deSorted.l0
   repeat' first
   | (with_reducible exact ih0 _ _ _)
   | (with_reducible exact ih1 _ _ _ _ _ _)
   | (with_reducible exact LeO.refl _)
   | (with_reducible exact LeO.none _)
   | (with_reducible refine LeO.ite ?_ ?_)
   | (with_reducible refine LeO.bind ?_ (fun _=>?_))
   | exact ih0 _ _ _
   | exact ih1 _ _ _ _ _ _
   | exact LeO.none _
   | refine LeO.ite ?_ ?_
   | refine LeO.bind ?_ (fun _=>?_)
  ·intro y0 y1 y2 y3 y4 y5
   unfold spec_deSorted.l1
   repeat' first
   | (with_reducible exact ih0 _ _ _)
   | (with_reducible exact ih1 _ _ _ _ _ _)
   | (with_reducible exact LeO.refl _)
   | (with_reducible exact LeO.none _)
   | (with_reducible refine LeO.ite ?_ ?_)
   | (with_reducible refine LeO.bind ?_ (fun _=>?_))
   | exact ih0 _ _ _
   | exact ih1 _ _ _ _ _ _
   | exact LeO.none _
   | refine LeO.ite ?_ ?_
   | refine LeO.bind ?_ (fun _=>?_)
theorem spec_deSorted.mono:∀ a0 k,LeO (spec_deSorted.f k a0) (spec_deSorted.f (k+1) a0):=by
 intro a0 k
 obtain ⟨ih0,ih1⟩:=spec_deSorted.mono_l k
 unfold spec_deSorted.f
 repeat' first
   | (with_reducible exact ih0 _ _ _)
   | (with_reducible exact ih1 _ _ _ _ _ _)
   | (with_reducible exact LeO.refl _)
   | (with_reducible exact LeO.none _)
   | (with_reducible refine LeO.ite ?_ ?_)
   | (with_reducible refine LeO.bind ?_ (fun _=>?_))
   | exact ih0 _ _ _
   | exact ih1 _ _ _ _ _ _
   | exact LeO.none _
   | refine LeO.ite ?_ ?_
   | refine LeO.bind ?_ (fun _=>?_)
set_option maxHeartbeats 8000000 in
set_option maxRecDepth 100000 in
theorem spec_deSorted.calls (k:Nat) (A0:Option Addr) (c0:Nat) (l0:List Int) (r:List Int) (w:World) (hr0:Kd.C (Kd.int .i64) w A0 l0.length l0) (hc0:l0.length≤c0) (h:spec_deSorted.f k l0=some r) :
  Calls Try.prog 70 #[.slice A0 l0.length c0] w fun e w'=>∃ v0_:Value,e=.returned (v0_)∧Kd.R (Kd.int .i64) 3 w' w.heap.size (fun _=>True) v0_ r∧Below w.heap.size w w':=by
 have HR0:=zz31 hr0
 have HC0:=zz31 hc0
 clear hr0 hc0
 have HB:=zz31 (Below.refl w.heap.size w)
 have H:(spec_deSorted.l0 k l0 ([]:List Int) (l0.length:Int))=some r:=h
 clear h
 have H':=zz31 H
 clear H
 go_enter Try.func70,Try.ntmps70
 go_wp2
 go_loopg [3,4] k (fun kq v3 v4 w'=>∃ (x3_1:List Int) (x4_1:Int),v4=.int .i64 x4_1∧Aside0 (spec_deSorted.l0 kq l0 x3_1 x4_1=some r)∧Aside0 (kq≤k)∧Aside0 (Kd.R (Kd.int .i64) 3 w' w.heap.size (fun _=>True) v3 x3_1)∧Aside0 (Below w.heap.size w w'))
 case atStart=>exact ⟨(([]:List Int)),((l0.length:Int)),(by first | rfl | (simp;done) | (simp [*];done)),H',⟨Nat.le_refl _⟩,⟨by first | exact Kd.R_nil _ _ _ _ _ | exact Kd.N_nil _ _ _ _ _ | exact Kd.V_nil _ _ _ _ _ | exact Kd.Q_nil _ _ _ _ _ | exact Kd.S_nil _ _ _ _ _⟩,⟨by repeat first | exact HB.out | apply zz2 | apply zz0 | apply zz1⟩⟩
 case round =>
  clear H'
  obtain ⟨x3_1,x4_1,rfl,HA,HK1,HO_3,HB⟩:=hrel
  cases gk with
  | zero=>exact absurd HA.out (by simp [spec_deSorted.l0])
  | succ k1 =>
   have H:=HA.out
   clear HA
   simp only [spec_deSorted.l0] at H
   by_cases c2:x4_1 ≥ 0
   ·rw [if_pos c2] at H
    have c2b0:decide (0≤x4_1)=true:=decide_eq_true c2
    clear c2
    have H':=zz31 H
    clear H
    go_wp2
    go_loopg [3,15] k1 (fun kq v3 v15 w'=>∃ (x3_2:List Int) (x15_2:Int),v15=.int .i64 x15_2∧Aside0 (spec_deSorted.l1 kq l0 x3_2 x4_1 l0 (l0.length:Int) x15_2=some r)∧Aside0 (kq≤k1)∧Aside0 (Kd.R (Kd.int .i64) 3 w' w.heap.size (fun _=>True) v3 x3_2)∧Aside0 (Below w.heap.size w w'))
    case atStart=>exact ⟨(x3_1),(0),(by first | rfl | (simp;done) | (simp [*];done)),H',⟨Nat.le_refl _⟩,⟨by (with_reducible repeat (first | apply zz12 | apply zz13 | apply zz14));exact HO_3.out⟩,⟨by repeat first | exact HB.out | apply zz2 | apply zz0 | apply zz1⟩⟩
    case round =>
     clear H'
     try clear c2
     try clear c2b0
     try clear p2
     obtain ⟨x3_2,x15_2,rfl,HA,HK2,HO_3,HB⟩:=hrel
     cases gk with
     | zero=>exact absurd HA.out (by simp [spec_deSorted.l1])
     | succ k2 =>
      have H:=HA.out
      clear HA
      simp only [spec_deSorted.l1] at H
      by_cases c3:x15_2 < (l0.length:Int)
      ·rw [if_pos c3] at H
       have c3b0:decide (x15_2 < (l0.length:Int))=true:=decide_eq_true c3
       clear c3
       by_cases c4:0≤x15_2
       ·rw [if_pos c4] at H
        have c4b0:decide (0≤x15_2)=true:=decide_eq_true c4
        clear c4
        by_cases c5:x15_2 < (l0.length:Int)
        ·rw [if_pos c5] at H
         have c5b0:decide (x15_2 < (l0.length:Int))=true:=decide_eq_true c5
         clear c5
         by_cases c6:x4_1=(rd l0 x15_2)
         ·rw [if_pos c6] at H
          have c6b0:(x4_1 == (rd l0 x15_2))=true:=beq_iff_eq.mpr c6
          have c6b1:(x4_1 != (rd l0 x15_2))=false:=bne_eq_false_iff_eq.mpr c6
          clear c6
          by_cases c7:x3_2.length < 17592186044416
          ·rw [if_pos c7] at H
           have LMc7:=zz31 c7
           clear c7
           obtain ⟨y109,hy109⟩:∃ y_:List Int,y_=(x3_2 ++ [x4_1]):=⟨_,rfl⟩
           replace H:(spec_deSorted.l1 k2 l0 y109 x4_1 l0 (l0.length:Int) (wrap64 (x15_2+1)))=some r:=by first | (rw [hy109];with_reducible exact H) | (have H2_:=(Option.bind_some _ _).symm.trans H;rw [hy109];with_reducible exact H2_) | (have H2_:=(Option.bind_some _ _).symm.trans H;with_reducible exact H2_) | with_reducible exact H | (rw [hy109];exact H) | exact H
           have Ny109:=zz31 hy109
           clear hy109
           have H':=zz31 H
           clear H
           have p108:0≤(x15_2:Int):=zz29 (by first | (with_reducible assumption) | assumption)
           have q108:x15_2 < (l0.length:Int):=zz29 (by first | (with_reducible assumption) | assumption)
           obtain ⟨ad108,e108,hx108_0⟩:=Kd.at_int HR0.out x15_2 p108 q108
           cases e108
           try replace hx108_0:=(HB.out.cell (World.block_lt_of_cell? w _ hx108_0)).trans hx108_0
           replace p108:=eq_true p108
           replace q108:=eq_true q108
           go_wp2_with (first | ((with_reducible refine gate_builtin (b:=.append) (xs:=#[.tmp 22,.tmp 24]) rfl ?_);at_builtin;refine Kd.R_append (Kd.int .i64) (w0:=w) w.heap.size rfl (.tmp 22) (.tmp 24) 22 3 (.int .i64 0) 8 rfl Try.underlying22 info3 rfl (by decide) (by omega) u3 x3_2 x4_1 [.int .i64 x4_1] (fun _=>True) (fun _=>False) rfl rfl ?aP (fun _ hk=>hk.elim) ?aF ?aO ?aB ?aS ?aL ?_;(case aP=>exact rfl);(case aB=>exact (by repeat first | exact HB.out | apply zz2 | apply zz0 | apply zz1));(case aF=>exact (fun _ _=>trivial));(case aO=>exact (by (with_reducible repeat (first | apply zz12 | apply zz13 | apply zz14));exact HO_3.out));(case aS=>exact (zz5 (by repeat first | exact HB.out | apply zz2 | apply zz0 | apply zz1)));(case aL=>have:=LMc7.out;omega);intro v110 w8 ho hb hg hat;rw [← Ny109.out] at ho;have n0_:=zz31 (hb);have n1_:=zz31 (ho);clear HB;clear HO_3;have HB:=n0_;have HO111:=n1_;clear n0_ n1_;clear ho hb hg hat))
           go_roundg k2
           case measure=>have:=HK1.out;have:=HK2.out;omega
           case rel=>exact ⟨(y109),(wrap64 (x15_2+1)),(by first | rfl | (simp;done) | (simp [*];done)),H',⟨by have:=HK1.out;have:=HK2.out;omega⟩,⟨by (with_reducible repeat (first | apply zz12 | apply zz13 | apply zz14));exact HO111.out⟩,⟨by repeat first | exact HB.out | apply zz2 | apply zz0 | apply zz1⟩⟩
          ·rw [if_neg c7] at H
           exact absurd H (by simp)
         ·rw [if_neg c6] at H
          have c6b0:(x4_1 == (rd l0 x15_2))=false:=beq_eq_false_iff_ne.mpr c6
          have c6b1:(x4_1 != (rd l0 x15_2))=true:=bne_iff_ne.mpr c6
          have H':=zz31 H
          clear H
          have p108:0≤(x15_2:Int):=zz29 (by first | (with_reducible assumption) | assumption)
          have q108:x15_2 < (l0.length:Int):=zz29 (by first | (with_reducible assumption) | assumption)
          obtain ⟨ad108,e108,hx108_0⟩:=Kd.at_int HR0.out x15_2 p108 q108
          cases e108
          try replace hx108_0:=(HB.out.cell (World.block_lt_of_cell? w _ hx108_0)).trans hx108_0
          replace p108:=eq_true p108
          replace q108:=eq_true q108
          go_wp2
          go_roundg k2
          case measure=>have:=HK1.out;have:=HK2.out;omega
          case rel=>exact ⟨(x3_2),(wrap64 (x15_2+1)),(by first | rfl | (simp;done) | (simp [*];done)),H',⟨by have:=HK1.out;have:=HK2.out;omega⟩,⟨by (with_reducible repeat (first | apply zz12 | apply zz13 | apply zz14));exact HO_3.out⟩,⟨by repeat first | exact HB.out | apply zz2 | apply zz0 | apply zz1⟩⟩
        ·rw [if_neg c5] at H
         exact absurd H (by simp)
       ·rw [if_neg c4] at H
        exact absurd H (by simp)
      ·rw [if_neg c3] at H
       have c3b0:decide (x15_2 < (l0.length:Int))=false:=decide_eq_false c3
       clear c3
       have H':=zz31 H
       clear H
       go_wp2
       go_roundg k2
       case measure=>have:=HK1.out;have:=HK2.out;omega
       case rel=>exact ⟨(x3_2),(wrap64 (x4_1 - 1)),(by first | rfl | (simp;done) | (simp [*];done)),H',⟨by have:=HK1.out;have:=HK2.out;omega⟩,⟨by (with_reducible repeat (first | apply zz12 | apply zz13 | apply zz14));exact HO_3.out⟩,⟨by repeat first | exact HB.out | apply zz2 | apply zz0 | apply zz1⟩⟩
   ·rw [if_neg c2] at H
    have c2b0:decide (0≤x4_1)=false:=decide_eq_false c2
    clear c2
    obtain rfl:=Option.some.inj H
    go_wp2
    go_ret
    exact ⟨_,by first | rfl | (simp [errW_none,errW_some] <;> rfl) | (simp [*,errW_none,errW_some] <;> rfl),by (with_reducible repeat (first | apply zz12 | apply zz13 | apply zz14));exact HO_3.out,by repeat first | exact HB.out | apply zz2 | apply zz0 | apply zz1⟩

/-! ### spec_l1Least: function 96 -/
def spec_l1Least.f (a0:Int) (a1:Int):Option (Int):=if a0 < a1 then (some a0) else (some a1)
set_option maxHeartbeats 8000000 in
set_option maxRecDepth 100000 in
theorem spec_l1Least.calls (a0:Int) (a1:Int) (r:Int) (w:World) (h:spec_l1Least.f a0 a1=some r) :
  Calls Try.prog 96 #[.int .i64 a0,.int .i64 a1] w fun e w'=>e=.returned (.int .i64 r)∧Drawn0 w w':=by
 have H:(if a0 < a1 then (some a0) else (some a1))=some r:=h
 clear h
 by_cases c3:a0 < a1
 ·rw [if_pos c3] at H
  have c3b0:decide (a0 < a1)=true:=decide_eq_true c3
  clear c3
  obtain rfl:=Option.some.inj H
  go_enter Try.func96,Try.ntmps96
  go_wp2
  go_ret
  exact ⟨by first | rfl | (simp;done) | (simp [*];done),by repeat (first | exact Drawn0.refl _ | apply Drawn0.step)⟩
 ·rw [if_neg c3] at H
  have c3b0:decide (a0 < a1)=false:=decide_eq_false c3
  clear c3
  obtain rfl:=Option.some.inj H
  go_enter Try.func96,Try.ntmps96
  go_wp2
  go_ret
  exact ⟨by first | rfl | (simp;done) | (simp [*];done),by repeat (first | exact Drawn0.refl _ | apply Drawn0.step)⟩

/-! ### spec_deFails: function 72 -/
mutual
def spec_deFails.l0:Nat→List Int→Int→Int→Option (Int)
 | 0,_,_,_=>none
 | k+1,x3,x4,x5=>if x5≤(x3.length:Int) then (if 0≤(wrap64 (x5 - 1)) then (if (wrap64 (x5 - 1)) < (x3.length:Int) then (if 0≤x5 then ((some (x3.drop (x5:Int).toNat:List Int)).bind fun y116=>(spec_deFails.l1 k x3 (wrap64 (x4+(rd x3 (wrap64 (x5 - 1))))) x5 (wrap64 (x5 * (wrap64 (x5 - 1)))) y116 (y116.length:Int) 0)) else (none)) else (none)) else (none)) else (some 0)
def spec_deFails.l1:Nat→List Int→Int→Int→Int→List Int→Int→Int→Option (Int)
 | 0,_,_,_,_,_,_,_=>none
 | k+1,x3,x4,x5,x6,x30,x31,x32=>if x32 < x31 then (if 0≤x32 then (if x32 < (x30.length:Int) then ((spec_l1Least.f x5 (rd x30 x32)).bind fun t121=>(spec_deFails.l1 k x3 x4 x5 (wrap64 (x6+t121)) x30 x31 (wrap64 (x32+1)))) else (none)) else (none)) else (if x4 > x6 then (some x5) else (spec_deFails.l0 k x3 x4 (wrap64 (x5+1))))
end
def spec_deFails.f (k:Nat) (l0:List Int):Option (Int):=(spec_deSorted.f k l0).bind fun t112=>(spec_deFails.l0 k t112 0 1)
theorem spec_deFails.mono_l:∀ k,(∀ y0 y1 y2,LeO (spec_deFails.l0 k y0 y1 y2) (spec_deFails.l0 (k+1) y0 y1 y2))∧(∀ y0 y1 y2 y3 y4 y5 y6,LeO (spec_deFails.l1 k y0 y1 y2 y3 y4 y5 y6) (spec_deFails.l1 (k+1) y0 y1 y2 y3 y4 y5 y6))
 | 0=>⟨fun _ _ _ r h=>by simp [spec_deFails.l0] at h,fun _ _ _ _ _ _ _ r h=>by simp [spec_deFails.l1] at h⟩
 | k+1=>by
  obtain ⟨ih0,ih1⟩:=spec_deFails.mono_l k
  refine ⟨?_,?_⟩
  ·intro y0 y1 y2
   unfold spec_deFails.l0
   repeat' first
   | (with_reducible exact ih0 _ _ _)
   | (with_reducible exact ih1 _ _ _ _ _ _ _)
   | (with_reducible exact spec_deSorted.mono _ _)
   | (with_reducible exact LeO.refl _)
   | (with_reducible exact LeO.none _)
   | (with_reducible refine LeO.ite ?_ ?_)
   | (with_reducible refine LeO.bind ?_ (fun _=>?_))
   | exact ih0 _ _ _
   | exact ih1 _ _ _ _ _ _ _
   | exact spec_deSorted.mono _ _
   | exact LeO.none _
   | refine LeO.ite ?_ ?_
   | refine LeO.bind ?_ (fun _=>?_)
  ·intro y0 y1 y2 y3 y4 y5 y6
   unfold spec_deFails.l1
   repeat' first
   | (with_reducible exact ih0 _ _ _)
   | (with_reducible exact ih1 _ _ _ _ _ _ _)
   | (with_reducible exact spec_deSorted.mono _ _)
   | (with_reducible exact LeO.refl _)
   | (with_reducible exact LeO.none _)
   | (with_reducible refine LeO.ite ?_ ?_)
   | (with_reducible refine LeO.bind ?_ (fun _=>?_))
   | exact ih0 _ _ _
   | exact ih1 _ _ _ _ _ _ _
   | exact spec_deSorted.mono _ _
   | exact LeO.none _
   | refine LeO.ite ?_ ?_
   | refine LeO.bind ?_ (fun _=>?_)
theorem spec_deFails.mono:∀ a0 k,LeO (spec_deFails.f k a0) (spec_deFails.f (k+1) a0):=by
 intro a0 k
 obtain ⟨ih0,ih1⟩:=spec_deFails.mono_l k
 unfold spec_deFails.f
 repeat' first
   | (with_reducible exact ih0 _ _ _)
   | (with_reducible exact ih1 _ _ _ _ _ _ _)
   | (with_reducible exact spec_deSorted.mono _ _)
   | (with_reducible exact LeO.refl _)
   | (with_reducible exact LeO.none _)
   | (with_reducible refine LeO.ite ?_ ?_)
   | (with_reducible refine LeO.bind ?_ (fun _=>?_))
   | exact ih0 _ _ _
   | exact ih1 _ _ _ _ _ _ _
   | exact spec_deSorted.mono _ _
   | exact LeO.none _
   | refine LeO.ite ?_ ?_
   | refine LeO.bind ?_ (fun _=>?_)
set_option maxHeartbeats 8000000 in
set_option maxRecDepth 100000 in
theorem spec_deFails.calls (k:Nat) (A0:Option Addr) (c0:Nat) (l0:List Int) (r:Int) (w:World) (hr0:Kd.C (Kd.int .i64) w A0 l0.length l0) (hc0:l0.length≤c0) (h:spec_deFails.f k l0=some r) :
  Calls Try.prog 72 #[.slice A0 l0.length c0] w fun e w'=>e=.returned (.int .i64 r)∧Below w.heap.size w w':=by
 have HR0:=zz31 hr0
 have HC0:=zz31 hc0
 clear hr0 hc0
 have HB:=zz31 (Below.refl w.heap.size w)
 have H:((spec_deSorted.f k l0).bind fun t112=>(spec_deFails.l0 k t112 0 1))=some r:=h
 clear h
 replace H:=zz30.mp H
 obtain ⟨t112,A20,H⟩:=H
 replace H:(spec_deFails.l0 k t112 0 1)=some r:=H
 have A2:=zz31 A20
 clear A20
 have H':=zz31 H
 clear H
 go_enter Try.func72,Try.ntmps72
 go_wp2_with (first | ((with_reducible refine gate_callee (f:=70) rfl ?_);refine goesL_ (some 10) rfl rfl Try.func70 (by kernel_rfl) rfl #[.slice A0 l0.length c0] rfl (by (try simp only [zz26,zz27,zz28]);first | done | rfl | (simp only [zz24,zz25];rfl)) ?_;(with_reducible refine (spec_deSorted.calls k _ _ l0 t112 _ ?side1 ?side2 A2.out).mono ?_);(case side1=>repeat (first | exact HR0.out | (with_reducible refine zz18 ?_ _) | (with_reducible refine zz19 ?_ _) | (with_reducible refine zz20 ?_)));(case side2=>exact HC0.out);rintro e w3 ⟨v113,rfl,ho0,hb⟩;refine ⟨_,rfl,?_⟩;have n0_:=zz31 (Kd.R_lower ho0 (zz5 (by repeat first | exact HB.out | apply zz2 | apply zz0 | apply zz1)));have n1_:=zz31 (zz4 (by repeat first | exact HB.out | apply zz2 | apply zz0 | apply zz1) hb);clear HB;have HO114:=n0_;have HB:=n1_;clear n0_ n1_;(try clear hb);(try clear hb2);(try clear hk);(try clear hi);(try clear ho0)))
 go_loopg [4,5] k (fun kq v4 v5 w'=>∃ (x4_1:Int) (x5_1:Int),v4=.int .i64 x4_1∧v5=.int .i64 x5_1∧Aside0 (spec_deFails.l0 kq t112 x4_1 x5_1=some r)∧Aside0 (kq≤k)∧Aside0 (Kd.R (Kd.int .i64) 3 w' w.heap.size (fun _=>True) v113 t112)∧Aside0 (Below w.heap.size w w'))
 case atStart=>exact ⟨(0),(1),(by first | rfl | (simp;done) | (simp [*];done)),(by first | rfl | (simp;done) | (simp [*];done)),H',⟨Nat.le_refl _⟩,⟨by (with_reducible repeat (first | apply zz12 | apply zz13 | apply zz14));exact HO114.out⟩,⟨by repeat first | exact HB.out | apply zz2 | apply zz0 | apply zz1⟩⟩
 case round =>
  clear H'
  try clear p2
  obtain ⟨x4_1,x5_1,rfl,rfl,HA,HK1,HO_3,HB⟩:=hrel
  cases gk with
  | zero=>exact absurd HA.out (by simp [spec_deFails.l0])
  | succ k1 =>
   have H:=HA.out
   clear HA
   simp only [spec_deFails.l0] at H
   by_cases c4:x5_1≤(t112.length:Int)
   ·rw [if_pos c4] at H
    have c4b0:decide (x5_1≤(t112.length:Int))=true:=decide_eq_true c4
    clear c4
    obtain ⟨ji5,hji5⟩:∃ j_:Int,(wrap64 (x5_1 - 1))=j_:=⟨_,rfl⟩
    replace H:(if 0≤(ji5) then (if (ji5) < (t112.length:Int) then (if 0≤x5_1 then ((some (t112.drop (x5_1:Int).toNat:List Int)).bind fun y116=>(spec_deFails.l1 k1 t112 (wrap64 (x4_1+(rd t112 (ji5)))) x5_1 (wrap64 (x5_1 * (ji5))) y116 (y116.length:Int) 0)) else (none)) else (none)) else (none))=some r:=by first | (rw [hji5] at H;exact H) | (simp only [hji5] at H ⊢;exact H)
    have hji5w:(IntKind.i64.wrap (x5_1 - 1))=ji5:=(i64_w _).trans hji5
    by_cases c6:0≤(ji5)
    ·rw [if_pos c6] at H
     have c6b0:decide (0≤(ji5))=true:=decide_eq_true c6
     clear c6
     by_cases c7:(ji5) < (t112.length:Int)
     ·rw [if_pos c7] at H
      have c7b0:decide ((ji5) < (t112.length:Int))=true:=decide_eq_true c7
      clear c7
      by_cases c8:0≤x5_1
      ·rw [if_pos c8] at H
       have c8b0:=eq_true c8
       have c8b1:decide (0≤x5_1)=true:=decide_eq_true c8
       clear c8
       have c9b0:=eq_true (zz29 (by first | (with_reducible assumption) | assumption):x5_1≤(t112.length:Int))
       obtain ⟨y116,hy116⟩:∃ y_:List Int,y_=(t112.drop (x5_1:Int).toNat):=⟨_,rfl⟩
       replace H:(spec_deFails.l1 k1 t112 (wrap64 (x4_1+(rd t112 (ji5)))) x5_1 (wrap64 (x5_1 * (ji5))) y116 (y116.length:Int) 0)=some r:=by first | (rw [hy116];with_reducible exact H) | (have H2_:=(Option.bind_some _ _).symm.trans H;rw [hy116];with_reducible exact H2_) | (have H2_:=(Option.bind_some _ _).symm.trans H;with_reducible exact H2_) | with_reducible exact H | (rw [hy116];exact H) | exact H
       have Ny116:=zz31 hy116
       clear hy116
       have H':=zz31 H
       clear H
       obtain ⟨Ao10,co10,eo10⟩:=Kd.R_slice HO_3.out
       subst eo10
       have p115:0≤((ji5):Int):=zz29 (by first | (with_reducible assumption) | assumption)
       have q115:(ji5) < (t112.length:Int):=zz29 (by first | (with_reducible assumption) | assumption)
       obtain ⟨ad115,e115,hx115_0⟩:=Kd.at_int (Kd.R_reads' HO_3.out).2.2 (ji5) p115 q115
       cases e115
       replace p115:=eq_true p115
       replace q115:=eq_true q115
       have q11:(x5_1:Int)≤((t112.length:Int):Int):=zz29 (by first | (with_reducible assumption) | assumption)
       obtain ⟨i011,hi011,_,hsz11,_⟩:=info_parts info3
       have hroom11:t112.length≤co10:=(Kd.R_reads' HO_3.out).2.1
       have hC11:Kd.C (Kd.int .i64) _ (some ad115) t112.length t112:=(Kd.R_reads' HO_3.out).2.2
       have q011:(0:Int)≤(x5_1:Int):=zz29 (by first | (with_reducible assumption) | assumption)
       have hcut11:=cut_from (P:=Try.prog) 22 3 .i64 Try.underlying22 hi011 1 hsz11 (some ad115) t112.length co10 x5_1 q011 q11
       have hr11:=Kd.C_drop (m:=(x5_1:Int).toNat) (c:=co10) hC11 (by omega) hroom11
       obtain ⟨A11,hA11⟩:∃ A1,A1=(if co10=(x5_1:Int).toNat then (some ad115) else ((some ad115):Option Addr).map (·.add ((x5_1:Int).toNat * 1))):=⟨_,rfl⟩
       obtain ⟨c11,hc11⟩:∃ c1,c1=co10 - (x5_1:Int).toNat:=⟨_,rfl⟩
       have hy11:y116.length=t112.length - (x5_1:Int).toNat:=(by rw [Ny116.out,zz24] <;> omega)
       rw [show (t112).drop (x5_1:Int).toNat=y116 from Ny116.out.symm] at hr11
       replace hr11:Kd.C (Kd.int .i64) _ A11 y116.length y116:=(by rw [hA11];exact hr11)
       rw [← hy11,← hA11,← hc11] at hcut11
       have HR119:=zz31 hr11
       have HC119:=zz31 (show y116.length≤c11 from by rw [hy11,hc11];exact Nat.sub_le_sub_right hroom11 _)
       clear hr11 hC11 hroom11 hi011 hsz11 hc11
       have KY11:=zz31 hy11
       have KA11:=zz31 hA11
       clear hy11 hA11
       have KL11:=zz31 (show (x5_1:Int).toNat≤t112.length from by omega)
       replace q11:=eq_true q11
       go_wp2
       go_loopg [6,32] k1 (fun kq v6 v32 w'=>∃ (x6_2:Int) (x32_2:Int),v6=.int .i64 x6_2∧v32=.int .i64 x32_2∧Aside0 (spec_deFails.l1 kq t112 (wrap64 (x4_1+(rd t112 (ji5)))) x5_1 x6_2 y116 (y116.length:Int) x32_2=some r)∧Aside0 (kq≤k1)∧Aside0 (Kd.R (Kd.int .i64) 3 w' w.heap.size (fun _=>True) (.slice (some ad115) t112.length co10) t112)∧Aside0 (Kd.C (Kd.int .i64) w' A11 y116.length y116)∧Aside0 (Below w.heap.size w w'))
       case atStart=>exact ⟨(wrap64 (x5_1 * (ji5))),(0),(by first | rfl | (simp;done) | (simp only [← hji5] <;> (first | rfl | simp)) | (simp [*];done)),(by first | rfl | (simp;done) | (simp [*];done)),H',⟨Nat.le_refl _⟩,⟨by (with_reducible repeat (first | apply zz12 | apply zz13 | apply zz14));exact HO_3.out⟩,⟨by repeat (first | (with_reducible exact HR119.out) | (with_reducible refine zz18 ?_ _) | (with_reducible refine zz19 ?_ _) | (with_reducible refine zz20 ?_) | exact HR119.out)⟩,⟨by repeat first | exact HB.out | apply zz2 | apply zz0 | apply zz1⟩⟩
       case round =>
        clear H'
        try clear c1
        try clear p1
        try clear q1
        try clear hx1
        try clear p2
        try clear c4
        try clear c4b0
        try clear c6
        try clear c6b0
        try clear p6
        try clear c7
        try clear c7b0
        try clear c8
        try clear c8b0
        try clear c8b1
        try clear c9
        try clear c9b0
        try clear c11
        try clear p11
        try clear q11
        try clear hx11
        try clear hx115_0
        try clear p115
        try clear p2
        try clear q011
        try clear q11
        try clear q115
        obtain ⟨x6_2,x32_2,rfl,rfl,HA,HK2,HO_3,HR119,HB⟩:=hrel
        cases gk with
        | zero=>exact absurd HA.out (by simp [spec_deFails.l1])
        | succ k2 =>
         have H:=HA.out
         clear HA
         simp only [spec_deFails.l1] at H
         by_cases c12:x32_2 < (y116.length:Int)
         ·rw [if_pos c12] at H
          have c12b0:decide (x32_2 < (y116.length:Int))=true:=decide_eq_true c12
          clear c12
          by_cases c13:0≤x32_2
          ·rw [if_pos c13] at H
           have c13b0:decide (0≤x32_2)=true:=decide_eq_true c13
           clear c13
           by_cases c14:x32_2 < (y116.length:Int)
           ·rw [if_pos c14] at H
            have c14b0:decide (x32_2 < (y116.length:Int))=true:=decide_eq_true c14
            clear c14
            replace H:=zz30.mp H
            obtain ⟨t121,A150,H⟩:=H
            replace H:(spec_deFails.l1 k2 t112 (wrap64 (x4_1+(rd t112 (ji5)))) x5_1 (wrap64 (x6_2+t121)) y116 (y116.length:Int) (wrap64 (x32_2+1)))=some r:=H
            have A15:=zz31 A150
            clear A150
            have H':=zz31 H
            clear H
            have p120:0≤(x32_2:Int):=zz29 (by first | (with_reducible assumption) | assumption)
            have q120:x32_2 < (y116.length:Int):=zz29 (by first | (with_reducible assumption) | assumption)
            obtain ⟨ad120,e120,hx120_0⟩:=Kd.at_int HR119.out x32_2 p120 q120
            cases e120
            try replace hx120_0:=(HB.out.cell (World.block_lt_of_cell? w _ hx120_0)).trans hx120_0
            replace p120:=eq_true p120
            replace q120:=eq_true q120
            go_wp2_with (first | ((with_reducible refine gate_callee (f:=96) rfl ?_);refine goesL_ (some 39) rfl rfl Try.func96 (by kernel_rfl) rfl #[.int .i64 x5_1,.int .i64 (rd y116 x32_2)] rfl (by (try simp only [zz26,zz27,zz28]);first | done | rfl | (simp only [zz24,zz25];rfl)) ?_;(with_reducible refine (spec_l1Least.calls x5_1 (rd y116 x32_2) t121 _ A15.out).mono ?_);rintro e w' ⟨rfl,⟨nd,rfl⟩⟩;refine ⟨_,rfl,?_⟩))
            go_roundg k2
            case measure=>have:=HK1.out;have:=HK2.out;omega
            case rel=>exact ⟨(wrap64 (x6_2+t121)),(wrap64 (x32_2+1)),(by first | rfl | (simp;done) | (simp [*];done)),(by first | rfl | (simp;done) | (simp [*];done)),H',⟨by have:=HK1.out;have:=HK2.out;omega⟩,⟨by (with_reducible repeat (first | apply zz12 | apply zz13 | apply zz14));exact HO_3.out⟩,⟨by repeat (first | (with_reducible exact HR119.out) | (with_reducible refine zz18 ?_ _) | (with_reducible refine zz19 ?_ _) | (with_reducible refine zz20 ?_) | exact HR119.out)⟩,⟨by repeat first | exact HB.out | apply zz2 | apply zz0 | apply zz1⟩⟩
           ·rw [if_neg c14] at H
            exact absurd H (by simp)
          ·rw [if_neg c13] at H
           exact absurd H (by simp)
         ·rw [if_neg c12] at H
          have c12b0:decide (x32_2 < (y116.length:Int))=false:=decide_eq_false c12
          clear c12
          by_cases c16:(wrap64 (x4_1+(rd t112 (ji5)))) > x6_2
          ·rw [if_pos c16] at H
           have c16b0:decide (x6_2 < (wrap64 (x4_1+(rd t112 (ji5)))))=true:=decide_eq_true c16
           clear c16
           obtain rfl:=Option.some.inj H
           go_wp2
           go_ret
           exact ⟨by first | rfl | (simp [errW_none,errW_some] <;> rfl) | (simp only [← hji5];first | rfl | (simp [errW_none,errW_some] <;> rfl)) | (simp [*,errW_none,errW_some] <;> rfl),by repeat first | exact HB.out | apply zz2 | apply zz0 | apply zz1⟩
          ·rw [if_neg c16] at H
           have c16b0:decide (x6_2 < (wrap64 (x4_1+(rd t112 (ji5)))))=false:=decide_eq_false c16
           clear c16
           have H':=zz31 H
           clear H
           go_wp2
           go_roundg k2
           case measure=>have:=HK1.out;have:=HK2.out;omega
           case rel=>exact ⟨((wrap64 (x4_1+(rd t112 (ji5))))),(wrap64 (x5_1+1)),(by first | rfl | (simp;done) | (simp only [← hji5] <;> (first | rfl | simp)) | (simp [*];done)),(by first | rfl | (simp;done) | (simp [*];done)),H',⟨by have:=HK1.out;have:=HK2.out;omega⟩,⟨by (with_reducible repeat (first | apply zz12 | apply zz13 | apply zz14));exact HO_3.out⟩,⟨by repeat first | exact HB.out | apply zz2 | apply zz0 | apply zz1⟩⟩
      ·rw [if_neg c8] at H
       exact absurd H (by simp)
     ·rw [if_neg c7] at H
      exact absurd H (by simp)
    ·rw [if_neg c6] at H
     exact absurd H (by simp)
   ·rw [if_neg c4] at H
    have c4b0:decide (x5_1≤(t112.length:Int))=false:=decide_eq_false c4
    clear c4
    obtain rfl:=Option.some.inj H
    obtain ⟨Ao17,co17,eo17⟩:=Kd.R_slice HO_3.out
    subst eo17
    go_wp2
    go_ret
    exact ⟨by first | rfl | (simp [errW_none,errW_some] <;> rfl) | (simp [*,errW_none,errW_some] <;> rfl),by repeat first | exact HB.out | apply zz2 | apply zz0 | apply zz1⟩

/-! ### spec_deCan: function 74 -/
def spec_deCan.f (k:Nat) (l0:List Int):Option (Bool):=(spec_deSum.f k l0).bind fun t122=>(if (Int.tmod t122 2)=0 then ((spec_deFails.f k l0).bind fun t123=>(some (t123 == 0))) else (some false))
theorem spec_deCan.mono:∀ a0 k,LeO (spec_deCan.f k a0) (spec_deCan.f (k+1) a0):=by
 intro a0 k
 unfold spec_deCan.f
 repeat' first
   | (with_reducible exact spec_deFails.mono _ _)
   | (with_reducible exact spec_deSum.mono _ _)
   | (with_reducible exact LeO.refl _)
   | (with_reducible exact LeO.none _)
   | (with_reducible refine LeO.ite ?_ ?_)
   | (with_reducible refine LeO.bind ?_ (fun _=>?_))
   | exact spec_deFails.mono _ _
   | exact spec_deSum.mono _ _
   | exact LeO.none _
   | refine LeO.ite ?_ ?_
   | refine LeO.bind ?_ (fun _=>?_)
set_option maxHeartbeats 8000000 in
set_option maxRecDepth 100000 in
theorem spec_deCan.calls (k:Nat) (A0:Option Addr) (c0:Nat) (l0:List Int) (r:Bool) (w:World) (hr0:Kd.C (Kd.int .i64) w A0 l0.length l0) (hc0:l0.length≤c0) (h:spec_deCan.f k l0=some r) :
  Calls Try.prog 74 #[.slice A0 l0.length c0] w fun e w'=>e=.returned (.bool r)∧Below w.heap.size w w':=by
 have HR0:=zz31 hr0
 have HC0:=zz31 hc0
 clear hr0 hc0
 have HB:=zz31 (Below.refl w.heap.size w)
 have H:((spec_deSum.f k l0).bind fun t122=>(if (Int.tmod t122 2)=0 then ((spec_deFails.f k l0).bind fun t123=>(some (t123 == 0))) else (some false)))=some r:=h
 clear h
 replace H:=zz30.mp H
 obtain ⟨t122,A20,H⟩:=H
 replace H:(if (Int.tmod t122 2)=0 then ((spec_deFails.f k l0).bind fun t123=>(some (t123 == 0))) else (some false))=some r:=H
 have A2:=zz31 A20
 clear A20
 by_cases c3:(Int.tmod t122 2)=0
 ·rw [if_pos c3] at H
  have c3b0:((Int.tmod t122 2) == 0)=true:=beq_iff_eq.mpr c3
  have c3b1:((Int.tmod t122 2) != 0)=false:=bne_eq_false_iff_eq.mpr c3
  clear c3
  replace H:=zz30.mp H
  obtain ⟨t123,A40,H⟩:=H
  replace H:(some (t123 == 0))=some r:=H
  have A4:=zz31 A40
  clear A40
  obtain rfl:=Option.some.inj H
  go_enter Try.func74,Try.ntmps74
  go_wp2_with (first | ((with_reducible refine gate_callee (f:=58) rfl ?_);refine goesL_ (some 4) rfl rfl Try.func58 (by kernel_rfl) rfl #[.slice A0 l0.length c0] rfl (by (try simp only [zz26,zz27,zz28]);first | done | rfl | (simp only [zz24,zz25];rfl)) ?_;(with_reducible refine (spec_deSum.calls k _ _ l0 t122 _ ?side1 ?side2 A2.out).mono ?_);(case side1=>repeat (first | exact HR0.out | (with_reducible refine zz18 ?_ _) | (with_reducible refine zz19 ?_ _) | (with_reducible refine zz20 ?_)));(case side2=>exact HC0.out);rintro e w' ⟨rfl,⟨nd,rfl⟩⟩;refine ⟨_,rfl,?_⟩) | (go_at_call 72;(with_reducible refine (spec_deFails.calls k _ _ l0 t123 _ ?side1 ?side2 A4.out).mono ?_);(case side1=>repeat (first | exact HR0.out | (with_reducible refine zz18 ?_ _) | (with_reducible refine zz19 ?_ _) | (with_reducible refine zz20 ?_)));(case side2=>exact HC0.out);rintro e w5 ⟨rfl,hb⟩;have n0_:=zz31 (zz4 (by repeat first | exact HB.out | apply zz2 | apply zz0 | apply zz1) hb);clear HB;have HB:=n0_;clear n0_;(try clear hb);(try clear hb2);(try clear hk);(try clear hi)))
  go_ret
  exact ⟨by first | rfl | (simp [errW_none,errW_some] <;> rfl) | (simp [*,errW_none,errW_some] <;> rfl),by repeat first | exact HB.out | apply zz2 | apply zz0 | apply zz1⟩
 ·rw [if_neg c3] at H
  have c3b0:((Int.tmod t122 2) == 0)=false:=beq_eq_false_iff_ne.mpr c3
  have c3b1:((Int.tmod t122 2) != 0)=true:=bne_iff_ne.mpr c3
  obtain rfl:=Option.some.inj H
  go_enter Try.func74,Try.ntmps74
  go_wp2_with (first | ((with_reducible refine gate_callee (f:=58) rfl ?_);refine goesL_ (some 4) rfl rfl Try.func58 (by kernel_rfl) rfl #[.slice A0 l0.length c0] rfl (by (try simp only [zz26,zz27,zz28]);first | done | rfl | (simp only [zz24,zz25];rfl)) ?_;(with_reducible refine (spec_deSum.calls k _ _ l0 t122 _ ?side1 ?side2 A2.out).mono ?_);(case side1=>repeat (first | exact HR0.out | (with_reducible refine zz18 ?_ _) | (with_reducible refine zz19 ?_ _) | (with_reducible refine zz20 ?_)));(case side2=>exact HC0.out);rintro e w' ⟨rfl,⟨nd,rfl⟩⟩;refine ⟨_,rfl,?_⟩))
  go_ret
  exact ⟨by first | rfl | (simp [errW_none,errW_some] <;> rfl) | (simp [*,errW_none,errW_some] <;> rfl),by repeat first | exact HB.out | apply zz2 | apply zz0 | apply zz1⟩

-- NOT PRINTED: function 77 (spec_deFalling)

/-! ### spec_AllNumbers: function 39 (a contract of our own) -/
/-! What a call of a closure keeps: the blocks `own` are the state's; whatever else lay stays; what is the state's behind was its own before, or is new. -/
structure Fr (own own' : Nat → Prop) (w w' : World) : Prop where
  os:w'.os=w.os
  tape:w'.tape=w.tape
  output:w'.output=w.output
  size:w.heap.size≤w'.heap.size
  block:∀ i,i < w.heap.size→¬ own i→w'.heap[i]?=w.heap[i]?
  own:∀ i,own' i→own i ∨ w.heap.size≤i
theorem Fr.refl (own:Nat→Prop) (w:World):Fr own own w w:=⟨rfl,rfl,rfl,Nat.le_refl _,fun _ _ _=>rfl,fun _ h=>.inl h⟩
theorem Fr.trans {o1 o2 o3:Nat→Prop} {w1 w2 w3:World} (h:Fr o1 o2 w1 w2) (k:Fr o2 o3 w2 w3):Fr o1 o3 w1 w3 :=
  ⟨k.os.trans h.os,k.tape.trans h.tape,k.output.trans h.output,Nat.le_trans h.size k.size,
   fun i hi hn=>(k.block i (Nat.lt_of_lt_of_le hi h.size) (fun h2=>(h.own i h2).elim hn (fun h3=>by omega))).trans (h.block i hi hn),
   fun i hi=>(k.own i hi).elim (fun h2=>h.own i h2) (fun h3=>.inr (Nat.le_trans h.size h3))⟩
theorem Fr.of_below (own:Nat→Prop) {w w':World} (h:Below w.heap.size w w'):Fr own own w w':=⟨h.os,h.tape,h.output,h.size,fun i hi _=>h.block i hi,fun _ h=>.inl h⟩
theorem Fr.below {own own':Nat→Prop} {n:Nat} {w w':World} (h:Fr own own' w w') (hn:n≤w.heap.size) (ho:∀ i,own i→n≤i):Below n w w' :=
  ⟨h.os,h.tape,h.output,h.size,fun i hi=>h.block i (by omega) (fun h2=>by have:=ho i h2;omega)⟩
theorem Fr.cell {own own':Nat→Prop} {w w':World} (h:Fr own own' w w') {a:Addr} {v:Value} (hc:w.cell? a=some v) (hn:¬ own a.block):w'.cell? a=some v:=by
  have:=h.block a.block (World.block_lt_of_cell? w a hc) hn
  simpa [World.cell?,this] using hc
theorem Fr.blk {own own':Nat→Prop} {w w':World} (h:Fr own own' w w') {g:Nat} {o:Obj} (hb:w.heap[g]?=some o) (hn:¬ own g):w'.heap[g]?=some o:=(h.block g (blk_lt hb) hn).trans hb
theorem Fr.R {α:Type} {d:Kd α} {e base:Nat} {ok own own':Nat→Prop} {w w':World} {v:Value} {xs:List α} (h:Fr own own' w w') (hr:d.R e w base ok v xs) (hn:∀ k,ok k→¬ own k):d.R e w' base ok v xs :=
  Kd.R_step hr (fun k hk hlt=>h.block k hlt (hn k hk))
theorem Fr.mono {o1 o1' o2:Nat→Prop} {w w':World} (h:Fr o1 o2 w w') (hs:∀ i,o1 i→o1' i) (h2:∀ i,o2 i→o1' i ∨ w.heap.size≤i):Fr o1' o2 w w' :=
  ⟨h.os,h.tape,h.output,h.size,fun i hi hn=>h.block i hi (fun h1=>hn (hs i h1)),h2⟩
theorem fr_addb (ad:Addr) (j:Nat):(ad.add j).block=ad.block:=by unfold Addr.add;split <;> rfl
/-- A row of numbers that is read, in no block of the state's. -/
def ReadApart (k:IntKind) (own:Nat→Prop) (w:World) (A:Option Addr) (n:Nat) (xs:List Int):Prop:=Kd.C (Kd.int k) w A n xs∧∀ ad,A=some ad→0 < n→¬ own ad.block
theorem ReadApart.fr {k:IntKind} {own own':Nat→Prop} {w w':World} {A:Option Addr} {n:Nat} {xs:List Int} (h:ReadApart k own w A n xs) (hf:Fr own own' w w'):ReadApart k own' w' A n xs:=by
  obtain ⟨⟨h1,h2,h3⟩,h4⟩:=h
  have hlt:∀ ad,A=some ad→0 < n→ad.block < w.heap.size:=fun ad e hn=>by
    obtain ⟨ad',e',hc⟩:=h3 hn
    rw [e] at e'
    injection e' with e'
    subst e'
    obtain ⟨c,hl,hk,hcc⟩:=hc 0 _ (List.getElem?_eq_getElem (show 0 < xs.length by omega))
    have hl':0 < c.length:=by rw [hl];exact Nat.zero_lt_one
    have:=World.block_lt_of_cell? w _ (hcc 0 _ (List.getElem?_eq_getElem hl'))
    rwa [fr_addb] at this
  refine ⟨⟨h1,h2,fun hn=>?_⟩,fun ad e hn h5=>?_⟩
  · obtain ⟨ad,e,hc⟩:=h3 hn
    refine ⟨ad,e,fun j p hj=>?_⟩
    obtain ⟨c,hl,hk,hcc⟩:=hc j p hj
    exact ⟨c,hl,hk,fun i u hu=>hf.cell (hcc i u hu) (by rw [fr_addb];exact h4 ad e hn)⟩
  · rcases hf.own _ h5 with h6 | h6
    · exact h4 ad e hn h6
    · have:=hlt ad e hn;omega
theorem Fr.drewN {own own':Nat→Prop} {w w':World} (h:Fr own own' w w') (n:Nat):Fr own own' w (w'.drewN n):=h.trans (Fr.of_below _ (zz0 (Below.refl _ _) n))
theorem gb_below {base:Nat} {a w w':World} {row:Option Nat} (h:Below base a w) (hg:w.grownBy w' row) (hr:∀ k,row=some k→base≤k) (hs:base≤w.heap.size):Below base a w' :=
  ⟨hg.os.trans h.os,hg.tape.trans h.tape,hg.output.trans h.output,Nat.le_trans h.size hg.size,fun i hi=>(hg.block i (Nat.lt_of_lt_of_le hi hs) (fun he=>by have:=hr i he.symm;omega)).trans (h.block i hi)⟩
theorem size_alloc_le (w:World) (o:Obj):w.heap.size≤(w.alloc o).heap.size:=(zz2 (Below.refl w.heap.size w) o).size
theorem pw_cell_below' {w w1:World} (h:Below w.heap.size w w1) {a:Addr} {v:Value} (hc:w.cell? a=some v):w1.cell? a=some v:=pw_cell_below h hc
theorem frozen_new (W:World) (c:Array Value) (e i:Nat):(W.alloc (.cells c e)).frozen? ⟨W.heap.size,i,none⟩=false:=zz10 (blk_new W _) i
section
variable {P : Program} {ops : Array Oper} {o : Oper} {a : Act} {Q : Exit → Act → World → Prop} {K : Act → World → Prop}
/-- append(v, y) of a number, as one step of a region that draws its order (the box of y may lie anywhere). -/
theorem step_append_at {W:World} (k:IntKind) (base:Nat) (hw:Region.wanted o (yielded ops a.tmps)=true) (s x:Operand) (t e:TypeId) (bytes:Nat)
    (ho:o.op=.call { callee:=.builtin .append,args:=#[s,x],argTypes:=#[t,t] })
    (ht:P.underlying t=some (.slice e)) (hinfo:(P.info? e).map (fun i=>(i.zero,i.size,i.bytes))=some (some (.int k 0),1,bytes)) (hb0:0 < bytes)
    (v:Value) (xs:List Int) (y:Int) (ok:Nat→Prop) (hs:a.eval s=v) (ad:Addr) (hx:a.eval x=.slice (some ad) 1 1) (hc:W.cell? ad=some (.int k y)) (hfresh:∀ b,W.heap.size≤b→ok b)
    (HO:(Kd.int k).R e W base ok v xs) (hbase:base≤W.heap.size) (hl:(xs.length+1) * bytes≤140737488355328)
    (h:∀ v1 w1,(Kd.int k).R e w1 base ok v1 (xs ++ [y])→W.grownBy w1 v.ownBlock→K (a.put o.dst v1) w1) :
    if Region.wanted o (yielded ops a.tmps)=true then Oper.wp P o a W K Q else K (a.put o.dst undef) W:=by
  obtain ⟨i0,hi,hzz⟩:=Option.map_eq_some_iff.1 hinfo
  simp only [Prod.mk.injEq] at hzz
  obtain ⟨hz0,hz1,hz2⟩:=hzz
  have hlen:xs.length+1≤140737488355328:=Nat.le_trans (Nat.le_mul_of_pos_right _ hb0) hl
  rw [if_pos hw]
  obtain ⟨v1,w1,hr,hown,hg,_,hat⟩:=run_append_own_at (P:=P) W base t o.type e i0 (.int k 0) 1 bytes ht hi hz0 hz1 hz2 rfl (by decide) v xs.length _ (Kd.own_of_R HO) ad 1 1 [.int k y] (by simp)
    (fun j u hu=>by
      cases j with
      | zero=>simp at hu;subst hu;simpa [Addr.add] using hc
      | succ j=>simp at hu) (fun u hu=>by rw [List.mem_singleton.1 hu];rfl) (by simp only [maxLen];omega) hl hbase
  unfold Oper.wp execOp
  simp only [ho,resolve,invoke,builtin,Sem.run_bind,Sem.run_pure,Result.andThen_ok,zz26,zz27,zz28,hs,hx,hr]
  refine h v1 w1 (Kd.R_of_own (enc:=Value.int k) (h1:=fun _=>rfl) (by rw [List.length_append,List.length_singleton];have h2:=hown;unfold encs at h2 ⊢;rw [List.map_append];exact h2) (fun b hb=>?_)) hg
  rcases hat with hat | hat
  · exact HO.1 b (by rw [← hat];exact hb)
  · rw [hat] at hb
    injection hb with hb
    exact hfresh b (by omega)
end
abbrev ownV (bo:Nat) (v:Value):Nat→Prop:=fun i=>i=bo ∨ some i=v.ownBlock
abbrev KdS:Kd (List Int):=Kd.slice 3 (Kd.int .i64)
theorem infoRows:(Try.prog.info? 22).map (fun i=>(i.zero,i.size,i.bytes))=some (some (.slice none 0 0),1,24):=by kernel_rfl
theorem fr_put {bo:Nat} {v v1:Value} {W w3 w1:World} (hB:Below W.heap.size W w3) (hg:w3.grownBy w1 v.ownBlock) (hat:v1.ownBlock=v.ownBlock ∨ ∃ b,v1.ownBlock=some b∧w3.heap.size≤b) (hlt:bo < w3.heap.size):Fr (ownV bo v) (ownV bo v1) W (w1.setCell ⟨bo,0,none⟩ v1) :=
  ⟨hg.os.trans hB.os,hg.tape.trans hB.tape,hg.output.trans hB.output,Nat.le_trans hB.size (Nat.le_trans hg.size (by simp [World.setCell])),fun i hi hn=>by
    rw [Below.heap_setCell _ _ _ i (fun he=>hn (.inl he)),hg.block i (Nat.lt_of_lt_of_le hi hB.size) (fun he=>hn (.inr he)),hB.block i hi],fun i hi=>hi.elim (fun h=>.inl (.inl h)) (fun h=>by
    rcases hat with h1 | ⟨b,h1,h2⟩
    · exact .inl (.inr (h.trans h1))
    · rw [h1] at h
      injection h with h
      exact .inr (by have:=hB.size;omega))⟩
theorem R_emptyG {α:Type} (d:Kd α) (e:Nat) (W:World) (base:Nat) (ok:Nat→Prop) (hb:base≤W.heap.size) (hok:ok W.heap.size):d.R e (W.alloc (.cells #[] e)) base ok (.slice (some ⟨W.heap.size,0,none⟩) 0 0) [] :=
  ⟨fun k hk=>by
    have:W.heap.size=k:=by simpa [Value.ownBlock] using hk
    subst this;exact hok,[],by simpa using World.ownsRow_lit (base:=base) (e:=e) (size:=d.sz) W #[] 0 hb (by simp [maxLen]) (by simp),Reps.none _ _⟩
theorem S_emptyG {α:Type} (d:Kd α) (e:Nat) (W:World) (base:Nat) (ok:Nat→Prop) (hb:base≤W.heap.size) (hok:ok W.heap.size):Kd.S d e (W.alloc (.cells #[] e)) base ok (.slice (some ⟨W.heap.size,0,none⟩) 0 0) []:=⟨fun _=>0,R_emptyG _ e W base ok hb hok⟩
def alkL {α:Type} (g:Nat→Option (List α)):Nat→Option (List α)
  | 0=>some []
  | j+1=>(alkL g j).bind fun xs=>(g j).bind fun ys=>some (xs ++ ys)
def alkO (can:List Int→Option Bool) (n:Nat):Nat→List Int→Int→Option (List (List Int))
  | 0,_,_=>none
  | d+1,l,most=>if l.length=n then (can l).bind fun b=>some (if b=true then [l] else []) else alkL (fun k=>alkO can n d (l ++ [(k:Int)]) (k:Int)) (most+1).toNat
theorem alkL_pre {α:Type} (g:Nat→Option (List α)):∀ (M:Nat) (r:List α),alkL g M=some r→∀ j,j≤M→∃ pre,alkL g j=some pre∧pre.length≤r.length
  | 0,r,h,j,hj=>by
    obtain rfl:j=0:=by omega
    exact ⟨r,h,Nat.le_refl _⟩
  | M+1,r,h,j,hj=>by
    by_cases e:j=M+1
    · subst e;exact ⟨r,h,Nat.le_refl _⟩
    · rw [alkL] at h
      obtain ⟨xs,h1,h⟩:=zz30.1 h
      obtain ⟨ys,h2,h⟩:=zz30.1 h
      injection h with h
      obtain ⟨pre,h3,h4⟩:=alkL_pre g M xs h1 j (by omega)
      exact ⟨pre,h3,by rw [← h,List.length_append];omega⟩
theorem alkL_step {α:Type} (g:Nat→Option (List α)) (M:Nat) (r:List α) (h:alkL g M=some r) (j:Nat) (hj:j < M) (pre:List α) (hp:alkL g j=some pre):∃ ys,g j=some ys∧alkL g (j+1)=some (pre ++ ys)∧pre.length+ys.length≤r.length:=by
  obtain ⟨p1,h1,h2⟩:=alkL_pre g M r h (j+1) hj
  rw [alkL,hp,Option.bind_some] at h1
  obtain ⟨ys,h3,h4⟩:=zz30.1 h1
  injection h4 with h4
  refine ⟨ys,h3,by rw [alkL,hp,Option.bind_some,h3];rfl,?_⟩
  rw [← h4,List.length_append] at h2
  exact h2
theorem alkL_mono {α:Type} (g h:Nat→Option (List α)) (H:∀ j,LeO (g j) (h j)):∀ M,LeO (alkL g M) (alkL h M)
  | 0=>LeO.refl _
  | M+1=>LeO.bind (alkL_mono g h H M) fun xs=>LeO.bind (H M) fun ys=>LeO.refl _
theorem alkO_mono (c1 c2:List Int→Option Bool) (H:∀ l,LeO (c1 l) (c2 l)) (n:Nat):∀ (d:Nat) (l:List Int) (m:Int),LeO (alkO c1 n d l m) (alkO c2 n d l m)
  | 0,_,_=>LeO.refl _
  | d+1,l,m=>by
    rw [alkO,alkO]
    exact LeO.ite (LeO.bind (H l) fun b=>LeO.refl _) (alkL_mono _ _ (fun j=>alkO_mono c1 c2 H n d _ _) _)
theorem wrapA (x:Int) (h0:-1000≤x) (h1:x≤1000):IntKind.i64.wrap x=x:=by rw [IntKind.wrap_i64];omega
def mostOf (n:Nat) (l:List Int):Int:=if 0 < l.length then rd l ((l.length:Int) - 1) else (n:Int) - 1
theorem mostOf_snoc (n:Nat) (l:List Int) (x:Int):mostOf n (l ++ [x])=x:=by
  unfold mostOf
  rw [if_pos (by simp),List.length_append,List.length_singleton]
  unfold rd
  rw [show (((l.length+1:Nat):Int) - 1).toNat=l.length by omega,List.getD_eq_getElem?_getD,List.getElem?_append_right (Nat.le_refl _)]
  simp
set_option maxHeartbeats 8000000 in
set_option maxRecDepth 100000 in
theorem fall_calls (k n:Nat) (hn:n≤7) (B0 Bo:Nat) :
    ∀ (d:Nat) (l:List Int) (acc:List (List Int)) (v:Value) (W:World) (A:Option Addr) (c:Nat) (r:List (List Int)),d+l.length=n+1→(l.length < n→0≤mostOf n l∧mostOf n l≤7)→alkO (spec_deCan.f k) n d l (mostOf n l)=some r→acc.length+r.length≤100000 →
      W.heap[Bo]?=some (.cells #[v] 42 (0,0))→Kd.S KdS 22 W B0 (fun k=>k ≠ Bo) v acc→Kd.R (Kd.int .i64) 3 W B0 (fun k=>¬ ownV Bo v k) (.slice A l.length c) l→B0≤W.heap.size →
      Calls Try.prog 77 #[.int .i64 (n:Int),.slice A l.length c,.pointer (some ⟨Bo,0,none⟩)] W fun e' W' =>
        e'=.returned (.tuple #[])∧∃ v',W'.heap[Bo]?=some (.cells #[v'] 42 (0,0))∧Kd.S KdS 22 W' B0 (fun k=>k ≠ Bo) v' (acc ++ r)∧Fr (ownV Bo v) (ownV Bo v') W W'
  | 0,l,acc,v,W,A,c,r,hd,hm,hr,hacc,hbox,hS,hC,hB=>by rw [alkO] at hr;exact absurd hr (by simp)
  | d+1,l,acc,v,W,A,c,r,hd,hm,hr,hacc,hbox,hS,hC,hB=>by
    have IH:=zz31 (fall_calls k n hn B0 Bo d)
    have HX:=zz31 hbox
    have HR:=zz31 hS
    have HC:=zz31 hC
    have HCs:=zz31 (Kd.R_reads' hC).2.2
    have HCc:=zz31 (Kd.R_reads' hC).2.1
    have f1:=zz9 hbox 0
    have f2:=zz10 hbox 0
    simp only [List.getElem?_toArray,List.getElem?_cons_zero] at f1
    have HOwn:=zz31 (show spec_l1Own.f l=some l from by
      unfold spec_l1Own.f
      simp only [Option.bind_some,List.length_nil,Nat.zero_add,if_pos (show l.length < 17592186044416 by omega),List.nil_append])
    clear hbox hS hC
    rw [alkO] at hr
    by_cases hln:l.length=n
    · rw [if_pos hln] at hr
      obtain ⟨b,hb,hr⟩:=zz30.1 hr
      injection hr with hr
      have HCAN:=zz31 hb
      clear hb
      subst hln
      have e0:((l.length:Int) == (l.length:Int))=true:=beq_iff_eq.2 rfl
      clear hm
      cases b with
      | false =>
        obtain rfl:r=[]:=by rw [← hr];rfl
        go_enter Try.func77,Try.ntmps77
        go_wp2_with (first | (go_at_call 74; refine (spec_deCan.calls k A c l false _ HCs.out HCc.out HCAN.out).mono ?_; rintro e w1 ⟨rfl, hb⟩; have HB1 := zz31 hb; clear hb) | (fail "no arm"))
        exact bodyPost_ret (results_none rfl _ _ _) rfl ⟨rfl,v,zz11 HX.out HB1.out,by rw [List.append_nil];exact Kd.S_below HR.out HB1.out,Fr.of_below _ HB1.out⟩
      | true =>
        obtain rfl:r=[l]:=by rw [← hr];rfl
        obtain ⟨L1,hL1⟩:∃ L1,L1=acc ++ [l]:=⟨_,rfl⟩
        have HLE:=zz31 hL1
        have HLL:=zz31 (show (acc.length+1) * 24≤140737488355328 from by simp at hacc;omega)
        have HNO:=zz31 (show ∀ k,v.ownBlock=some k→k ≠ Bo from fun k hk=>(Kd.S_R HR.out).1 k hk)
        clear hL1 hr
        go_enter Try.func77,Try.ntmps77
        go_upto_region 2 with (first | (go_at_call 74; refine (spec_deCan.calls k A c l true _ HCs.out HCc.out HCAN.out).mono ?_; rintro e w1 ⟨rfl, hb⟩; have HB1 := zz31 hb; have HX1 := zz31 (zz11 HX.out hb); have HC1 := zz31 (Kd.C_below HCs.out hb); have HR1 := zz31 (Kd.S_below HR.out hb); have HP := zz31 (show ∀ k, w1.heap.size ≤ k → k ≠ Bo ∧ some k ≠ v.ownBlock from fun k hk => ⟨fun he => by have := blk_lt HX1.out; omega, fun he => by have := Kd.R_lt (Kd.S_R HR1.out) k he.symm; omega⟩); have HBB := zz31 (Nat.le_trans hB hb.size); clear hb f1 f2; have f1 := zz9 HX1.out 0; have f2 := zz10 HX1.out 0; simp only [List.getElem?_toArray, List.getElem?_cons_zero] at f1) | (fail "no arm"))
        go_region_law (first | (rw [if_pos (by rfl)]; go_simp; go_at_call 59; refine (spec_l1Own.calls A c l l _ ?_ HCc.out HOwn.out).mono ?_; (repeat (first | exact HC1.out | (with_reducible refine zz18 ?_ _) | (with_reducible refine zz19 ?_ _) | (with_reducible refine zz20 ?_))); rintro e' w3 ⟨v3, rfl, ho, hb⟩; obtain ⟨A3, c3, rfl⟩ := Kd.R_slice ho; have HB3 := zz31 (zz4 (w := w1) (by repeat (first | exact Below.refl _ _ | apply zz0 | apply below_drew | apply zz2)) hb); have HO3 := zz31 ho; clear ho hb; have HX3 := zz31 (zz11 HX1.out HB3.out); have f13 := zz9 HX3.out 0; have f14 := zz9 (zz8 HX3.out (.cells #[.slice A3 l.length c3] 22)) 0; simp only [List.getElem?_toArray, List.getElem?_cons_zero] at f13 f14; have HR3 := zz31 (Kd.S_below (Kd.S_mono (ok' := fun k => k ≠ Bo ∧ ¬ w1.heap.size ≤ k) (Kd.S_bound HR1.out) (fun k hk => ⟨hk.1, Nat.not_le.2 hk.2.2.1⟩)) HB3.out); have HB3w := zz31 (HB3.out.mono HBB.out); have HM3 := zz31 (Kd.M_row (Kd.R_lower (Kd.R_mono (ok' := fun k => w1.heap.size ≤ k) (Kd.R_bound HO3.out) (fun k hk => hk.2.1)) HBB.out)); have HF3 := zz31 (fun k (hk : w3.heap.size ≤ k) => Nat.ne_of_gt (Nat.lt_of_lt_of_le (blk_lt HX3.out) hk))) | (refine Kd.S_append_step KdS (w0 := w1) (W := w3) B0 ?_ (.tmp 17) (.tmp 20) 42 22 (.slice none 0 0) 24 ?_ Try.underlying42 infoRows rfl (by decide) (by omega) v acc l [.slice A3 l.length c3] (fun k => k ≠ Bo) (fun k => w1.heap.size ≤ k) ?_ ?_ ?_ HP.out HF3.out ?_ ?_ ?_ HLL.out ?_; rfl; rfl; rfl; rfl; exact HM3.out; exact HR3.out; exact HB3w.out; exact Nat.le_trans HBB.out HB3.out.size; intro v1 w4 hR1 hB1 hg1 hat1; rw [← HLE.out] at hR1; obtain ⟨A1, c1, rfl⟩ := Kd.S_slice hR1; have HX4 : Aside0 (w4.heap[Bo]? = some (.cells #[v] 42 (0, 0))) := ⟨(hg1.block Bo (blk_lt HX3.out) (fun he => HNO.out _ he.symm rfl)).trans HX3.out⟩; have g1 := zz9 HX4.out 0; have g2 := zz10 HX4.out 0; simp only [List.getElem?_toArray, List.getElem?_cons_zero] at g1; have HR4 := zz31 hR1; have HG1 := zz31 hg1; have HA1 := zz31 hat1; clear hR1 hB1 hg1 hat1) | (fail "no arm"))
        all_goals
          have HF2:=zz31 (fr_put HB3.out HG1.out HA1.out (blk_lt HX3.out) (bo:=Bo))
          have HX2:Aside0 ((w4.setCell ⟨Bo,0,none⟩ (.slice A1 L1.length c1)).heap[Bo]?=some (.cells #[.slice A1 L1.length c1] 42 (0,0))):=⟨blk_set HX4.out 0 _⟩
          have HR2:=zz31 (Kd.S_far HR4.out (fun k hk he=>hk he) (.slice A1 L1.length c1) (p:=⟨Bo,0,none⟩))
          clear g1 g2 f1 f2 f13 f14
          go_wp2
          exact bodyPost_ret (results_none rfl _ _ _) rfl ⟨rfl,_,HX2.out,by rw [← HLE.out];exact HR2.out,(Fr.of_below _ HB1.out).trans HF2.out⟩
    · rw [if_neg hln] at hr
      obtain ⟨hm0,hm7⟩:=hm (by omega)
      obtain ⟨mst,hmst⟩:∃ mst,mst=mostOf n l:=⟨_,rfl⟩
      rw [← hmst] at hr hm0 hm7
      obtain ⟨M,hM⟩:∃ M:Nat,mst+1=(M:Int):=⟨(mst+1).toNat,by omega⟩
      rw [hM,Int.toNat_natCast] at hr
      have HLC:=zz31 hr
      have hrl:=alkL_pre _ _ _ hr M (Nat.le_refl _)
      have e0:((l.length:Int) == (n:Int))=false:=beq_eq_false_iff_ne.2 (by omega)
      have hwn:IntKind.i64.wrap ((n:Int) - 1)=(n:Int) - 1:=wrapA _ (by omega) (by omega)
      have hM8:M≤8:=by omega
      have HMST:=zz31 hmst
      clear hr hrl hmst
      by_cases hl0:0 < l.length
      · have hl0z:(l.length:Int) > 0:=by omega
        obtain ⟨ad,ea,hcell⟩:=Kd.at_int HCs.out ((l.length:Int) - 1) (by omega) (by omega)
        subst ea
        rw [show ((l.length:Int) - 1).toNat=l.length - 1 by omega,show rd l ((l.length:Int) - 1)=mst from by rw [HMST.out];unfold mostOf;rw [if_pos hl0]] at hcell
        go_enter Try.func77,Try.ntmps77
        go_wp2
        go_loopg [7] M (fun gg v7 wr=>∃ (j:Nat) (vr:Value) (pre:List (List Int)),j≤M∧M - j≤gg∧v7=.int .i64 (j:Int)∧Aside0 (alkL (fun x=>alkO (spec_deCan.f k) n d (l ++ [(x:Int)]) (x:Int)) j=some pre)∧Aside0 (wr.heap[Bo]?=some (.cells #[vr] 42 (0,0)))∧Aside0 (Kd.S KdS 22 wr B0 (fun k=>k ≠ Bo) vr (acc ++ pre))∧Aside0 (Fr (ownV Bo v) (ownV Bo vr) W wr))
        case atStart=>exact ⟨0,v,[],by omega,by omega,by rfl,⟨rfl⟩,HX,⟨by rw [List.append_nil];exact HR.out⟩,⟨Fr.refl _ _⟩⟩
        case round =>
          obtain ⟨j,vr,pre,hjM,hgg,rfl,HPR,HXr,HRr,HFr⟩:=hrel
          by_cases hlt:j < M
          · have hltz:(j:Int)≤mst:=by omega
            obtain ⟨ys,hys,hnext,hlen⟩:=alkL_step _ M r HLC.out j hlt pre HPR.out
            have HYS:=zz31 (show alkO (spec_deCan.f k) n d (l ++ [(j:Int)]) (mostOf n (l ++ [(j:Int)]))=some ys from by rw [mostOf_snoc];exact hys)
            have HNX:=zz31 hnext
            have HLN:=zz31 hlen
            have HCr:=zz31 (HFr.out.R HC.out (fun _ h=>h))
            have HCsr:=zz31 (Kd.R_reads' HCr.out).2.2
            have HL1:=zz31 (show (l ++ [(j:Int)]).length=l.length+1 from by rw [List.length_append,List.length_singleton])
            have HLc:=zz31 (show (l.length+1) * 8≤140737488355328 from by omega)
            have HBr:=zz31 (Nat.le_trans hB HFr.out.size)
            have HXl:=zz31 (blk_lt HXr.out)
            have HVL:=zz31 (show ∀ k,wr.heap.size≤k→¬ ownV Bo vr k from fun k hk h=>h.elim (fun h=>by have:=HXl.out;omega) (fun h=>by have:=Kd.R_lt (Kd.S_R HRr.out) k h.symm;omega))
            have HDD:=zz31 (show d+(l ++ [(j:Int)]).length=n+1∧((l ++ [(j:Int)]).length < n→0≤mostOf n (l ++ [(j:Int)])∧mostOf n (l ++ [(j:Int)])≤7) from by rw [mostOf_snoc,HL1.out];omega)
            have HAC:=zz31 (show (acc ++ pre).length+ys.length≤100000 from by rw [List.length_append];omega)
            clear hys hnext hlen f1 f2 hm hln
            go_wp2_with (first | (go_at_call 59; refine (spec_l1Own.calls (some ad) c l l _ ?_ HCc.out HOwn.out).mono ?_; (repeat (first | exact HCsr.out | (with_reducible refine zz19 ?_ _) | (with_reducible refine zz20 ?_))); rintro e' w5 ⟨v5, rfl, ho, hb⟩; have HB5 := zz31 (zz4 (w := wr) (by repeat (first | exact Below.refl _ _ | apply zz0 | apply below_drew)) hb); have HO5 := zz31 (Kd.R_mono (ok' := fun k => wr.heap.size ≤ k) (Kd.R_bound ho) (fun k hk => hk.2.1)); clear ho hb) | (at_builtin; refine Kd.R_append (Kd.int .i64) (w0 := wr) wr.heap.size rfl (.tmp 41) (.tmp 43) 22 3 (.int .i64 0) 8 rfl Try.underlying22 info3 rfl (by decide) (by omega) v5 l (j : Int) [.int .i64 (j : Int)] (fun k => wr.heap.size ≤ k) (fun _ => False) rfl rfl ?_ (fun _ hk => hk.elim) ?_ ?_ ?_ ?_ HLc.out ?_; exact rfl; exact (fun k hk => Nat.le_trans HB5.out.size hk); exact HO5.out; exact HB5.out; exact HB5.out.size; intro v6 w6 ho hb hg hat; obtain ⟨A6, c6, rfl⟩ := Kd.R_slice ho; have HO6 := zz31 ho; have HB6 := zz31 hb; clear ho hb hg hat) | (go_at_call 77; rw [← HL1.out]; refine (IH.out (l ++ [(j : Int)]) (acc ++ pre) vr w6 A6 c6 ys HDD.out.1 HDD.out.2 HYS.out HAC.out (zz11 HXr.out HB6.out) (Kd.S_below HRr.out HB6.out) (Kd.R_mono (Kd.R_lower HO6.out HBr.out) (fun k hk => HVL.out k hk)) (Nat.le_trans HBr.out HB6.out.size)).mono ?_; rintro e' w7 ⟨rfl, v7, hx7, hr7, hf7⟩; have HX7 := zz31 hx7; have HR7 := zz31 hr7; have HF7 := zz31 ((Fr.of_below (ownV Bo vr) HB6.out).trans hf7); clear hx7 hr7 hf7) | (fail "no arm"))
            all_goals
              go_wp2
              go_roundg (M - (j+1))
              case measure=>omega
              case rel=>exact ⟨j+1,v7,pre ++ ys,by omega,by omega,by go_num,HNX,⟨by (with_reducible repeat (first | refine zz6 ?_ _ | refine zz7 ?_));exact HX7.out⟩,⟨by rw [← List.append_assoc];(with_reducible repeat (first | apply zz16 | apply zz17));exact HR7.out⟩,⟨HFr.out.trans (HF7.out.trans (Fr.of_below _ (by repeat first | exact Below.refl _ _ | apply zz0 | apply below_drew)))⟩⟩
          · have hltz:¬ (j:Int)≤mst:=by omega
            obtain rfl:j=M:=by omega
            have hpr:pre=r:=Option.some.inj (HPR.out.symm.trans HLC.out)
            subst hpr
            clear f1 f2 hm hln
            go_wp2
            exact bodyPost_end (results_none rfl _ _ _) rfl ⟨rfl,vr,HXr.out,HRr.out,HFr.out⟩
      · have hl0z:¬ (l.length:Int) > 0:=by omega
        have hmn:mst=(n:Int) - 1:=by rw [HMST.out];unfold mostOf;rw [if_neg hl0]
        subst hmn
        go_enter Try.func77,Try.ntmps77
        go_wp2
        go_loopg [7] M (fun gg v7 wr=>∃ (j:Nat) (vr:Value) (pre:List (List Int)),j≤M∧M - j≤gg∧v7=.int .i64 (j:Int)∧Aside0 (alkL (fun x=>alkO (spec_deCan.f k) n d (l ++ [(x:Int)]) (x:Int)) j=some pre)∧Aside0 (wr.heap[Bo]?=some (.cells #[vr] 42 (0,0)))∧Aside0 (Kd.S KdS 22 wr B0 (fun k=>k ≠ Bo) vr (acc ++ pre))∧Aside0 (Fr (ownV Bo v) (ownV Bo vr) W wr))
        case atStart=>exact ⟨0,v,[],by omega,by omega,by rfl,⟨rfl⟩,HX,⟨by rw [List.append_nil];exact HR.out⟩,⟨Fr.refl _ _⟩⟩
        case round =>
          obtain ⟨j,vr,pre,hjM,hgg,rfl,HPR,HXr,HRr,HFr⟩:=hrel
          by_cases hlt:j < M
          · have hltz:(j:Int)≤(n:Int) - 1:=by omega
            obtain ⟨ys,hys,hnext,hlen⟩:=alkL_step _ M r HLC.out j hlt pre HPR.out
            have HYS:=zz31 (show alkO (spec_deCan.f k) n d (l ++ [(j:Int)]) (mostOf n (l ++ [(j:Int)]))=some ys from by rw [mostOf_snoc];exact hys)
            have HNX:=zz31 hnext
            have HLN:=zz31 hlen
            have HCr:=zz31 (HFr.out.R HC.out (fun _ h=>h))
            have HCsr:=zz31 (Kd.R_reads' HCr.out).2.2
            have HL1:=zz31 (show (l ++ [(j:Int)]).length=l.length+1 from by rw [List.length_append,List.length_singleton])
            have HLc:=zz31 (show (l.length+1) * 8≤140737488355328 from by omega)
            have HBr:=zz31 (Nat.le_trans hB HFr.out.size)
            have HXl:=zz31 (blk_lt HXr.out)
            have HVL:=zz31 (show ∀ k,wr.heap.size≤k→¬ ownV Bo vr k from fun k hk h=>h.elim (fun h=>by have:=HXl.out;omega) (fun h=>by have:=Kd.R_lt (Kd.S_R HRr.out) k h.symm;omega))
            have HDD:=zz31 (show d+(l ++ [(j:Int)]).length=n+1∧((l ++ [(j:Int)]).length < n→0≤mostOf n (l ++ [(j:Int)])∧mostOf n (l ++ [(j:Int)])≤7) from by rw [mostOf_snoc,HL1.out];omega)
            have HAC:=zz31 (show (acc ++ pre).length+ys.length≤100000 from by rw [List.length_append];omega)
            clear hys hnext hlen f1 f2 hm hln
            go_wp2_with (first | (go_at_call 59; refine (spec_l1Own.calls A c l l _ ?_ HCc.out HOwn.out).mono ?_; (repeat (first | exact HCsr.out | (with_reducible refine zz19 ?_ _) | (with_reducible refine zz20 ?_))); rintro e' w5 ⟨v5, rfl, ho, hb⟩; have HB5 := zz31 (zz4 (w := wr) (by repeat (first | exact Below.refl _ _ | apply zz0 | apply below_drew)) hb); have HO5 := zz31 (Kd.R_mono (ok' := fun k => wr.heap.size ≤ k) (Kd.R_bound ho) (fun k hk => hk.2.1)); clear ho hb) | (at_builtin; refine Kd.R_append (Kd.int .i64) (w0 := wr) wr.heap.size rfl (.tmp 41) (.tmp 43) 22 3 (.int .i64 0) 8 rfl Try.underlying22 info3 rfl (by decide) (by omega) v5 l (j : Int) [.int .i64 (j : Int)] (fun k => wr.heap.size ≤ k) (fun _ => False) rfl rfl ?_ (fun _ hk => hk.elim) ?_ ?_ ?_ ?_ HLc.out ?_; exact rfl; exact (fun k hk => Nat.le_trans HB5.out.size hk); exact HO5.out; exact HB5.out; exact HB5.out.size; intro v6 w6 ho hb hg hat; obtain ⟨A6, c6, rfl⟩ := Kd.R_slice ho; have HO6 := zz31 ho; have HB6 := zz31 hb; clear ho hb hg hat) | (go_at_call 77; rw [← HL1.out]; refine (IH.out (l ++ [(j : Int)]) (acc ++ pre) vr w6 A6 c6 ys HDD.out.1 HDD.out.2 HYS.out HAC.out (zz11 HXr.out HB6.out) (Kd.S_below HRr.out HB6.out) (Kd.R_mono (Kd.R_lower HO6.out HBr.out) (fun k hk => HVL.out k hk)) (Nat.le_trans HBr.out HB6.out.size)).mono ?_; rintro e' w7 ⟨rfl, v7, hx7, hr7, hf7⟩; have HX7 := zz31 hx7; have HR7 := zz31 hr7; have HF7 := zz31 ((Fr.of_below (ownV Bo vr) HB6.out).trans hf7); clear hx7 hr7 hf7) | (fail "no arm"))
            all_goals
              go_wp2
              go_roundg (M - (j+1))
              case measure=>omega
              case rel=>exact ⟨j+1,v7,pre ++ ys,by omega,by omega,by go_num,HNX,⟨by (with_reducible repeat (first | refine zz6 ?_ _ | refine zz7 ?_));exact HX7.out⟩,⟨by rw [← List.append_assoc];(with_reducible repeat (first | apply zz16 | apply zz17));exact HR7.out⟩,⟨HFr.out.trans (HF7.out.trans (Fr.of_below _ (by repeat first | exact Below.refl _ _ | apply zz0 | apply below_drew)))⟩⟩
          · have hltz:¬ (j:Int)≤(n:Int) - 1:=by omega
            obtain rfl:j=M:=by omega
            have hpr:pre=r:=Option.some.inj (HPR.out.symm.trans HLC.out)
            subst hpr
            clear f1 f2 hm hln
            go_wp2
            exact bodyPost_end (results_none rfl _ _ _) rfl ⟨rfl,vr,HXr.out,HRr.out,HFr.out⟩
theorem mostOf_nil (n:Nat):mostOf n []=(n:Int) - 1:=by unfold mostOf;rw [if_neg (by simp)]
def allF (can:List Int→Option Bool) (a0:Int):Option (List (List Int) × Bool):=if 0≤a0∧a0≤7 then (alkO can a0.toNat (a0.toNat+1) [] (a0 - 1)).bind fun r=>if r.length≤100000 then some (r,true) else none else none
def spec_AllNumbers.f (k:Nat) (a0:Int):Option (List (List Int) × Bool):=(spec_l1In.f a0 0 7).bind fun ok=>if ok=true then allF (spec_deCan.f k) a0 else some ([],false)
theorem spec_AllNumbers.mono:∀ a0 k,LeO (spec_AllNumbers.f k a0) (spec_AllNumbers.f (k+1) a0):=by
  intro a0 k
  unfold spec_AllNumbers.f allF
  exact LeO.bind (LeO.refl _) fun ok=>LeO.ite (LeO.ite (LeO.bind (alkO_mono _ _ (fun l=>spec_deCan.mono l k) _ _ _ _) fun r=>LeO.refl _) (LeO.refl _)) (LeO.refl _)
set_option maxHeartbeats 4000000 in
set_option maxRecDepth 100000 in
theorem spec_AllNumbers.calls (k:Nat) (a0:Int) (r1:List (List Int)) (r2:Bool) (w:World) (h:spec_AllNumbers.f k a0=some (r1,r2)) :
    Calls Try.prog 39 #[.int .i64 a0] w fun e w'=>∃ v0_:Value,e=.returned (.tuple #[v0_,.bool r2])∧Kd.S (Kd.slice 3 (Kd.int .i64)) 22 w' w.heap.size (fun _=>True) v0_ r1∧Below w.heap.size w w':=by
  unfold spec_AllNumbers.f at h
  obtain ⟨ok,hok,h⟩:=zz30.1 h
  have HOK:=zz31 hok
  clear hok
  cases ok with
  | false =>
    rw [if_neg (by simp)] at h
    simp only [Option.some.injEq,Prod.mk.injEq] at h
    obtain ⟨rfl,rfl⟩:=h
    go_enter Try.func39,Try.ntmps39
    go_wp2_with (first | (go_at_call 76; refine (spec_l1In.calls a0 0 7 false _ HOK.out).mono ?_; rintro e w4 ⟨rfl, hd⟩; obtain ⟨q, hq⟩ := hd.out; subst hq) | (fail "no arm"))
    refine bodyPost_ret (results_tmp2 rfl _ _ _) rfl ?_
    exact ⟨_,rfl,Kd.S_nil _ _ _ _ _,by repeat first | exact Below.refl _ _ | apply zz0 | apply below_drew⟩
  | true =>
    rw [if_pos rfl] at h
    unfold allF at h
    by_cases hb:0≤a0∧a0≤7
    case neg=>rw [if_neg hb] at h;exact absurd h (by simp)
    rw [if_pos hb] at h
    obtain ⟨r,hr,h⟩:=zz30.1 h
    by_cases hlr:r.length≤100000
    case neg=>rw [if_neg hlr] at h;exact absurd h (by simp)
    rw [if_pos hlr] at h
    simp only [Option.some.injEq,Prod.mk.injEq] at h
    obtain ⟨rfl,rfl⟩:=h
    obtain ⟨n,rfl⟩:=Int.eq_ofNat_of_zero_le hb.1
    rw [Int.toNat_natCast] at hr
    have CG:Aside0 (∀ q:Nat,Calls Try.prog 77 #[.int .i64 (n:Int),.slice none 0 0,.pointer (some ⟨w.heap.size,0,none⟩)] ((w.drewN q).alloc (.cells #[.slice none 0 0] 42)) fun e W' =>
        e=.returned (.tuple #[])∧∃ v,W'.cell? ⟨w.heap.size,0,none⟩=some v∧Kd.S KdS 22 W' w.heap.size (fun _=>True) v r∧Below w.heap.size w W'):=⟨fun q=>by
      have hbel:Below w.heap.size w ((w.drewN q).alloc (.cells #[.slice none 0 0] 42)):=zz2 (zz0 (Below.refl _ _) q) _
      refine (fall_calls k n (by omega) w.heap.size w.heap.size (n+1) [] [] (.slice none 0 0) _ none 0 r (by simp) (fun hlt=>by rw [mostOf_nil];simp at hlt;omega) (by rw [mostOf_nil];exact hr) (by simpa using hlr) (blk_new (w.drewN q) _) (Kd.S_nil _ _ _ _ _) (Kd.R_nil _ _ _ _ _) hbel.size).mono ?_
      rintro e W' ⟨g1,v,g2,g3,g4⟩
      exact ⟨g1,v,zz9 g2 0,Kd.S_mono (by simpa using g3) (fun _ _=>trivial),hbel.trans (g4.below hbel.size (fun i hi=>by
        rcases hi with rfl | hi
        · exact Nat.le_refl _
        · simp [Value.ownBlock] at hi))⟩⟩
    clear hr hlr
    go_enter Try.func39,Try.ntmps39
    go_wp2_with (first | (go_at_call 76; refine (spec_l1In.calls (n : Int) 0 7 true _ HOK.out).mono ?_; rintro e w4 ⟨rfl, hd⟩; obtain ⟨q, hq⟩ := hd.out; subst hq) | (go_at_call 77; refine (CG.out _).mono ?_; rintro e w5 ⟨rfl, v, hc, hS, hB⟩; have HS := zz31 hS; have HB := zz31 hB; clear hS hB) | (fail "no arm"))
    refine bodyPost_ret (results_tmp2 rfl _ _ _) rfl ?_
    exact ⟨v,rfl,by (with_reducible repeat (first | apply zz16 | apply zz17));exact HS.out,by repeat first | exact HB.out | apply zz0 | apply below_drew⟩

/-! ### impl_within: function 78 -/
def impl_within.f (a0:Int) (a1:Int) (a2:Int):Option (Bool):=if a1≤a0 then (some (decide (a0≤a2))) else (some false)
set_option maxHeartbeats 8000000 in
set_option maxRecDepth 100000 in
theorem impl_within.calls (a0:Int) (a1:Int) (a2:Int) (r:Bool) (w:World) (h:impl_within.f a0 a1 a2=some r) :
  Calls Try.prog 78 #[.int .i64 a0,.int .i64 a1,.int .i64 a2] w fun e w'=>e=.returned (.bool r)∧Drawn0 w w':=by
 have H:(if a1≤a0 then (some (decide (a0≤a2))) else (some false))=some r:=h
 clear h
 by_cases c4:a1≤a0
 ·rw [if_pos c4] at H
  have c4b0:decide (a1≤a0)=true:=decide_eq_true c4
  clear c4
  obtain rfl:=Option.some.inj H
  go_enter Try.func78,Try.ntmps78
  go_wp2
  go_ret
  exact ⟨by first | rfl | (simp;done) | (simp [*];done),by repeat (first | exact Drawn0.refl _ | apply Drawn0.step)⟩
 ·rw [if_neg c4] at H
  have c4b0:decide (a1≤a0)=false:=decide_eq_false c4
  clear c4
  obtain rfl:=Option.some.inj H
  go_enter Try.func78,Try.ntmps78
  go_wp2
  go_ret
  exact ⟨by first | rfl | (simp;done) | (simp [*];done),by repeat (first | exact Drawn0.refl _ | apply Drawn0.step)⟩

/-! ### slices_Clone_int_int: function 65 (a contract of our own) -/
def slices_Clone_int_int.f (l0:List Int):Option (List Int):=if l0.length≤1000000000 then some l0 else none
set_option maxHeartbeats 1000000 in
set_option maxRecDepth 100000 in
theorem slices_Clone_int_int.calls (A0:Option Addr) (c0:Nat) (l0:List Int) (r:List Int) (w:World) (hr0:Kd.C (Kd.int .i64) w A0 l0.length l0) (hc0:l0.length≤c0) (h:slices_Clone_int_int.f l0=some r) :
  Calls Try.prog 65 #[.slice A0 l0.length c0] w fun e w'=>∃ v0_:Value,e=.returned (v0_)∧Kd.R (Kd.int .i64) 3 w' w.heap.size (fun _=>True) v0_ r∧Below w.heap.size w w':=by
 unfold slices_Clone_int_int.f at h
 by_cases hb:l0.length≤1000000000
 case neg=>rw [if_neg hb] at h;exact absurd h (by simp)
 rw [if_pos hb] at h
 obtain rfl:=Option.some.inj h
 clear h
 have HR:=zz31 hr0
 have HBIG:=zz31 hb
 clear hb hc0
 cases A0 with
 | none =>
  have h0:l0=[]:=by
   rcases Nat.eq_zero_or_pos l0.length with hz | hz
   ·exact List.eq_nil_of_length_eq_zero hz
   ·obtain ⟨ad,e,_⟩:=hr0.2.2 hz
    cases e
  subst h0
  clear hr0
  have heq:∀ W:World,(binOp .eql 22 (.slice none 0 c0) (.slice none 0 0)).run Try.prog W=.ok (.bool true) W:=fun W=>Lib.run_eql_slice_nil_nil W 0 c0 Try.underlying22
  go_enter Try.func65,Try.ntmps65
  go_wp2
  go_ret
  exact ⟨_,rfl,Kd.R_nil _ _ _ _ _,Below.refl _ _⟩
 | some ad =>
  clear hr0
  have heq:∀ W:World,(binOp .eql 22 (.slice (some ad) l0.length c0) (.slice none 0 0)).run Try.prog W=.ok (.bool false) W:=fun W=>Lib.run_eql_slice_some_nil W ad l0.length c0 Try.underlying22
  go_enter Try.func65,Try.ntmps65
  go_wp2_with (first | ((with_reducible refine gate_dst (N:=5) rfl ?_);refine Kd.R_lit (Kd.int .i64) (w0:=w) w.heap.size 3 ?hg (N:=5) ?hd (xs:=([]:List Int)) (inner:=[]) (ok:=fun _=>True) (okp:=fun _=>True) ?hr ?hp (fun _ hk=>hk) trivial (Below.refl _ _) (Nat.le_refl _) (by simp) ?_;(case hd=>rfl);(case hg=>rfl);(case hr=>first | (go_simp;done) | (go_simp;rfl));(case hp=>exact (Reps.none _ _));intro v3 w3 ho hb hg_ hnew_;clear hg_ hnew_;have HO:=zz31 ho;have HB:=zz31 hb;clear ho hb) | ((with_reducible refine gate_dst (N:=7) rfl ?_);refine Kd.R_append_rows (Kd.int .i64) (w0:=w) w.heap.size rfl (.tmp 5) (.tmp 6) 22 3 (.int .i64 0) 8 rfl Try.underlying22 info3 rfl (by decide) (by omega) v3 [] l0 _ _ _ (fun _=>True) (fun _=>False) rfl rfl HO.out (Kd.C_below HR.out HB.out) ?aR (fun _ h=>h.elim) (fun _ _=>trivial) HB.out HB.out.size ?aL ?_;(case aR=>exact (fun _ _ h=>h));(case aL=>(have:=HBIG.out;simp;omega));intro v4 w4 ho4 hb4 hg4 hn4;clear hg4 hn4;have HO4:=zz31 ho4;have HB4:=zz31 hb4;clear ho4 hb4))
  go_ret
  exact ⟨_,rfl,by simpa using HO4.out,HB4.out⟩

/-! ### impl_sum: function 64 -/
def impl_sum.l0:Nat→Int→List Int→Int→Int→Option (Int)
 | 0,_,_,_,_=>none
 | k+1,x3,x6,x7,x8=>if x8 < x7 then (if 0≤x8 then (if x8 < (x6.length:Int) then (impl_sum.l0 k (wrap64 (x3+(rd x6 x8))) x6 x7 (wrap64 (x8+1))) else (none)) else (none)) else (some x3)
def impl_sum.f (k:Nat) (l0:List Int):Option (Int):=impl_sum.l0 k 0 l0 (l0.length:Int) 0
theorem impl_sum.mono_l:∀ k,(∀ y0 y1 y2 y3,LeO (impl_sum.l0 k y0 y1 y2 y3) (impl_sum.l0 (k+1) y0 y1 y2 y3))
 | 0=>fun _ _ _ _ r h=>by simp [impl_sum.l0] at h
 | k+1=>by
  have ih0:=impl_sum.mono_l k
  ·intro y0 y1 y2 y3
   unfold impl_sum.l0
   repeat' first
   | (with_reducible exact ih0 _ _ _ _)
   | (with_reducible exact LeO.refl _)
   | (with_reducible exact LeO.none _)
   | (with_reducible refine LeO.ite ?_ ?_)
   | (with_reducible refine LeO.bind ?_ (fun _=>?_))
   | exact ih0 _ _ _ _
   | exact LeO.none _
   | refine LeO.ite ?_ ?_
   | refine LeO.bind ?_ (fun _=>?_)
theorem impl_sum.mono:∀ a0 k,LeO (impl_sum.f k a0) (impl_sum.f (k+1) a0):=by
 intro a0 k
 have ih0:=impl_sum.mono_l k
 unfold impl_sum.f
 repeat' first
   | (with_reducible exact ih0 _ _ _ _)
   | (with_reducible exact LeO.refl _)
   | (with_reducible exact LeO.none _)
   | (with_reducible refine LeO.ite ?_ ?_)
   | (with_reducible refine LeO.bind ?_ (fun _=>?_))
   | exact ih0 _ _ _ _
   | exact LeO.none _
   | refine LeO.ite ?_ ?_
   | refine LeO.bind ?_ (fun _=>?_)
set_option maxHeartbeats 8000000 in
set_option maxRecDepth 100000 in
theorem impl_sum.calls (k:Nat) (A0:Option Addr) (c0:Nat) (l0:List Int) (r:Int) (w:World) (hr0:Kd.C (Kd.int .i64) w A0 l0.length l0) (hc0:l0.length≤c0) (h:impl_sum.f k l0=some r) :
  Calls Try.prog 64 #[.slice A0 l0.length c0] w fun e w'=>e=.returned (.int .i64 r)∧Drawn0 w w':=by
 have HR0:=zz31 hr0
 have HC0:=zz31 hc0
 clear hr0 hc0
 have H:(impl_sum.l0 k 0 l0 (l0.length:Int) 0)=some r:=h
 clear h
 have H':=zz31 H
 clear H
 go_enter Try.func64,Try.ntmps64
 go_wp2
 go_loopg [3,8] k (fun kq v3 v8 w'=>∃ (x3_1:Int) (x8_1:Int),v3=.int .i64 x3_1∧v8=.int .i64 x8_1∧Aside0 (impl_sum.l0 kq x3_1 l0 (l0.length:Int) x8_1=some r)∧Aside0 (kq≤k)∧Drawn0 w w')
 case atStart=>exact ⟨(0),(0),(by first | rfl | (simp;done) | (simp [*];done)),(by first | rfl | (simp;done) | (simp [*];done)),H',⟨Nat.le_refl _⟩,by repeat (first | exact Drawn0.refl _ | apply Drawn0.step)⟩
 case round =>
  clear H'
  obtain ⟨x3_1,x8_1,rfl,rfl,HA,HK1,⟨m1,rfl⟩⟩:=hrel
  cases gk with
  | zero=>exact absurd HA.out (by simp [impl_sum.l0])
  | succ k1 =>
   have H:=HA.out
   clear HA
   simp only [impl_sum.l0] at H
   by_cases c2:x8_1 < (l0.length:Int)
   ·rw [if_pos c2] at H
    have c2b0:decide (x8_1 < (l0.length:Int))=true:=decide_eq_true c2
    clear c2
    by_cases c3:0≤x8_1
    ·rw [if_pos c3] at H
     have c3b0:decide (0≤x8_1)=true:=decide_eq_true c3
     clear c3
     by_cases c4:x8_1 < (l0.length:Int)
     ·rw [if_pos c4] at H
      have c4b0:decide (x8_1 < (l0.length:Int))=true:=decide_eq_true c4
      clear c4
      have H':=zz31 H
      clear H
      have p124:0≤(x8_1:Int):=zz29 (by first | (with_reducible assumption) | assumption)
      have q124:x8_1 < (l0.length:Int):=zz29 (by first | (with_reducible assumption) | assumption)
      obtain ⟨ad124,e124,hx124_0⟩:=Kd.at_int HR0.out x8_1 p124 q124
      cases e124
      replace p124:=eq_true p124
      replace q124:=eq_true q124
      go_wp2
      go_roundg k1
      case measure=>have:=HK1.out;omega
      case rel=>exact ⟨(wrap64 (x3_1+(rd l0 x8_1))),(wrap64 (x8_1+1)),(by first | rfl | (simp;done) | (simp [*];done)),(by first | rfl | (simp;done) | (simp [*];done)),H',⟨by have:=HK1.out;omega⟩,by repeat (first | exact Drawn0.refl _ | apply Drawn0.step)⟩
     ·rw [if_neg c4] at H
      exact absurd H (by simp)
    ·rw [if_neg c3] at H
     exact absurd H (by simp)
   ·rw [if_neg c2] at H
    have c2b0:decide (x8_1 < (l0.length:Int))=false:=decide_eq_false c2
    clear c2
    obtain rfl:=Option.some.inj H
    go_wp2
    go_ret
    exact ⟨by first | rfl | (simp;done) | (simp [*];done),by repeat (first | exact Drawn0.refl _ | apply Drawn0.step)⟩

-- NOT PRINTED: function 105 (slices_AppendSeq_int_int)

-- NOT PRINTED: function 100 (slices_Collect_int)

/-! ### cmp_isNaN_int: function 126 -/
def cmp_isNaN_int.f (a0:Int):Option (Bool):=some (a0 != a0)
set_option maxHeartbeats 8000000 in
set_option maxRecDepth 100000 in
theorem cmp_isNaN_int.calls (a0:Int) (r:Bool) (w:World) (h:cmp_isNaN_int.f a0=some r) :
  Calls Try.prog 126 #[.int .i64 a0] w fun e w'=>e=.returned (.bool r)∧Drawn0 w w':=by
 have H:(some (a0 != a0))=some r:=h
 clear h
 obtain rfl:=Option.some.inj H
 go_enter Try.func126,Try.ntmps126
 go_wp2
 go_ret
 exact ⟨by first | rfl | (simp;done) | (simp [*];done),by repeat (first | exact Drawn0.refl _ | apply Drawn0.step)⟩

/-! ### cmp_Less_int: function 115 -/
def cmp_Less_int.f (a0:Int) (a1:Int):Option (Bool):=(cmp_isNaN_int.f a0).bind fun t125=>(if t125=true then ((cmp_isNaN_int.f a1).bind fun t126=>(if t126=true then (some (decide (a0 < a1))) else (some true))) else (some (decide (a0 < a1))))
set_option maxHeartbeats 8000000 in
set_option maxRecDepth 100000 in
theorem cmp_Less_int.calls (a0:Int) (a1:Int) (r:Bool) (w:World) (h:cmp_Less_int.f a0 a1=some r) :
  Calls Try.prog 115 #[.int .i64 a0,.int .i64 a1] w fun e w'=>e=.returned (.bool r)∧Drawn0 w w':=by
 have H:((cmp_isNaN_int.f a0).bind fun t125=>(if t125=true then ((cmp_isNaN_int.f a1).bind fun t126=>(if t126=true then (some (decide (a0 < a1))) else (some true))) else (some (decide (a0 < a1)))))=some r:=h
 clear h
 replace H:=zz30.mp H
 obtain ⟨t125,A30,H⟩:=H
 replace H:(if t125=true then ((cmp_isNaN_int.f a1).bind fun t126=>(if t126=true then (some (decide (a0 < a1))) else (some true))) else (some (decide (a0 < a1))))=some r:=H
 have A3:=zz31 A30
 clear A30
 by_cases c4:t125=true
 ·subst c4
  have H1:((cmp_isNaN_int.f a1).bind fun t126=>(if t126=true then (some (decide (a0 < a1))) else (some true)))=some r:=by rw [if_pos rfl] at H;exact H
  clear H
  have H:=H1
  clear H1
  replace H:=zz30.mp H
  obtain ⟨t126,A50,H⟩:=H
  replace H:(if t126=true then (some (decide (a0 < a1))) else (some true))=some r:=H
  have A5:=zz31 A50
  clear A50
  by_cases c6:t126=true
  ·subst c6
   have H1:(some (decide (a0 < a1)))=some r:=by rw [if_pos rfl] at H;exact H
   clear H
   have H:=H1
   clear H1
   obtain rfl:=Option.some.inj H
   go_enter Try.func115,Try.ntmps115
   go_wp2_with (first | ((with_reducible refine gate_callee (f:=126) rfl ?_);refine goesL_ (some 6) rfl rfl Try.func126 (by kernel_rfl) rfl #[.int .i64 a0] rfl (by (try simp only [zz26,zz27,zz28]);first | done | rfl | (simp only [zz24,zz25];rfl)) ?_;(with_reducible refine (cmp_isNaN_int.calls a0 true _ A3.out).mono ?_);rintro e w' ⟨rfl,⟨nd,rfl⟩⟩;refine ⟨_,rfl,?_⟩) | (go_at_call 126;(with_reducible refine (cmp_isNaN_int.calls a1 true _ A5.out).mono ?_);rintro e w' ⟨rfl,⟨nd,rfl⟩⟩))
   go_ret
   exact ⟨by first | rfl | (simp;done) | (simp [*];done),by repeat (first | exact Drawn0.refl _ | apply Drawn0.step)⟩
  ·replace c6:=Bool.eq_false_iff.mpr c6
   subst c6
   have H1:(some true)=some r:=by rw [if_neg (show ¬ (false=true) by decide)] at H;exact H
   clear H
   have H:=H1
   clear H1
   obtain rfl:=Option.some.inj H
   go_enter Try.func115,Try.ntmps115
   go_wp2_with (first | ((with_reducible refine gate_callee (f:=126) rfl ?_);refine goesL_ (some 6) rfl rfl Try.func126 (by kernel_rfl) rfl #[.int .i64 a0] rfl (by (try simp only [zz26,zz27,zz28]);first | done | rfl | (simp only [zz24,zz25];rfl)) ?_;(with_reducible refine (cmp_isNaN_int.calls a0 true _ A3.out).mono ?_);rintro e w' ⟨rfl,⟨nd,rfl⟩⟩;refine ⟨_,rfl,?_⟩) | (go_at_call 126;(with_reducible refine (cmp_isNaN_int.calls a1 false _ A5.out).mono ?_);rintro e w' ⟨rfl,⟨nd,rfl⟩⟩))
   go_ret
   exact ⟨by first | rfl | (simp;done) | (simp [*];done),by repeat (first | exact Drawn0.refl _ | apply Drawn0.step)⟩
 ·replace c4:=Bool.eq_false_iff.mpr c4
  subst c4
  have H1:(some (decide (a0 < a1)))=some r:=by rw [if_neg (show ¬ (false=true) by decide)] at H;exact H
  clear H
  have H:=H1
  clear H1
  obtain rfl:=Option.some.inj H
  go_enter Try.func115,Try.ntmps115
  go_wp2_with (first | ((with_reducible refine gate_callee (f:=126) rfl ?_);refine goesL_ (some 6) rfl rfl Try.func126 (by kernel_rfl) rfl #[.int .i64 a0] rfl (by (try simp only [zz26,zz27,zz28]);first | done | rfl | (simp only [zz24,zz25];rfl)) ?_;(with_reducible refine (cmp_isNaN_int.calls a0 false _ A3.out).mono ?_);rintro e w' ⟨rfl,⟨nd,rfl⟩⟩;refine ⟨_,rfl,?_⟩))
  go_ret
  exact ⟨by first | rfl | (simp;done) | (simp [*];done),by repeat (first | exact Drawn0.refl _ | apply Drawn0.step)⟩

-- NOT PRINTED: function 109 (slices_insertionSortOrdered_int)

-- NOT PRINTED: function 121 (slices_siftDownOrdered_int)

-- NOT PRINTED: function 110 (slices_heapSortOrdered_int)

-- NOT PRINTED: function 118 (bits_Len32)

-- NOT PRINTED: function 119 (bits_Len64)

-- NOT PRINTED: function 107 (bits_Len)

-- NOT PRINTED: function 122 (slices_nextPowerOfTwo)

-- NOT PRINTED: function 123 (slices_xorshift_Next)

-- NOT PRINTED: function 111 (slices_breakPatternsOrdered_int)

-- NOT PRINTED: function 127 (slices_order2Ordered_int)

-- NOT PRINTED: function 125 (slices_medianOrdered_int)

-- NOT PRINTED: function 124 (slices_medianAdjacentOrdered_int)

-- NOT PRINTED: function 112 (slices_choosePivotOrdered_int)

-- NOT PRINTED: function 113 (slices_reverseRangeOrdered_int)

-- NOT PRINTED: function 114 (slices_partialInsertionSortOrdered_int)

-- NOT PRINTED: function 116 (slices_partitionEqualOrdered_int)

-- NOT PRINTED: function 117 (slices_partitionOrdered_int)

-- NOT PRINTED: function 106 (slices_pdqsortOrdered_int)

/-! ### slices_Sort_int_int: function 101 (a contract of our own) -/
def sortRen:Go.Shelf.Ren:=⟨fun | 125=>107 | 128=>118 | 129=>119 | 189=>101 | 215=>126 | 216=>115 | 257=>106 | 294=>109 | 295=>110 | 296=>111 | 297=>112 | 298=>113 | 299=>114 | 300=>116 | 301=>117 | 328=>121 | 329=>122 | 330=>123 | 331=>124 | 332=>125 | 343=>127 | n=>n,fun | 0=>0 | 3=>3 | 4=>4 | 5=>5 | 9=>9 | 28=>22 | 46=>95 | 51=>103 | 53=>105 | 131=>23 | 182=>97 | 183=>98 | 218=>106 | 222=>73 | 228=>111 | 229=>112 | n=>n,fun | n=>n⟩
theorem sortLays:Go.Proofs.Lays.n189 Try.prog sortRen:={
 mixed:=by kernel_rfl
 f125:=Try.func107.trans (congrArg some (by kernel_rfl))
 f128:=Try.func118.trans (congrArg some (by kernel_rfl))
 f129:=Try.func119.trans (congrArg some (by kernel_rfl))
 f189:=Try.func101.trans (congrArg some (by kernel_rfl))
 f215:=Try.func126.trans (congrArg some (by kernel_rfl))
 f216:=Try.func115.trans (congrArg some (by kernel_rfl))
 f257:=Try.func106.trans (congrArg some (by kernel_rfl))
 f294:=Try.func109.trans (congrArg some (by kernel_rfl))
 f295:=Try.func110.trans (congrArg some (by kernel_rfl))
 f296:=Try.func111.trans (congrArg some (by kernel_rfl))
 f297:=Try.func112.trans (congrArg some (by kernel_rfl))
 f298:=Try.func113.trans (congrArg some (by kernel_rfl))
 f299:=Try.func114.trans (congrArg some (by kernel_rfl))
 f300:=Try.func116.trans (congrArg some (by kernel_rfl))
 f301:=Try.func117.trans (congrArg some (by kernel_rfl))
 f328:=Try.func121.trans (congrArg some (by kernel_rfl))
 f329:=Try.func122.trans (congrArg some (by kernel_rfl))
 f330:=Try.func123.trans (congrArg some (by kernel_rfl))
 f331:=Try.func124.trans (congrArg some (by kernel_rfl))
 f332:=Try.func125.trans (congrArg some (by kernel_rfl))
 f343:=Try.func127.trans (congrArg some (by kernel_rfl))
 t0:=Try.underlying0
 a0:=Try.isAgg0
 z0:=Try.sizeOf0
 v0:=Try.zeroValue0
 t3:=Try.underlying3
 a3:=Try.isAgg3
 z3:=Try.sizeOf3
 v3:=Try.zeroValue3
 t4:=Try.underlying4
 a4:=Try.isAgg4
 z4:=Try.sizeOf4
 v4:=Try.zeroValue4
 t5:=Try.underlying5
 a5:=Try.isAgg5
 z5:=Try.sizeOf5
 v5:=Try.zeroValue5
 t9:=Try.underlying9
 a9:=Try.isAgg9
 z9:=Try.sizeOf9
 v9:=Try.zeroValue9
 t28:=Try.underlying22
 a28:=Try.isAgg22
 z28:=Try.sizeOf22
 v28:=Try.zeroValue22
 t46:=Try.underlying95
 a46:=Try.isAgg95
 z46:=Try.sizeOf95
 v46:=Try.zeroValue95
 t51:=Try.underlying103
 a51:=Try.isAgg103
 z51:=Try.sizeOf103
 v51:=Try.zeroValue103
 t53:=Try.underlying105
 a53:=Try.isAgg105
 z53:=Try.sizeOf105
 v53:=Try.zeroValue105
 t131:=Try.underlying23
 a131:=Try.isAgg23
 z131:=Try.sizeOf23
 v131:=Try.zeroValue23
 t182:=Try.underlying97
 a182:=Try.isAgg97
 z182:=Try.sizeOf97
 v182:=Try.zeroValue97
 t183:=Try.underlying98
 a183:=Try.isAgg98
 z183:=Try.sizeOf98
 v183:=Try.zeroValue98
 t218:=Try.underlying106
 a218:=Try.isAgg106
 z218:=Try.sizeOf106
 v218:=Try.zeroValue106
 t222:=Try.underlying73
 a222:=Try.isAgg73
 z222:=Try.sizeOf73
 v222:=Try.zeroValue73
 t228:=Try.underlying111
 a228:=Try.isAgg111
 z228:=Try.sizeOf111
 v228:=Try.zeroValue111
 t229:=Try.underlying112
 a229:=Try.isAgg112
 z229:=Try.sizeOf112
 v229:=Try.zeroValue112 }
/-- What slices.Sort does at whole numbers, as the library tells it. -/
theorem sortInts (blk off cap:Nat) (zs:List Int) (w:World) (hH:Go.Sort.Holds (Value.int .i64) w blk off zs.toArray) (hb:blk < w.heap.size) (hz:zs.length < 4611686018427387904) :
    Calls Try.prog 101 #[.slice (some ⟨blk,off,none⟩) zs.length cap] w fun e w' =>
      e=.returned (.tuple #[])∧∃ n os,w'=Go.Sort.grow (Go.Sort.putRow (Value.int .i64) (Go.Sort.ahead w n) blk off (zs.mergeSort fun x y=>decide (x≤y)).toArray) os:=Any.slices_Sort_int sortLays blk off cap zs w hH hb hz
theorem sortNone (p:Option Addr) (cap:Nat) (W:World):Calls Try.prog 101 #[.slice p 0 cap] W fun e w'=>e=.returned (.tuple #[])∧w'=W:=Any.slices_Sort_int_none sortLays p cap W
def slices_Sort_int_int.f (l0:List Int):Option (List Int):=if l0.length < 4611686018427387904 then some (l0.mergeSort fun x y=>decide (x≤y)) else none
theorem slices_Sort_int_int.calls (P0_:Nat→Prop) (u9000_:Value) (l0:List Int) (r:List Int) (w0 w:World) (hB:Below w0.heap.size w0 w) (ho0:Kd.R (Kd.int .i64) 3 w w0.heap.size P0_ u9000_ l0) (h:slices_Sort_int_int.f l0=some r) :
    Calls Try.prog 101 #[u9000_] w fun e w'=>e=.returned (.tuple #[])∧Kd.R (Kd.int .i64) 3 w' w0.heap.size (fun k_=>(P0_ k_ ∨ w.heap.size≤k_)) u9000_ r∧Below w0.heap.size w0 w'∧Kept w w' (fun k_=>P0_ k_):=by
  unfold slices_Sort_int_int.f at h
  by_cases hl:l0.length < 4611686018427387904
  case neg=>rw [if_neg hl] at h;exact absurd h (by simp)
  rw [if_pos hl] at h
  obtain rfl:=Option.some.inj h
  have hml:(l0.mergeSort fun x y=>decide (x≤y)).length=l0.length:=List.length_mergeSort _
  have ho:=Kd.own_of_R ho0
  rcases ho.2 with ⟨rfl,hz⟩ | ⟨gb,cp,cur,rfl,hbase,hgb,r1,r2,r3,r4⟩
  · obtain rfl:l0=[]:=List.eq_nil_of_length_eq_zero hz
    refine (sortNone none 0 w).mono ?_
    rintro e w' ⟨rfl,rfl⟩
    exact ⟨rfl,by simpa using Kd.R_nil _ _ _ _ _,hB,Kept.refl _ _⟩
  · have hH:Go.Sort.Holds (Value.int .i64) w gb 0 l0.toArray:=holds_of_blockI hgb (by rw [Nat.mul_one] at r4;exact r4)
    refine (sortInts gb 0 cp l0 w hH (Array.getElem?_eq_some_iff.1 hgb).1 hl).mono ?_
    rintro e w' ⟨rfl,nn,os,rfl⟩
    have hp:P0_ gb:=ho0.1 gb (by simp [Value.ownBlock])
    refine ⟨rfl,Kd.R_of_own (enc:=Value.int .i64) (h1:=fun _=>rfl) (by rw [hml];exact ownsRow_sortedI hml hbase hgb r1 r2 r3) (fun k hk=>.inl ?_),hB.grown (grownBy_sortedI _) hB.size (fun j hj=>by cases hj;exact hbase),Kept.of_grown (grownBy_sortedI _) (Kept.refl _ _) (fun k hk=>.inl ?_)⟩
    · have:gb=k:=by simpa [Value.ownBlock] using hk
      rw [← this];exact hp
    · cases hk;exact hp

/-! ### slices_Sorted_int: function 93 (lemmas of our own) -/
section
open Go.Shelf
attribute [local go_sem] Oper.semAt_some
set_option maxRecDepth 100000 in
set_option maxHeartbeats 2000000 in
/-- The iterator of slices.Values over whole numbers, for every loop body that keeps what lay below n₀. -/
theorem vals1_in (F:Fence) (n:Nat) (h7:F.fn 102) (hro:F.round=none) (hn:1≤n) (l Bs n₀ cap:Nat) (ad:Addr) (xs:List Int) (hreach:xs.length≤9223372036854775807) (hb:ad.block < n₀) (J Jx:List Int→World→Prop)
  (hY:∀ pre x W,J pre W→pre.length < xs.length→YieldAt F (n - 1) Try.prog l #[.int .i64 x] W fun e W' =>
   (e=.returned (.bool true)∧J (pre ++ [x]) W'∧Below n₀ W W') ∨ (e=.returned (.bool false)∧Jx (pre ++ [x]) W'))
  (W:World) (hBs:W.cell? ⟨Bs,0,none⟩=some (.slice (some ad) xs.length cap)) (hc:∀ j,j < xs.length→W.cell? (ad.add j)=some (.int .i64 (rd xs j))) (h0:J [] W) :
  CallsIn F n Try.prog 102 #[.func (.yield l) #[] #[],.pointer (some ⟨Bs,0,none⟩)] W fun e W'=>(∃ v,e=.returned v) ∧
   ((∃ ys,ys=xs∧J ys W') ∨ (∃ pre,pre <+: xs∧Jx pre W')):=by
 refine callsIn_of_wp Try.func102 rfl h7 ?_ hro
 simp only [Try.ntmps102,List.size_toArray,List.length_cons,List.length_nil,Nat.reduceAdd,Nat.reduceSub,Array.replicate_succ,Array.replicate_zero,List.push_toArray,List.append_toArray,List.nil_append,List.cons_append]
 gi_wp2
 gi_loopw [7] (fun i wr=>∃ k:Nat,k≤xs.length∧i=.int .i64 k∧J (xs.take k) wr∧Below n₀ W wr)
  (fun i _=>xs.length - (intOf i).toNat)
 case atStart=>exact ⟨0,Nat.zero_le _,rfl,by simpa using h0,Below.refl _ _⟩
 case round =>
  obtain ⟨k,hk,rfl,hJs,hnx⟩:=hrel
  by_cases hlt:k < xs.length
  ·obtain ⟨y,hy⟩:∃ y,y=rd xs k:=⟨_,rfl⟩
   have hcx:wr.cell? (ad.add k)=some (.int .i64 y):=by
    have hbk:(ad.add k).block=ad.block:=by unfold Addr.add;split <;> rfl
    rw [hy]
    exact (hnx.cell (p:=ad.add k) (by rw [hbk];exact hb)).trans (hc k hlt)
   have hsn:Aside0 (xs.take (k+1)=xs.take k ++ [y]):=⟨by rw [List.take_succ_eq_append_getElem hlt,hy];simp [rd,List.getD_eq_getElem?_getD,hlt]⟩
   have hkz:(k:Int) < (xs.length:Int):=by omega
   obtain ⟨fn,tmps,assign,body,hyy,hR⟩:=hY _ y wr hJs (by rw [zz25];omega)
   clear hy
   gi_wp2
   refine hR.mono ?_
   rintro e W3 (⟨rfl,hJ3,hk3⟩ | ⟨rfl,hJx3⟩)
   ·gi_wp2
    go_roundw
    case rel=>exact ⟨k+1,by omega,by go_num,by rw [hsn.out];exact hJ3,hnx.trans hk3⟩
    case measure=>simp [intOf];omega
   ·gi_wp2
    refine bodyPost_ret (results_none rfl _ _ _) rfl ?_
    exact ⟨⟨_,rfl⟩,.inr ⟨_,by rw [← hsn.out];exact List.take_prefix _ _,hJx3⟩⟩
  ·have hkl:xs.length≤k:=by omega
   have hkz:¬ (k:Int) < (xs.length:Int):=by omega
   have hJx:J xs wr:=by rw [List.take_of_length_le hkl] at hJs;exact hJs
   gi_wp2
   go_end0
   exact ⟨⟨_,rfl⟩,.inl (by first | exact hJx | exact ⟨_,rfl,hJx⟩)⟩
set_option maxRecDepth 100000 in
set_option maxHeartbeats 1000000 in
theorem vals1_nil_in (F:Fence) (n:Nat) (h7:F.fn 102) (hro:F.round=none) (l Bs:Nat) (A:Option Addr) (cap:Nat) (J:List Int→World→Prop) (W:World) (hBs:W.cell? ⟨Bs,0,none⟩=some (.slice A 0 cap)) (h0:J [] W) :
  CallsIn F n Try.prog 102 #[.func (.yield l) #[] #[],.pointer (some ⟨Bs,0,none⟩)] W fun e W'=>(∃ v,e=.returned v)∧J [] W':=by
 refine callsIn_of_wp Try.func102 rfl h7 ?_ hro
 simp only [Try.ntmps102,List.size_toArray,List.length_cons,List.length_nil,Nat.reduceAdd,Nat.reduceSub,Array.replicate_succ,Array.replicate_zero,List.push_toArray,List.append_toArray,List.nil_append,List.cons_append]
 gi_wp2
 gi_loopw [7] (fun i wr=>i=.int .i64 0∧J [] wr) (fun _ _=>0)
 case atStart=>exact ⟨rfl,h0⟩
 case round =>
  obtain ⟨rfl,hJs⟩:=hrel
  gi_wp2
  go_end0
  exact ⟨⟨_,rfl⟩,hJs⟩
/-- slices.Values(xs) hands back an iterator that gives xs, in order. -/
theorem vals_stops (F:Fence) (n:Nat) (h7:F.fn 102) (hro:F.round=none) (hn:1≤n) (Bs:Nat) (A:Option Addr) (cap:Nat) (xs:List Int) (w w0:World) (hBs:Bs < w.heap.size) (hn₀:w0.heap.size≤w.heap.size)
  (hc:w.cell? ⟨Bs,0,none⟩=some (.slice A xs.length cap)) (hr:Kd.C (Kd.int .i64) w0 A xs.length xs) (hb0:Below w0.heap.size w0 w) :
  SeqStopsK F n Try.prog 102 #[.pointer (some ⟨Bs,0,none⟩)] (fun x:Int=>#[Value.int .i64 x]) (Below w0.heap.size) (fun ys=>ys=xs) (fun pre=>pre <+: xs) xs.length w:=fun l J Jx W hW _ _ hY h0=>by
 have hc':=(hW.cell (p:=⟨Bs,0,none⟩) hBs).trans hc
 have hb1:Below w0.heap.size w0 W:=hb0.trans (hW.mono hn₀)
 rcases Nat.eq_zero_or_pos xs.length with hz | hz
 ·obtain rfl:xs=[]:=List.eq_nil_of_length_eq_zero hz
  exact (vals1_nil_in F n h7 hro l Bs A cap J W hc' h0).mono fun e W' ⟨he,hj⟩=>⟨he,.inl ⟨_,rfl,hj⟩⟩
 ·obtain ⟨ad,rfl,h1⟩:=Kd.at_int hr 0 (by decide) (by omega)
  have hcell:∀ j,j < xs.length→w0.cell? (ad.add j)=some (.int .i64 (rd xs j)):=fun j hj=>by
   obtain ⟨ad',e,h2⟩:=Kd.at_int hr (j:Int) (by omega) (by omega)
   cases e
   simpa using h2
  have hblk:ad.block < w0.heap.size:=by
   have:=World.block_lt_of_cell? w0 _ h1
   unfold Addr.add at this
   split at this <;> exact this
  refine (vals1_in F n h7 hro hn l Bs w0.heap.size cap ad xs hr.2.1 hblk J Jx hY W hc' (fun j hj=>?_) h0).mono ?_
  ·refine (hb1.cell (p:=ad.add j) ?_).trans (hcell j hj)
   have hbk:(ad.add j).block=ad.block:=by unfold Addr.add;split <;> rfl
   rw [hbk];exact hblk
  ·rintro e W' ⟨he,⟨ys,rfl,hj⟩ | ⟨pre,hp,hj⟩⟩
   ·exact ⟨he,.inl ⟨_,rfl,hj⟩⟩
   ·exact ⟨he,.inr ⟨_,hp,hj⟩⟩
set_option maxRecDepth 100000 in
set_option maxHeartbeats 2000000 in
/-- slices.AppendSeq(nil, slices.Values(xs)): a row of the call's own that holds xs. -/
theorem appendVals_in (F:Fence) (n:Nat) (h3:F.fn 105) (h7:F.fn 102) (hro:F.round=none) (hn:3≤n) (Bs:Nat) (A:Option Addr) (cap:Nat) (xs:List Int) (w:World) (hBs:Bs < w.heap.size)
  (hc:w.cell? ⟨Bs,0,none⟩=some (.slice A xs.length cap)) (hr:Kd.C (Kd.int .i64) w A xs.length xs) (hlen:xs.length≤17592186044416) :
  CallsIn F n Try.prog 105 #[.slice none 0 0,.func (.func 102) #[] #[.pointer (some ⟨Bs,0,none⟩)]] w fun e W'=>∃ v,e=.returned v∧W'.ownsRow w.heap.size 3 1 v xs.length (xs.map (Value.int .i64))∧Below w.heap.size w W':=by
 have h1:1≤n:=by omega
 have hinfo:(Try.prog.info? 3).map (fun i=>(i.zero,i.size,i.bytes))=some (some (.int .i64 0),1,8):=by kernel_rfl
 obtain ⟨i0,hi,hz0,hz1,hz2⟩:=info_parts hinfo
 refine callsIn_of_wp_marks Try.func105 rfl h3 ?_ hro
 simp only [Try.ntmps105,List.size_toArray,List.length_cons,List.length_nil,Nat.reduceAdd,Nat.reduceSub,Array.replicate_succ,Array.replicate_zero,List.push_toArray,List.append_toArray,List.nil_append,List.cons_append]
 gi_wp2
 have bO:=Boxed.new w 22 (.slice none 0 0)
 have hB0:Below w.heap.size w (w.alloc (.cells #[.slice none 0 0] 22)):=(Below.refl _ w).alloc (Nat.le_refl _) _
 have hc0:(w.alloc (.cells #[.slice none 0 0] 22)).cell? ⟨Bs,0,none⟩=some (.slice A xs.length cap):=(hB0.cell (p:=⟨Bs,0,none⟩) hBs).trans hc
 refine wpIn_rangeFunc_ownG hro h1 (gf:=102) (lb:=#[.pointer (some ⟨Bs,0,none⟩)]) rfl h7 (enters_of Try.func102 (by kernel_rfl) rfl)
  (vals_stops F (n - 1) h7 hro (by omega) Bs A cap xs _ w (by simp;omega) (by simp) hc0 hr hB0) belowK_t (belowK_b (by simp)) (Below.refl _ _) (fun _=>rfl)
  (fun pre W=>(∃ v,Boxed W w.heap.size 22 v∧W.ownsRow w.heap.size 3 1 v pre.length (pre.map (Value.int .i64))∧True)∧Below w.heap.size w W)
  (fun _ _ _=>False)
  (OwnFrom.and (Own.from (holdsRow_own w.heap.size w.heap.size 22 3 1 (fun pre:List Int=>pre.length) (fun pre=>pre.map (Value.int .i64)) (fun _ _=>True)) _) (ownFrom_below (Nat.le_refl _) (by simp)))
  (fun _ _ _ _ _ hs _ _=>hs)
  ⟨⟨_,bO,World.ownsRow_nil _ _ _ _,trivial⟩,hB0⟩
  (fun x=>{ tmps:=#[.slice none 0 0,.func (.func 102) #[] #[.pointer (some ⟨Bs,0,none⟩)],.pointer (some ⟨w.heap.size,0,none⟩),undef,.slice none 0 0,.int .i64 x,.func (.func 102) #[] #[.pointer (some ⟨Bs,0,none⟩)],.int .i64 x,undef,undef,undef,undef,undef],defers:=[] }) ?assign ?body ?done ?stop
 case assign =>
  intro l x W K hK
  gi_wp2
  exact hK
 case body =>
  rintro l pre x W ⟨⟨v,hv,hrow,_⟩,hB⟩ hlt
  have hc:=hv.cell
  gi_wp2_with (gi_at_builtin;refine wpListIn_append_own _ rfl _ _ 22 rfl w.heap.size 3 i0 (.int .i64 0) 1 8 Try.underlying22 hi hz0 hz1 hz2 rfl (by decide) _ _ _ rfl (hrow.alloc _) ⟨W.heap.size,0,none⟩ 1 1 [.int .i64 x] rfl rfl (cell_one_new _ _ _) (by simp [Value.oneCell']) (by simp only [maxLen];omega) (by omega) (by have:=hB.size;simp;omega) ?_;intro v' w1 hown' hgrow _;obtain ⟨g',cap',rfl⟩:=ownsRow_succ hown';obtain ⟨hv1,hv2,hr2,hk2,hb2⟩:=hv.appended (by decide) hrow hB.size (Nat.le_refl _) hown' hgrow;have hc1:=hv1.cell;have hf1:=hv1.frozen)
  exact ⟨hk2.from _,hb2,⟨_,hv2,by simpa using hr2,trivial⟩,hB.trans hb2⟩
 case done =>
  rintro D ys W hD rfl ⟨⟨v,hv,hrow,_⟩,hB⟩ hK
  have hc:=hv.cell
  gi_wp2
  refine ⟨by simp,.inl ⟨_,_,rfl,run_takeDeferred hK,?_⟩⟩
  exact ⟨_,results_tmp rfl _ _ _,v,rfl,ownsRow_putObj hrow _ hK rfl,hB.trans (belowK_b (w:=w) (Nat.le_refl _) W D _ _ (by simp at hD;omega) hK rfl rfl)⟩
 case stop =>
  rintro D c pre W _ _ h _
  exact h.elim
end
set_option maxHeartbeats 1000000 in
theorem values_any (A:Option Addr) (n c:Nat) (w:World):Calls Try.prog 94 #[.slice A n c] w fun e w'=>e=.returned (.func (.func 102) #[] #[.pointer (some ⟨w.heap.size,0,none⟩)])∧w'=w.alloc (.cells #[.slice A n c] 22):=by
 go_enter Try.func94,Try.ntmps94
 go_wp2
 go_ret
 exact ⟨rfl,rfl⟩
set_option maxHeartbeats 1000000 in
/-- slices.Sorted(slices.Values(xs)): a row of the call's own: xs, sorted. -/
theorem sortedVals (Bs:Nat) (A:Option Addr) (cap:Nat) (xs:List Int) (w:World) (hBs:Bs < w.heap.size) (hc:w.cell? ⟨Bs,0,none⟩=some (.slice A xs.length cap)) (hr:Kd.C (Kd.int .i64) w A xs.length xs) (hlen:xs.length≤17592186044416) :
  Calls Try.prog 93 #[.func (.func 102) #[] #[.pointer (some ⟨Bs,0,none⟩)]] w fun e w'=>∃ v,e=.returned v∧Kd.R (Kd.int .i64) 3 w' w.heap.size (fun _=>True) v (xs.mergeSort fun x y=>decide (x≤y))∧Below w.heap.size w w':=by
 have cA:=(callsIn_wide (n:=3)).1 (appendVals_in Fence.wide 3 trivial trivial rfl (by omega) Bs A cap xs w hBs hc hr hlen)
 clear hr hc
 have cC:Calls Try.prog 100 #[.func (.func 102) #[] #[.pointer (some ⟨Bs,0,none⟩)]] w fun e W'=>∃ v,e=.returned v∧W'.ownsRow w.heap.size 3 1 v xs.length (xs.map (Value.int .i64))∧Below w.heap.size w W':=by
  go_enter Try.func100,Try.ntmps100
  go_wp2_with (go_at_call 105;refine cA.mono ?_;rintro e w' ⟨v,rfl,hrow,hb⟩)
  go_ret
  exact ⟨v,rfl,hrow,hb⟩
 clear cA
 have R_of:∀ (W:World) (v:Value) (ys:List Int),W.ownsRow w.heap.size 3 1 v ys.length (ys.map (Value.int .i64))→Kd.R (Kd.int .i64) 3 W w.heap.size (fun _=>True) v ys:=fun W v ys h=>Kd.R_of_own (enc:=Value.int .i64) (h1:=fun _=>rfl) h (fun _ _=>trivial)
 have HR:=zz31 R_of
 clear R_of
 go_enter Try.func93,Try.ntmps93
 go_wp2_with (go_at_call 100;refine cC.mono ?_;rintro e W ⟨v,rfl,hrow,hb⟩)
 rcases hrow.2 with ⟨rfl,hz⟩ | ⟨gb,cp,cur,rfl,hbase,hgb,r1,r2,r3,r4⟩
 ·have hx:xs=[]:=List.eq_nil_of_length_eq_zero hz
  subst hx
  have HB:=zz31 hb
  clear hb hrow hz
  go_wp2_with (go_at_call 101;refine (sortNone none 0 _).mono ?_;rintro e w' ⟨rfl,rfl⟩)
  go_ret
  exact ⟨_,rfl,by simpa using Kd.R_nil _ _ _ _ _,HB.out⟩
 ·have hH:Go.Sort.Holds (Value.int .i64) W gb 0 xs.toArray:=holds_of_blockI hgb (by simpa using r4)
  have hgl:gb < W.heap.size:=(Array.getElem?_eq_some_iff.1 hgb).1
  have cS:=sortInts gb 0 cp xs W hH hgl (by omega)
  have HB:=zz31 hb
  have HG:=zz31 hgb
  have R1:=zz31 r1
  have R2:=zz31 r2
  have R3:=zz31 r3
  clear hrow hb hgb r1 r2 r3 r4 hH hgl
  go_wp2_with (go_at_call 101;refine cS.mono ?_;rintro e w' ⟨rfl,nn,os,rfl⟩)
  go_ret
  have hml:(xs.mergeSort fun x y=>decide (x≤y)).length=xs.length:=List.length_mergeSort _
  exact ⟨_,rfl,HR.out _ _ _ (by rw [hml];exact ownsRow_sortedI hml hbase HG.out R1.out R2.out R3.out),HB.out.grown (grownBy_sortedI _) HB.out.size (fun j hj=>by cases hj;exact hbase)⟩

-- NOT PRINTED: function 102 (slices_Values_int_int_1)

-- NOT PRINTED: function 94 (slices_Values_int_int)

/-! ### slices_Reverse_int_int: function 95 -/
def slices_Reverse_int_int.l0:Nat→List Int→Int→Int→Option (List Int)
 | 0,_,_,_=>none
 | k+1,x0,x2,x3=>if x2 < x3 then (if 0≤x3 then (if x3 < (x0.length:Int) then (if 0≤x2 then (if x2 < (x0.length:Int) then (slices_Reverse_int_int.l0 k ((x0.set (x2:Int).toNat (rd x0 x3)).set (x3:Int).toNat (rd x0 x2)) (wrap64 (x2+1)) (wrap64 (x3 - 1))) else (none)) else (none)) else (none)) else (none)) else (some x0)
def slices_Reverse_int_int.f (k:Nat) (l0:List Int):Option (List Int):=slices_Reverse_int_int.l0 k l0 0 (wrap64 ((l0.length:Int) - 1))
theorem slices_Reverse_int_int.mono_l:∀ k,(∀ y0 y1 y2,LeO (slices_Reverse_int_int.l0 k y0 y1 y2) (slices_Reverse_int_int.l0 (k+1) y0 y1 y2))
 | 0=>fun _ _ _ r h=>by simp [slices_Reverse_int_int.l0] at h
 | k+1=>by
  have ih0:=slices_Reverse_int_int.mono_l k
  ·intro y0 y1 y2
   unfold slices_Reverse_int_int.l0
   repeat' first
   | (with_reducible exact ih0 _ _ _)
   | (with_reducible exact LeO.refl _)
   | (with_reducible exact LeO.none _)
   | (with_reducible refine LeO.ite ?_ ?_)
   | (with_reducible refine LeO.bind ?_ (fun _=>?_))
   | exact ih0 _ _ _
   | exact LeO.none _
   | refine LeO.ite ?_ ?_
   | refine LeO.bind ?_ (fun _=>?_)
theorem slices_Reverse_int_int.mono:∀ a0 k,LeO (slices_Reverse_int_int.f k a0) (slices_Reverse_int_int.f (k+1) a0):=by
 intro a0 k
 have ih0:=slices_Reverse_int_int.mono_l k
 unfold slices_Reverse_int_int.f
 repeat' first
   | (with_reducible exact ih0 _ _ _)
   | (with_reducible exact LeO.refl _)
   | (with_reducible exact LeO.none _)
   | (with_reducible refine LeO.ite ?_ ?_)
   | (with_reducible refine LeO.bind ?_ (fun _=>?_))
   | exact ih0 _ _ _
   | exact LeO.none _
   | refine LeO.ite ?_ ?_
   | refine LeO.bind ?_ (fun _=>?_)
def slices_Reverse_int_int.T3:Bool × List (List Nat × List Nat):=(true,[([],[]),([],[]),([],[]),([],[]),([],[]),([],[]),([4,5],[4,5]),([6],[6]),([],[]),([],[]),([8,9],[8,9]),([10],[10]),([0,1,0,1,4,5,6,7,11],[0,1]),([12,7,0,1,4,5,6,7,11],[7,12]),([2,3,0,1,2,3,4,5,6,7,8,9,10,11,12,13],[2,3]),([14,11,13,0,1,2,3,4,5,6,7,8,9,10,11,12,13],[11,14])])
def slices_Reverse_int_int.B3:List Nat:=[0,0,0,0,0,0,48,112,0,0,768,1792,4083,8179,16383,32767]
theorem slices_Reverse_int_int.tab3:rtab .any (opsOf Try.f95 3)=slices_Reverse_int_int.T3:=by kernel_rfl
theorem slices_Reverse_int_int.bits3:waitsOk slices_Reverse_int_int.T3.2 slices_Reverse_int_int.B3=true:=by kernel_rfl
set_option maxHeartbeats 8000000 in
set_option maxRecDepth 100000 in
theorem slices_Reverse_int_int.calls (k:Nat) (P0_:Nat→Prop) (u9000_:Value) (l0:List Int) (r:List Int) (w0 w:World) (hB:Below w0.heap.size w0 w) (ho0:Kd.R (Kd.int .i64) 3 w w0.heap.size P0_ u9000_ l0) (h:slices_Reverse_int_int.f k l0=some r) :
  Calls Try.prog 95 #[u9000_] w fun e w'=>e=.returned (.tuple #[])∧Kd.R (Kd.int .i64) 3 w' w0.heap.size (fun k_=>(P0_ k_ ∨ w.heap.size≤k_)) u9000_ r∧Below w0.heap.size w0 w'∧Kept w w' (fun k_=>P0_ k_):=by
 have HO0:=zz31 (show Kd.R (Kd.int .i64) 3 w w0.heap.size (fun k_=>(P0_ k_ ∨ w.heap.size≤k_)) u9000_ l0 from Kd.R_mono ho0 (fun k_ hk=>(.inl hk)))
 have HK:=zz31 (Kept.refl w (fun k_=>P0_ k_))
 have HW0:=zz31 hB.size
 have HB:=zz31 hB
 clear hB
 have H:(slices_Reverse_int_int.l0 k l0 0 (wrap64 ((l0.length:Int) - 1)))=some r:=h
 clear h
 have H':=zz31 H
 clear H
 obtain ⟨Ao2,co2,eo2⟩:=Kd.R_slice HO0.out
 subst eo2
 go_enter Try.func95,Try.ntmps95
 go_wp2
 go_loopg [2,3] k (fun kq v2 v3 w'=>∃ (x0_1:List Int) (x2_1:Int) (x3_1:Int),v2=.int .i64 x2_1∧v3=.int .i64 x3_1∧Aside0 (slices_Reverse_int_int.l0 kq x0_1 x2_1 x3_1=some r)∧Aside0 (kq≤k)∧Aside0 (Kd.R (Kd.int .i64) 3 w' w0.heap.size (fun k_=>(P0_ k_ ∨ w.heap.size≤k_)) (.slice Ao2 l0.length co2) x0_1)∧Aside0 (Kept w w' (fun k_=>P0_ k_))∧Aside0 (Below w0.heap.size w0 w'))
 case atStart=>exact ⟨(l0),(0),(wrap64 ((l0.length:Int) - 1)),(by first | rfl | (simp;done) | (simp [*];done)),(by first | rfl | (simp;done) | (simp [*];done)),H',⟨Nat.le_refl _⟩,⟨by (with_reducible repeat (first | apply zz12 | apply zz13 | apply zz14));exact HO0.out⟩,⟨by repeat (first | (with_reducible first | exact HK.out | apply Kept.alloc | apply Kept.drewN | apply Kept.drew) | exact HK.out)⟩,⟨by repeat first | exact HB.out | apply zz2 | apply zz0 | apply zz1⟩⟩
 case round =>
  clear H'
  try clear p2
  obtain ⟨x0_1,x2_1,x3_1,rfl,rfl,HA,HK1,HO_0,HK,HB⟩:=hrel
  have hl0_1:=(Kd.R_reads' HO_0.out).1
  rw [hl0_1] at HO_0
  (try simp only [hl0_1])
  cases gk with
  | zero=>exact absurd HA.out (by simp [slices_Reverse_int_int.l0])
  | succ k1 =>
   have H:=HA.out
   clear HA
   simp only [slices_Reverse_int_int.l0] at H
   by_cases c3:x2_1 < x3_1
   ·rw [if_pos c3] at H
    have c3b0:decide (x2_1 < x3_1)=true:=decide_eq_true c3
    clear c3
    by_cases c4:0≤x3_1
    ·rw [if_pos c4] at H
     have c4b0:decide (0≤x3_1)=true:=decide_eq_true c4
     clear c4
     by_cases c5:x3_1 < (x0_1.length:Int)
     ·rw [if_pos c5] at H
      have c5b0:decide (x3_1 < (x0_1.length:Int))=true:=decide_eq_true c5
      (try simp only [hl0_1] at c5b0)
      clear c5
      by_cases c6:0≤x2_1
      ·rw [if_pos c6] at H
       have c6b0:decide (0≤x2_1)=true:=decide_eq_true c6
       clear c6
       by_cases c7:x2_1 < (x0_1.length:Int)
       ·rw [if_pos c7] at H
        have c7b0:decide (x2_1 < (x0_1.length:Int))=true:=decide_eq_true c7
        (try simp only [hl0_1] at c7b0)
        clear c7
        obtain ⟨y129,hy129⟩:∃ y_:List Int,y_=(x0_1.set (x2_1:Int).toNat (rd x0_1 x3_1)):=⟨_,rfl⟩
        replace H:(slices_Reverse_int_int.l0 k1 (y129.set (x3_1:Int).toNat (rd x0_1 x2_1)) (wrap64 (x2_1+1)) (wrap64 (x3_1 - 1)))=some r:=by first | (rw [hy129];with_reducible exact H) | (have H2_:=(Option.bind_some _ _).symm.trans H;rw [hy129];with_reducible exact H2_) | (have H2_:=(Option.bind_some _ _).symm.trans H;with_reducible exact H2_) | with_reducible exact H | (rw [hy129];exact H) | exact H
        have Ny129:=zz31 hy129
        clear hy129
        obtain ⟨y130,hy130⟩:∃ y_:List Int,y_=(y129.set (x3_1:Int).toNat (rd x0_1 x2_1)):=⟨_,rfl⟩
        replace H:(slices_Reverse_int_int.l0 k1 y130 (wrap64 (x2_1+1)) (wrap64 (x3_1 - 1)))=some r:=by first | (rw [hy130];with_reducible exact H) | (have H2_:=(Option.bind_some _ _).symm.trans H;rw [hy130];with_reducible exact H2_) | (have H2_:=(Option.bind_some _ _).symm.trans H;with_reducible exact H2_) | with_reducible exact H | (rw [hy130];exact H) | exact H
        have Ny130:=zz31 hy130
        clear hy130
        have H':=zz31 H
        clear H
        try go_wp2
        have n0_:=zz31 (zz14 HO_0.out)
        have n1_:=zz31 (Kept.drew HK.out)
        have n2_:=zz31 (zz1 HB.out)
        clear HO_0
        clear HK
        clear HB
        have HO_0:=n0_
        have HK:=n1_
        have HB:=n2_
        clear n0_ n1_ n2_
        have p127:0≤(x3_1:Int):=zz29 (by first | (with_reducible assumption) | assumption)
        have q127:x3_1 < (x0_1.length:Int):=zz29 (by first | (with_reducible assumption) | assumption)
        obtain ⟨ad127,e127,hx127_0⟩:=Kd.at_int (Kd.R_reads' HO_0.out).2.2 x3_1 p127 q127
        cases e127
        replace p127:=eq_true p127
        replace q127:=eq_true q127
        have p128:0≤(x2_1:Int):=zz29 (by first | (with_reducible assumption) | assumption)
        have q128:x2_1 < (x0_1.length:Int):=zz29 (by first | (with_reducible assumption) | assumption)
        obtain ⟨ad128,e128,hx128_0⟩:=Kd.at_int (Kd.R_reads' HO_0.out).2.2 x2_1 p128 q128
        obtain rfl:ad127=ad128:=(by injection e128)
        replace p128:=eq_true p128
        replace q128:=eq_true q128
        have p8:0≤(x2_1:Int):=zz29 (by first | (with_reducible assumption) | assumption)
        have q8:(x2_1:Int) < ((x0_1.length:Int):Int):=zz29 (by first | (with_reducible assumption) | assumption)
        obtain ⟨go8,co8,eo8,gb8,gl8,cl8,HG8⟩:=Kd.R_form HO_0.out (by omega)
        (first | cases eo8 | (injection eo8 with ea_ en_ ec_;(first | subst ea_ | (injection ea_ with ea_;subst ea_));subst ec_;clear en_))
        have GB8:=zz31 gb8
        have GG8:=zz31 HG8
        clear gb8 gl8 HG8
        have HMgo8:=zz31 (show (P0_ go8 ∨ w.heap.size≤go8) from (HO_0.out.1 _ rfl))
        (first | simp only [add_plain] at hx127_0 | skip)
        (first | simp only [add_plain] at hx128_0 | skip)
        obtain ⟨hx8_0,hf8_0⟩:=Kd.R_celln 0 HO_0.out (x2_1:Int) p8 q8
        replace p8:=eq_true p8
        replace q8:=eq_true q8
        have HP11:=Kd.R_putn HO_0.out (x2_1:Int) (rd x0_1 x3_1)
        rw [← Ny129.out] at HP11
        have HQ11:=zz31 HP11
        clear HP11
        have p9:0≤(x3_1:Int):=zz29 (by first | (with_reducible assumption) | assumption)
        have q9:(x3_1:Int) < ((x0_1.length:Int):Int):=zz29 (by first | (with_reducible assumption) | assumption)
        obtain ⟨hx9_0,hf9_0⟩:=Kd.R_celln 0 HQ11.out (x3_1:Int) p9 q9
        replace p9:=eq_true p9
        replace q9:=eq_true q9
        have HP12:=Kd.R_putn HQ11.out (x3_1:Int) (rd x0_1 x2_1)
        rw [← Ny130.out] at HP12
        have HQ12:=zz31 HP12
        clear HP12
        refine start_ (n:=16) (S:=fun w'=>w'.cell? ⟨go8,(x3_1).toNat,none⟩=some (.int .i64 (rd x0_1 x3_1))∧w'.cell? ⟨go8,(x2_1).toNat,none⟩=some (.int .i64 (rd x0_1 x2_1))) (ds:=[13,15]) #[F,F,F,F,F,F,F,F,F,F,F,F,F,F,F,F] (by kernel_rfl) rfl rfl ⟨hx127_0,hx128_0⟩ (fun hHeld=>?_);refine with_tabW slices_Reverse_int_int.tab3 slices_Reverse_int_int.bits3 (fun HT_ HW_=>?_)
        generalize wr.drew=w10 at HO_0 HK HB GG8 HQ11 HQ12 hf8_0 hf9_0 hx127_0 hx128_0 hx8_0 hx9_0 hHeld ⊢
        refine pure_ (i:=0) (N:=some 14) (v:=?_) (a':=?_) #[T,F,F,F,F,F,F,F,F,F,F,F,F,F,F,F] rfl rfl (any_of HT_.out (by kernel_rfl)) (fun _ _ _ h=>h) (Or.inl ⟨by rfl,?_⟩) ?_ ?_
        rotate_left
        ·intro w'
         go_simp
         with_reducible rfl
        rotate_left
        ·simp only [Act.put,zz21,zz22,zz23,i64_w,i32_w]
         rfl
        refine pure_ (i:=1) (N:=some 15) (v:=?_) (a':=?_) #[T,T,F,F,F,F,F,F,F,F,F,F,F,F,F,F] rfl rfl (any_of HT_.out (by kernel_rfl)) (fun _ _ _ h=>h) (Or.inl ⟨by rfl,?_⟩) ?_ ?_
        rotate_left
        ·intro w'
         go_simp
         with_reducible rfl
        rotate_left
        ·simp only [Act.put,zz21,zz22,zz23,i64_w,i32_w]
         rfl
        refine pure_ (i:=2) (N:=some 16) (v:=?_) (a':=?_) #[T,T,T,F,F,F,F,F,F,F,F,F,F,F,F,F] rfl rfl (any_of HT_.out (by kernel_rfl)) (fun _ _ _ h=>h) (Or.inl ⟨by rfl,?_⟩) ?_ ?_
        rotate_left
        ·intro w'
         go_simp
         with_reducible rfl
        rotate_left
        ·simp only [Act.put,zz21,zz22,zz23,i64_w,i32_w]
         rfl
        refine pure_ (i:=3) (N:=some 17) (v:=?_) (a':=?_) #[T,T,T,T,F,F,F,F,F,F,F,F,F,F,F,F] rfl rfl (any_of HT_.out (by kernel_rfl)) (fun _ _ _ h=>h) (Or.inl ⟨by rfl,?_⟩) ?_ ?_
        rotate_left
        ·intro w'
         go_simp
         with_reducible rfl
        rotate_left
        ·simp only [Act.put,zz21,zz22,zz23,i64_w,i32_w]
         rfl
        refine pure_ (i:=4) (N:=some 18) (v:=?_) (a':=?_) #[T,T,T,T,T,F,F,F,F,F,F,F,F,F,F,F] rfl rfl (any_of HT_.out (by kernel_rfl)) (fun _ _ _ h=>h) (Or.inl ⟨by rfl,?_⟩) ?_ ?_
        rotate_left
        ·intro w'
         go_simp
         with_reducible rfl
        rotate_left
        ·simp only [Act.put,zz21,zz22,zz23,i64_w,i32_w]
         rfl
        refine pure_ (i:=5) (N:=some 19) (v:=?_) (a':=?_) #[T,T,T,T,T,T,F,F,F,F,F,F,F,F,F,F] rfl rfl (any_of HT_.out (by kernel_rfl)) (fun _ _ _ h=>h) (Or.inl ⟨by rfl,?_⟩) ?_ ?_
        rotate_left
        ·intro w'
         go_simp
         with_reducible rfl
        rotate_left
        ·simp only [Act.put,zz21,zz22,zz23,i64_w,i32_w]
         rfl
        refine pure_ (i:=6) (N:=some 20) (v:=?_) (a':=?_) #[T,T,T,T,T,T,T,F,F,F,F,F,F,F,F,F] rfl rfl (any_of HT_.out (by kernel_rfl)) (fun _ _ _ h=>h) (Or.inl ⟨by rfl,?_⟩) ?_ ?_
        rotate_left
        ·intro w'
         go_simp
         with_reducible rfl
        rotate_left
        ·simp only [Act.put,zz21,zz22,zz23,i64_w,i32_w]
         rfl
        refine pure_ (i:=8) (N:=some 22) (v:=?_) (a':=?_) #[T,T,T,T,T,T,T,F,T,F,F,F,F,F,F,F] rfl rfl (any_of HT_.out (by kernel_rfl)) (fun _ _ _ h=>h) (Or.inl ⟨by rfl,?_⟩) ?_ ?_
        rotate_left
        ·intro w'
         go_simp
         with_reducible rfl
        rotate_left
        ·simp only [Act.put,zz21,zz22,zz23,i64_w,i32_w]
         rfl
        refine pure_ (i:=9) (N:=some 23) (v:=?_) (a':=?_) #[T,T,T,T,T,T,T,F,T,T,F,F,F,F,F,F] rfl rfl (any_of HT_.out (by kernel_rfl)) (fun _ _ _ h=>h) (Or.inl ⟨by rfl,?_⟩) ?_ ?_
        rotate_left
        ·intro w'
         go_simp
         with_reducible rfl
        rotate_left
        ·simp only [Act.put,zz21,zz22,zz23,i64_w,i32_w]
         rfl
        refine pure_ (i:=10) (N:=some 24) (v:=?_) (a':=?_) #[T,T,T,T,T,T,T,F,T,T,T,F,F,F,F,F] rfl rfl (any_of HT_.out (by kernel_rfl)) (fun _ _ _ h=>h) (Or.inl ⟨by rfl,?_⟩) ?_ ?_
        rotate_left
        ·intro w'
         go_simp
         with_reducible rfl
        rotate_left
        ·simp only [Act.put,zz21,zz22,zz23,i64_w,i32_w]
         rfl
        refine take_ (i:=7) (N:=some 21) (v:=?_) (a':=?_) #[T,T,T,T,T,T,T,T,T,T,T,F,F,F,F,F] rfl rfl (take_ofW HT_.out HW_.out (by kernel_rfl)) (fun _ _ _ h=>h) (Or.inl ⟨by rfl,?_⟩) hHeld ?_ ?_
        rotate_left
        ·rintro w' ⟨s0,s1⟩
         go_simp
         with_reducible rfl
        rotate_left
        ·simp only [Act.put,zz21,zz22,zz23,i64_w,i32_w]
         rfl
        refine take_ (i:=11) (N:=some 25) (v:=?_) (a':=?_) #[T,T,T,T,T,T,T,T,T,T,T,T,F,F,F,F] rfl rfl (take_ofW HT_.out HW_.out (by kernel_rfl)) (fun _ _ _ h=>h) (Or.inl ⟨by rfl,?_⟩) hHeld ?_ ?_
        rotate_left
        ·rintro w' ⟨s0,s1⟩
         go_simp
         with_reducible rfl
        rotate_left
        ·simp only [Act.put,zz21,zz22,zz23,i64_w,i32_w]
         rfl
        refine pure_ (i:=12) (N:=some 26) (v:=?_) (a':=?_) #[T,T,T,T,T,T,T,T,T,T,T,T,T,F,F,F] rfl rfl (any_of HT_.out (by kernel_rfl)) (fun _ _ _ h=>h) (Or.inl ⟨by rfl,?_⟩) ?_ ?_
        rotate_left
        ·intro w'
         go_simp
         with_reducible rfl
        rotate_left
        ·simp only [Act.put,zz21,zz22,zz23,i64_w,i32_w]
         rfl
        refine last_ (i:=13) (N:=none) #[T,T,T,T,T,T,T,T,T,T,T,T,T,T,F,F] rfl rfl (one_of HT_.out (by kernel_rfl)) (by decide) (fun K hK=>?_)
        refine skip_ (w1:=?_) (by rfl) rfl ?_ ?_
        rotate_left
        ·go_simp
         rfl
        refine hK.out _ _ ?_
        clear hK K
        refine pure_ (i:=14) (N:=some 27) (v:=?_) (a':=?_) #[T,T,T,T,T,T,T,T,T,T,T,T,T,T,T,F] rfl rfl (any_of HT_.out (by kernel_rfl)) (fun _ _ _ h=>h) (Or.inl ⟨by rfl,?_⟩) ?_ ?_
        rotate_left
        ·intro w'
         go_simp
         with_reducible rfl
        rotate_left
        ·simp only [Act.put,zz21,zz22,zz23,i64_w,i32_w]
         rfl
        refine last_ (i:=15) (N:=none) #[T,T,T,T,T,T,T,T,T,T,T,T,T,T,T,T] rfl rfl (one_of HT_.out (by kernel_rfl)) (by decide) (fun K hK=>?_)
        refine skip_ (w1:=?_) (by rfl) rfl ?_ ?_
        rotate_left
        ·go_simp
         rfl
        refine hK.out _ _ ?_
        clear hK K
        refine done_ (done_of HT_.out (by kernel_rfl)) ?_
        try go_wp2
        (try simp only [← hl0_1])
        go_roundg k1
        case measure=>have:=HK1.out;omega
        case rel=>exact ⟨(y130),(wrap64 (x2_1+1)),(wrap64 (x3_1 - 1)),(by first | rfl | (simp;done) | (simp [*];done)),(by first | rfl | (simp;done) | (simp [*];done)),H',⟨by have:=HK1.out;omega⟩,⟨by (try simp only [hl0_1]);(with_reducible repeat (first | apply zz12 | apply zz13 | apply zz14));exact HQ12.out⟩,⟨by repeat (first | (with_reducible first | exact HK.out | apply Kept.alloc | apply Kept.drewN | apply Kept.drew | refine Kept.setCell ?_ HMgo8.out _ | refine Kept.setCell ?_ HMgo8.out _) | exact HK.out)⟩,⟨by repeat first | exact HB.out | apply zz2 | apply zz0 | apply zz1 | refine zz3 ?_ GB8.out | refine zz3 ?_ GB8.out⟩⟩
       ·rw [if_neg c7] at H
        exact absurd H (by simp)
      ·rw [if_neg c6] at H
       exact absurd H (by simp)
     ·rw [if_neg c5] at H
      exact absurd H (by simp)
    ·rw [if_neg c4] at H
     exact absurd H (by simp)
   ·rw [if_neg c3] at H
    have c3b0:decide (x2_1 < x3_1)=false:=decide_eq_false c3
    clear c3
    obtain rfl:=Option.some.inj H
    go_wp2
    first | go_end0 | ((try simp only [Exit.inBlock,Exit.then]);refine bodyPost_ret (results_none rfl _ _ _) rfl ?_)
    exact ⟨by first | rfl | (simp [errW_none,errW_some] <;> rfl) | (simp [*,errW_none,errW_some] <;> rfl),(by first | exact (by (with_reducible repeat (first | apply zz12 | apply zz13 | apply zz14));exact HO_0.out) | (simp only [hl0_1];exact (by (with_reducible repeat (first | apply zz12 | apply zz13 | apply zz14));exact HO_0.out))),by repeat first | exact HB.out | apply zz2 | apply zz0 | apply zz1,by repeat (first | (with_reducible first | exact HK.out | apply Kept.alloc | apply Kept.drewN | apply Kept.drew) | exact HK.out)⟩

/-! ### impl_falling: function 71 (a contract of our own) -/
def impl_falling.f (k:Nat) (l0:List Int):Option (List Int):=if l0.length≤17592186044416 then slices_Reverse_int_int.f k (l0.mergeSort fun x y=>decide (x≤y)) else none
theorem impl_falling.mono:∀ a0 k,LeO (impl_falling.f k a0) (impl_falling.f (k+1) a0):=by
 intro a0 k
 unfold impl_falling.f
 exact LeO.ite (slices_Reverse_int_int.mono _ _) (LeO.none _)
set_option maxHeartbeats 1000000 in
theorem impl_falling.calls (k:Nat) (A0:Option Addr) (c0:Nat) (l0:List Int) (r:List Int) (w:World) (hr0:Kd.C (Kd.int .i64) w A0 l0.length l0) (hc0:l0.length≤c0) (h:impl_falling.f k l0=some r) :
  Calls Try.prog 71 #[.slice A0 l0.length c0] w fun e w'=>∃ v0_:Value,e=.returned (v0_)∧Kd.R (Kd.int .i64) 3 w' w.heap.size (fun _=>True) v0_ r∧Below w.heap.size w w':=by
 unfold impl_falling.f at h
 by_cases hl:l0.length≤17592186044416
 case neg=>rw [if_neg hl] at h;exact absurd h (by simp)
 rw [if_pos hl] at h
 have H:=zz31 h
 have cS:Calls Try.prog 93 #[.func (.func 102) #[] #[.pointer (some ⟨w.heap.size,0,none⟩)]] (w.alloc (.cells #[.slice A0 l0.length c0] 22)) fun e w'=>∃ v,e=.returned v∧Aside0 (Kd.R (Kd.int .i64) 3 w' w.heap.size (fun _=>True) v (l0.mergeSort fun x y=>decide (x≤y)))∧Aside0 (Below w.heap.size w w') :=
  (sortedVals w.heap.size A0 c0 l0 (w.alloc (.cells #[.slice A0 l0.length c0] 22)) (by simp) (by simp) (zz18 hr0 _) hl).mono fun e w' ⟨v,he,hR,hb⟩=>⟨v,he,⟨Kd.R_lower hR (by simp)⟩,⟨((Below.refl w.heap.size w).alloc (Nat.le_refl _) _).trans (hb.mono (by simp))⟩⟩
 clear h hr0 hl hc0
 go_enter Try.func71,Try.ntmps71
 go_wp2_with (first | (go_at_call 94;refine (values_any _ _ _ _).mono ?_;rintro e w' ⟨rfl,hw⟩;obtain rfl:=hw.symm;clear hw) | (go_at_call 93;refine cS.mono ?_;rintro e w2 ⟨v,rfl,HR,HB⟩) | (go_at_call 95;refine (slices_Reverse_int_int.calls k (fun _=>True) v _ r w w2 HB.out HR.out H.out).mono ?_;rintro e w3 ⟨rfl,hR,hb,hk⟩;clear hk;have HB2:=zz31 hb;have HR2:=zz31 hR;clear hb hR;clear HB HR))
 go_ret
 exact ⟨_,rfl,Kd.R_mono HR2.out (fun _ _=>trivial),HB2.out⟩

/-! ### impl_failsAt: function 73 -/
mutual
def impl_failsAt.l0:Nat→List Int→Int→Option (Int)
 | 0,_,_=>none
 | k+1,x3,x4=>if x4≤(x3.length:Int) then (if 0≤x4 then ((some (x3.drop (x4:Int).toNat:List Int)).bind fun y134=>(impl_failsAt.l1 k x3 x4 (wrap64 (x4 * (wrap64 (x4 - 1)))) y134 (y134.length:Int) 0)) else (none)) else (some 0)
def impl_failsAt.l1:Nat→List Int→Int→Int→List Int→Int→Int→Option (Int)
 | 0,_,_,_,_,_,_=>none
 | k+1,x3,x4,x5,x22,x23,x24=>if x24 < x23 then (if 0≤x24 then (if x24 < (x22.length:Int) then (impl_failsAt.l1 k x3 x4 (wrap64 (x5+(mn x4 (rd x22 x24)))) x22 x23 (wrap64 (x24+1))) else (none)) else (none)) else (if 0≤x4 then (if x4≤(x3.length:Int) then ((impl_sum.f k (x3.take (x4:Int).toNat)).bind fun t143=>(if t143 > x5 then (some x4) else (impl_failsAt.l0 k x3 (wrap64 (x4+1))))) else (none)) else (none))
end
def impl_failsAt.f (k:Nat) (l0:List Int):Option (Int):=(impl_falling.f k l0).bind fun t131=>(impl_failsAt.l0 k t131 1)
theorem impl_failsAt.mono_l:∀ k,(∀ y0 y1,LeO (impl_failsAt.l0 k y0 y1) (impl_failsAt.l0 (k+1) y0 y1))∧(∀ y0 y1 y2 y3 y4 y5,LeO (impl_failsAt.l1 k y0 y1 y2 y3 y4 y5) (impl_failsAt.l1 (k+1) y0 y1 y2 y3 y4 y5))
 | 0=>⟨fun _ _ r h=>by simp [impl_failsAt.l0] at h,fun _ _ _ _ _ _ r h=>by simp [impl_failsAt.l1] at h⟩
 | k+1=>by
  obtain ⟨ih0,ih1⟩:=impl_failsAt.mono_l k
  refine ⟨?_,?_⟩
  ·intro y0 y1
   unfold impl_failsAt.l0
   repeat' first
   | (with_reducible exact ih0 _ _)
   | (with_reducible exact ih1 _ _ _ _ _ _)
   | (with_reducible exact impl_falling.mono _ _)
   | (with_reducible exact impl_sum.mono _ _)
   | (with_reducible exact LeO.refl _)
   | (with_reducible exact LeO.none _)
   | (with_reducible refine LeO.ite ?_ ?_)
   | (with_reducible refine LeO.bind ?_ (fun _=>?_))
   | exact ih0 _ _
   | exact ih1 _ _ _ _ _ _
   | exact impl_falling.mono _ _
   | exact impl_sum.mono _ _
   | exact LeO.none _
   | refine LeO.ite ?_ ?_
   | refine LeO.bind ?_ (fun _=>?_)
  ·intro y0 y1 y2 y3 y4 y5
   unfold impl_failsAt.l1
   repeat' first
   | (with_reducible exact ih0 _ _)
   | (with_reducible exact ih1 _ _ _ _ _ _)
   | (with_reducible exact impl_falling.mono _ _)
   | (with_reducible exact impl_sum.mono _ _)
   | (with_reducible exact LeO.refl _)
   | (with_reducible exact LeO.none _)
   | (with_reducible refine LeO.ite ?_ ?_)
   | (with_reducible refine LeO.bind ?_ (fun _=>?_))
   | exact ih0 _ _
   | exact ih1 _ _ _ _ _ _
   | exact impl_falling.mono _ _
   | exact impl_sum.mono _ _
   | exact LeO.none _
   | refine LeO.ite ?_ ?_
   | refine LeO.bind ?_ (fun _=>?_)
theorem impl_failsAt.mono:∀ a0 k,LeO (impl_failsAt.f k a0) (impl_failsAt.f (k+1) a0):=by
 intro a0 k
 obtain ⟨ih0,ih1⟩:=impl_failsAt.mono_l k
 unfold impl_failsAt.f
 repeat' first
   | (with_reducible exact ih0 _ _)
   | (with_reducible exact ih1 _ _ _ _ _ _)
   | (with_reducible exact impl_falling.mono _ _)
   | (with_reducible exact impl_sum.mono _ _)
   | (with_reducible exact LeO.refl _)
   | (with_reducible exact LeO.none _)
   | (with_reducible refine LeO.ite ?_ ?_)
   | (with_reducible refine LeO.bind ?_ (fun _=>?_))
   | exact ih0 _ _
   | exact ih1 _ _ _ _ _ _
   | exact impl_falling.mono _ _
   | exact impl_sum.mono _ _
   | exact LeO.none _
   | refine LeO.ite ?_ ?_
   | refine LeO.bind ?_ (fun _=>?_)
set_option maxHeartbeats 8000000 in
set_option maxRecDepth 100000 in
theorem impl_failsAt.calls (k:Nat) (A0:Option Addr) (c0:Nat) (l0:List Int) (r:Int) (w:World) (hr0:Kd.C (Kd.int .i64) w A0 l0.length l0) (hc0:l0.length≤c0) (h:impl_failsAt.f k l0=some r) :
  Calls Try.prog 73 #[.slice A0 l0.length c0] w fun e w'=>e=.returned (.int .i64 r)∧Below w.heap.size w w':=by
 have HR0:=zz31 hr0
 have HC0:=zz31 hc0
 clear hr0 hc0
 have HB:=zz31 (Below.refl w.heap.size w)
 have H:((impl_falling.f k l0).bind fun t131=>(impl_failsAt.l0 k t131 1))=some r:=h
 clear h
 replace H:=zz30.mp H
 obtain ⟨t131,A20,H⟩:=H
 replace H:(impl_failsAt.l0 k t131 1)=some r:=H
 have A2:=zz31 A20
 clear A20
 have H':=zz31 H
 clear H
 go_enter Try.func73,Try.ntmps73
 go_wp2_with (first | ((with_reducible refine gate_callee (f:=71) rfl ?_);refine goesL_ (some 9) rfl rfl Try.func71 (by kernel_rfl) rfl #[.slice A0 l0.length c0] rfl (by (try simp only [zz26,zz27,zz28]);first | done | rfl | (simp only [zz24,zz25];rfl)) ?_;(with_reducible refine (impl_falling.calls k _ _ l0 t131 _ ?side1 ?side2 A2.out).mono ?_);(case side1=>repeat (first | exact HR0.out | (with_reducible refine zz18 ?_ _) | (with_reducible refine zz19 ?_ _) | (with_reducible refine zz20 ?_)));(case side2=>exact HC0.out);rintro e w3 ⟨v132,rfl,ho0,hb⟩;refine ⟨_,rfl,?_⟩;have n0_:=zz31 (Kd.R_lower ho0 (zz5 (by repeat first | exact HB.out | apply zz2 | apply zz0 | apply zz1)));have n1_:=zz31 (zz4 (by repeat first | exact HB.out | apply zz2 | apply zz0 | apply zz1) hb);clear HB;have HO133:=n0_;have HB:=n1_;clear n0_ n1_;(try clear hb);(try clear hb2);(try clear hk);(try clear hi);(try clear ho0)))
 go_loopg [4] k (fun kq v4 w'=>∃ (x4_1:Int),v4=.int .i64 x4_1∧Aside0 (impl_failsAt.l0 kq t131 x4_1=some r)∧Aside0 (kq≤k)∧Aside0 (Kd.R (Kd.int .i64) 3 w' w.heap.size (fun _=>True) v132 t131)∧Aside0 (Below w.heap.size w w'))
 case atStart=>exact ⟨(1),(by first | rfl | (simp;done) | (simp [*];done)),H',⟨Nat.le_refl _⟩,⟨by (with_reducible repeat (first | apply zz12 | apply zz13 | apply zz14));exact HO133.out⟩,⟨by repeat first | exact HB.out | apply zz2 | apply zz0 | apply zz1⟩⟩
 case round =>
  clear H'
  try clear p2
  obtain ⟨x4_1,rfl,HA,HK1,HO_3,HB⟩:=hrel
  cases gk with
  | zero=>exact absurd HA.out (by simp [impl_failsAt.l0])
  | succ k1 =>
   have H:=HA.out
   clear HA
   simp only [impl_failsAt.l0] at H
   by_cases c4:x4_1≤(t131.length:Int)
   ·rw [if_pos c4] at H
    have c4b0:decide (x4_1≤(t131.length:Int))=true:=decide_eq_true c4
    clear c4
    by_cases c5:0≤x4_1
    ·rw [if_pos c5] at H
     have c5b0:=eq_true c5
     have c5b1:decide (0≤x4_1)=true:=decide_eq_true c5
     clear c5
     have c6b0:=eq_true (zz29 (by first | (with_reducible assumption) | assumption):x4_1≤(t131.length:Int))
     obtain ⟨y134,hy134⟩:∃ y_:List Int,y_=(t131.drop (x4_1:Int).toNat):=⟨_,rfl⟩
     replace H:(impl_failsAt.l1 k1 t131 x4_1 (wrap64 (x4_1 * (wrap64 (x4_1 - 1)))) y134 (y134.length:Int) 0)=some r:=by first | (rw [hy134];with_reducible exact H) | (have H2_:=(Option.bind_some _ _).symm.trans H;rw [hy134];with_reducible exact H2_) | (have H2_:=(Option.bind_some _ _).symm.trans H;with_reducible exact H2_) | with_reducible exact H | (rw [hy134];exact H) | exact H
     have Ny134:=zz31 hy134
     clear hy134
     have H':=zz31 H
     clear H
     obtain ⟨Ao7,co7,eo7⟩:=Kd.R_slice HO_3.out
     subst eo7
     have q8:(x4_1:Int)≤((t131.length:Int):Int):=zz29 (by first | (with_reducible assumption) | assumption)
     obtain ⟨i08,hi08,_,hsz8,_⟩:=info_parts info3
     have hroom8:t131.length≤co7:=(Kd.R_reads' HO_3.out).2.1
     have hC8:Kd.C (Kd.int .i64) _ Ao7 t131.length t131:=(Kd.R_reads' HO_3.out).2.2
     have q08:(0:Int)≤(x4_1:Int):=zz29 (by first | (with_reducible assumption) | assumption)
     have hcut8:=cut_from (P:=Try.prog) 22 3 .i64 Try.underlying22 hi08 1 hsz8 Ao7 t131.length co7 x4_1 q08 q8
     have hr8:=Kd.C_drop (m:=(x4_1:Int).toNat) (c:=co7) hC8 (by omega) hroom8
     obtain ⟨A8,hA8⟩:∃ A1,A1=(if co7=(x4_1:Int).toNat then Ao7 else (Ao7:Option Addr).map (·.add ((x4_1:Int).toNat * 1))):=⟨_,rfl⟩
     obtain ⟨c8,hc8⟩:∃ c1,c1=co7 - (x4_1:Int).toNat:=⟨_,rfl⟩
     have hy8:y134.length=t131.length - (x4_1:Int).toNat:=(by rw [Ny134.out,zz24] <;> omega)
     rw [show (t131).drop (x4_1:Int).toNat=y134 from Ny134.out.symm] at hr8
     replace hr8:Kd.C (Kd.int .i64) _ A8 y134.length y134:=(by rw [hA8];exact hr8)
     rw [← hy8,← hA8,← hc8] at hcut8
     have HR137:=zz31 hr8
     have HC137:=zz31 (show y134.length≤c8 from by rw [hy8,hc8];exact Nat.sub_le_sub_right hroom8 _)
     clear hr8 hC8 hroom8 hi08 hsz8 hc8
     have KY8:=zz31 hy8
     have KA8:=zz31 hA8
     clear hy8 hA8
     have KL8:=zz31 (show (x4_1:Int).toNat≤t131.length from by omega)
     replace q8:=eq_true q8
     go_wp2
     go_loopg [5,24] k1 (fun kq v5 v24 w'=>∃ (x5_2:Int) (x24_2:Int),v5=.int .i64 x5_2∧v24=.int .i64 x24_2∧Aside0 (impl_failsAt.l1 kq t131 x4_1 x5_2 y134 (y134.length:Int) x24_2=some r)∧Aside0 (kq≤k1)∧Aside0 (Kd.R (Kd.int .i64) 3 w' w.heap.size (fun _=>True) (.slice Ao7 t131.length co7) t131)∧Aside0 (Kd.C (Kd.int .i64) w' A8 y134.length y134)∧Aside0 (Below w.heap.size w w'))
     case atStart=>exact ⟨(wrap64 (x4_1 * (wrap64 (x4_1 - 1)))),(0),(by first | rfl | (simp;done) | (simp [*];done)),(by first | rfl | (simp;done) | (simp [*];done)),H',⟨Nat.le_refl _⟩,⟨by (with_reducible repeat (first | apply zz12 | apply zz13 | apply zz14));exact HO_3.out⟩,⟨by repeat (first | (with_reducible exact HR137.out) | (with_reducible refine zz18 ?_ _) | (with_reducible refine zz19 ?_ _) | (with_reducible refine zz20 ?_) | exact HR137.out)⟩,⟨by repeat first | exact HB.out | apply zz2 | apply zz0 | apply zz1⟩⟩
     case round =>
      clear H'
      try clear c1
      try clear p2
      try clear c4
      try clear c4b0
      try clear c5
      try clear c5b0
      try clear c5b1
      try clear c6
      try clear c6b0
      try clear p6
      try clear c7
      try clear c8
      try clear q8
      try clear p2
      try clear q08
      try clear q8
      obtain ⟨x5_2,x24_2,rfl,rfl,HA,HK2,HO_3,HR137,HB⟩:=hrel
      cases gk with
      | zero=>exact absurd HA.out (by simp [impl_failsAt.l1])
      | succ k2 =>
       have H:=HA.out
       clear HA
       simp only [impl_failsAt.l1] at H
       by_cases c9:x24_2 < (y134.length:Int)
       ·rw [if_pos c9] at H
        have c9b0:decide (x24_2 < (y134.length:Int))=true:=decide_eq_true c9
        clear c9
        by_cases c10:0≤x24_2
        ·rw [if_pos c10] at H
         have c10b0:decide (0≤x24_2)=true:=decide_eq_true c10
         clear c10
         by_cases c11:x24_2 < (y134.length:Int)
         ·rw [if_pos c11] at H
          have c11b0:decide (x24_2 < (y134.length:Int))=true:=decide_eq_true c11
          clear c11
          obtain ⟨ji12,hji12⟩:∃ j_:Int,(mn x4_1 (rd y134 x24_2))=j_:=⟨_,rfl⟩
          replace H:(impl_failsAt.l1 k2 t131 x4_1 (wrap64 (x5_2+(ji12))) y134 (y134.length:Int) (wrap64 (x24_2+1)))=some r:=by first | (rw [hji12] at H;exact H) | (simp only [hji12] at H ⊢;exact H)
          have hji12_:(if (rd y134 x24_2) < x4_1 then (rd y134 x24_2) else x4_1)=ji12:=hji12
          have H':=zz31 H
          clear H
          have p138:0≤(x24_2:Int):=zz29 (by first | (with_reducible assumption) | assumption)
          have q138:x24_2 < (y134.length:Int):=zz29 (by first | (with_reducible assumption) | assumption)
          obtain ⟨ad138,e138,hx138_0⟩:=Kd.at_int HR137.out x24_2 p138 q138
          cases e138
          try replace hx138_0:=(HB.out.cell (World.block_lt_of_cell? w _ hx138_0)).trans hx138_0
          replace p138:=eq_true p138
          replace q138:=eq_true q138
          go_wp2
          go_roundg k2
          case measure=>have:=HK1.out;have:=HK2.out;omega
          case rel=>exact ⟨(wrap64 (x5_2+(ji12))),(wrap64 (x24_2+1)),(by first | rfl | (simp;done) | (simp only [← hji12] <;> (first | rfl | simp)) | (simp [*];done)),(by first | rfl | (simp;done) | (simp [*];done)),H',⟨by have:=HK1.out;have:=HK2.out;omega⟩,⟨by (with_reducible repeat (first | apply zz12 | apply zz13 | apply zz14));exact HO_3.out⟩,⟨by repeat (first | (with_reducible exact HR137.out) | (with_reducible refine zz18 ?_ _) | (with_reducible refine zz19 ?_ _) | (with_reducible refine zz20 ?_) | exact HR137.out)⟩,⟨by repeat first | exact HB.out | apply zz2 | apply zz0 | apply zz1⟩⟩
         ·rw [if_neg c11] at H
          exact absurd H (by simp)
        ·rw [if_neg c10] at H
         exact absurd H (by simp)
       ·rw [if_neg c9] at H
        have c9b0:decide (x24_2 < (y134.length:Int))=false:=decide_eq_false c9
        clear c9
        by_cases c13:0≤x4_1
        ·rw [if_pos c13] at H
         have c13b0:=eq_true c13
         have c13b1:decide (0≤x4_1)=true:=decide_eq_true c13
         clear c13
         by_cases c14:x4_1≤(t131.length:Int)
         ·rw [if_pos c14] at H
          have c14b0:=eq_true c14
          have c14b1:decide (x4_1≤(t131.length:Int))=true:=decide_eq_true c14
          clear c14
          obtain ⟨y139,hy139⟩:∃ y_:List Int,y_=(t131.take (x4_1:Int).toNat):=⟨_,rfl⟩
          replace H:((impl_sum.f k2 y139).bind fun t143=>(if t143 > x5_2 then (some x4_1) else (impl_failsAt.l0 k2 t131 (wrap64 (x4_1+1)))))=some r:=by first | (rw [hy139];with_reducible exact H) | (have H2_:=(Option.bind_some _ _).symm.trans H;rw [hy139];with_reducible exact H2_) | (have H2_:=(Option.bind_some _ _).symm.trans H;with_reducible exact H2_) | with_reducible exact H | (rw [hy139];exact H) | exact H
          have Ny139:=zz31 hy139
          clear hy139
          replace H:=zz30.mp H
          obtain ⟨t143,A150,H⟩:=H
          replace H:(if t143 > x5_2 then (some x4_1) else (impl_failsAt.l0 k2 t131 (wrap64 (x4_1+1))))=some r:=H
          have A15:=zz31 A150
          clear A150
          by_cases c16:t143 > x5_2
          ·rw [if_pos c16] at H
           have c16b0:decide (x5_2 < t143)=true:=decide_eq_true c16
           clear c16
           obtain rfl:=Option.some.inj H
           have q17:(x4_1:Int)≤((t131.length:Int):Int):=zz29 (by first | (with_reducible assumption) | assumption)
           obtain ⟨i017,hi017,_,hsz17,_⟩:=info_parts info3
           have hroom17:t131.length≤co7:=(Kd.R_reads' HO_3.out).2.1
           have hC17:Kd.C (Kd.int .i64) _ Ao7 t131.length t131:=(Kd.R_reads' HO_3.out).2.2
           have hcut17:=cut_to (P:=Try.prog) 22 3 .i64 Try.underlying22 hi017 Ao7 t131.length co7 x4_1 (zz29 (by first | (with_reducible assumption) | assumption)) q17 hroom17
           have hr17:=Kd.C_take (m:=(x4_1:Int).toNat) hC17 (by omega)
           have hy17:y139.length=(x4_1:Int).toNat:=(by rw [Ny139.out,zz25];omega)
           rw [← Ny139.out] at hr17
           rw [← hy17] at hcut17
           have HR142:=zz31 hr17
           have HC142:=zz31 (show y139.length≤co7 from by omega)
           clear hr17 hC17 hroom17 hi017 hsz17
           have KY17:=zz31 hy17
           clear hy17
           have KL17:=zz31 (show (x4_1:Int).toNat≤t131.length from by omega)
           replace q17:=eq_true q17
           go_wp2_with (first | ((with_reducible refine gate_callee (f:=64) rfl ?_);refine goesL_ (some 37) rfl rfl Try.func64 (by kernel_rfl) rfl #[.slice Ao7 y139.length co7] rfl (by (try simp only [zz26,zz27,zz28]);first | done | rfl | (simp only [zz24,zz25];rfl)) ?_;(with_reducible refine (impl_sum.calls k2 _ _ y139 t143 _ ?side1 ?side2 A15.out).mono ?_);(case side1=>repeat (first | exact (by repeat (first | (with_reducible exact HR142.out) | (with_reducible refine zz18 ?_ _) | (with_reducible refine zz19 ?_ _) | (with_reducible refine zz20 ?_) | exact HR142.out)) | (with_reducible refine zz18 ?_ _) | (with_reducible refine zz19 ?_ _) | (with_reducible refine zz20 ?_)));(case side2=>exact HC142.out);rintro e w' ⟨rfl,⟨nd,rfl⟩⟩;refine ⟨_,rfl,?_⟩))
           go_ret
           exact ⟨by first | rfl | (simp [errW_none,errW_some] <;> rfl) | (simp [*,errW_none,errW_some] <;> rfl),by repeat first | exact HB.out | apply zz2 | apply zz0 | apply zz1⟩
          ·rw [if_neg c16] at H
           have c16b0:decide (x5_2 < t143)=false:=decide_eq_false c16
           clear c16
           have H':=zz31 H
           clear H
           have q18:(x4_1:Int)≤((t131.length:Int):Int):=zz29 (by first | (with_reducible assumption) | assumption)
           obtain ⟨i018,hi018,_,hsz18,_⟩:=info_parts info3
           have hroom18:t131.length≤co7:=(Kd.R_reads' HO_3.out).2.1
           have hC18:Kd.C (Kd.int .i64) _ Ao7 t131.length t131:=(Kd.R_reads' HO_3.out).2.2
           have hcut18:=cut_to (P:=Try.prog) 22 3 .i64 Try.underlying22 hi018 Ao7 t131.length co7 x4_1 (zz29 (by first | (with_reducible assumption) | assumption)) q18 hroom18
           have hr18:=Kd.C_take (m:=(x4_1:Int).toNat) hC18 (by omega)
           have hy18:y139.length=(x4_1:Int).toNat:=(by rw [Ny139.out,zz25];omega)
           rw [← Ny139.out] at hr18
           rw [← hy18] at hcut18
           have HR142:=zz31 hr18
           have HC142:=zz31 (show y139.length≤co7 from by omega)
           clear hr18 hC18 hroom18 hi018 hsz18
           have KY18:=zz31 hy18
           clear hy18
           have KL18:=zz31 (show (x4_1:Int).toNat≤t131.length from by omega)
           replace q18:=eq_true q18
           go_wp2_with (first | ((with_reducible refine gate_callee (f:=64) rfl ?_);refine goesL_ (some 37) rfl rfl Try.func64 (by kernel_rfl) rfl #[.slice Ao7 y139.length co7] rfl (by (try simp only [zz26,zz27,zz28]);first | done | rfl | (simp only [zz24,zz25];rfl)) ?_;(with_reducible refine (impl_sum.calls k2 _ _ y139 t143 _ ?side1 ?side2 A15.out).mono ?_);(case side1=>repeat (first | exact (by repeat (first | (with_reducible exact HR142.out) | (with_reducible refine zz18 ?_ _) | (with_reducible refine zz19 ?_ _) | (with_reducible refine zz20 ?_) | exact HR142.out)) | (with_reducible refine zz18 ?_ _) | (with_reducible refine zz19 ?_ _) | (with_reducible refine zz20 ?_)));(case side2=>exact HC142.out);rintro e w' ⟨rfl,⟨nd,rfl⟩⟩;refine ⟨_,rfl,?_⟩))
           go_roundg k2
           case measure=>have:=HK1.out;have:=HK2.out;omega
           case rel=>exact ⟨(wrap64 (x4_1+1)),(by first | rfl | (simp;done) | (simp [*];done)),H',⟨by have:=HK1.out;have:=HK2.out;omega⟩,⟨by (with_reducible repeat (first | apply zz12 | apply zz13 | apply zz14));exact HO_3.out⟩,⟨by repeat first | exact HB.out | apply zz2 | apply zz0 | apply zz1⟩⟩
         ·rw [if_neg c14] at H
          exact absurd H (by simp)
        ·rw [if_neg c13] at H
         exact absurd H (by simp)
    ·rw [if_neg c5] at H
     exact absurd H (by simp)
   ·rw [if_neg c4] at H
    have c4b0:decide (x4_1≤(t131.length:Int))=false:=decide_eq_false c4
    clear c4
    obtain rfl:=Option.some.inj H
    obtain ⟨Ao19,co19,eo19⟩:=Kd.R_slice HO_3.out
    subst eo19
    go_wp2
    go_ret
    exact ⟨by first | rfl | (simp [errW_none,errW_some] <;> rfl) | (simp [*,errW_none,errW_some] <;> rfl),by repeat first | exact HB.out | apply zz2 | apply zz0 | apply zz1⟩

/-! ### impl_canBe: function 75 -/
def impl_canBe.f (k:Nat) (l0:List Int):Option (Bool):=(impl_sum.f k l0).bind fun t144=>(if (Int.tmod t144 2)=0 then ((impl_failsAt.f k l0).bind fun t145=>(some (t145 == 0))) else (some false))
theorem impl_canBe.mono:∀ a0 k,LeO (impl_canBe.f k a0) (impl_canBe.f (k+1) a0):=by
 intro a0 k
 unfold impl_canBe.f
 repeat' first
   | (with_reducible exact impl_failsAt.mono _ _)
   | (with_reducible exact impl_sum.mono _ _)
   | (with_reducible exact LeO.refl _)
   | (with_reducible exact LeO.none _)
   | (with_reducible refine LeO.ite ?_ ?_)
   | (with_reducible refine LeO.bind ?_ (fun _=>?_))
   | exact impl_failsAt.mono _ _
   | exact impl_sum.mono _ _
   | exact LeO.none _
   | refine LeO.ite ?_ ?_
   | refine LeO.bind ?_ (fun _=>?_)
set_option maxHeartbeats 8000000 in
set_option maxRecDepth 100000 in
theorem impl_canBe.calls (k:Nat) (A0:Option Addr) (c0:Nat) (l0:List Int) (r:Bool) (w:World) (hr0:Kd.C (Kd.int .i64) w A0 l0.length l0) (hc0:l0.length≤c0) (h:impl_canBe.f k l0=some r) :
  Calls Try.prog 75 #[.slice A0 l0.length c0] w fun e w'=>e=.returned (.bool r)∧Below w.heap.size w w':=by
 have HR0:=zz31 hr0
 have HC0:=zz31 hc0
 clear hr0 hc0
 have HB:=zz31 (Below.refl w.heap.size w)
 have H:((impl_sum.f k l0).bind fun t144=>(if (Int.tmod t144 2)=0 then ((impl_failsAt.f k l0).bind fun t145=>(some (t145 == 0))) else (some false)))=some r:=h
 clear h
 replace H:=zz30.mp H
 obtain ⟨t144,A20,H⟩:=H
 replace H:(if (Int.tmod t144 2)=0 then ((impl_failsAt.f k l0).bind fun t145=>(some (t145 == 0))) else (some false))=some r:=H
 have A2:=zz31 A20
 clear A20
 by_cases c3:(Int.tmod t144 2)=0
 ·rw [if_pos c3] at H
  have c3b0:((Int.tmod t144 2) == 0)=true:=beq_iff_eq.mpr c3
  have c3b1:((Int.tmod t144 2) != 0)=false:=bne_eq_false_iff_eq.mpr c3
  clear c3
  replace H:=zz30.mp H
  obtain ⟨t145,A40,H⟩:=H
  replace H:(some (t145 == 0))=some r:=H
  have A4:=zz31 A40
  clear A40
  obtain rfl:=Option.some.inj H
  go_enter Try.func75,Try.ntmps75
  go_wp2_with (first | ((with_reducible refine gate_callee (f:=64) rfl ?_);refine goesL_ (some 4) rfl rfl Try.func64 (by kernel_rfl) rfl #[.slice A0 l0.length c0] rfl (by (try simp only [zz26,zz27,zz28]);first | done | rfl | (simp only [zz24,zz25];rfl)) ?_;(with_reducible refine (impl_sum.calls k _ _ l0 t144 _ ?side1 ?side2 A2.out).mono ?_);(case side1=>repeat (first | exact HR0.out | (with_reducible refine zz18 ?_ _) | (with_reducible refine zz19 ?_ _) | (with_reducible refine zz20 ?_)));(case side2=>exact HC0.out);rintro e w' ⟨rfl,⟨nd,rfl⟩⟩;refine ⟨_,rfl,?_⟩) | (go_at_call 73;(with_reducible refine (impl_failsAt.calls k _ _ l0 t145 _ ?side1 ?side2 A4.out).mono ?_);(case side1=>repeat (first | exact HR0.out | (with_reducible refine zz18 ?_ _) | (with_reducible refine zz19 ?_ _) | (with_reducible refine zz20 ?_)));(case side2=>exact HC0.out);rintro e w5 ⟨rfl,hb⟩;have n0_:=zz31 (zz4 (by repeat first | exact HB.out | apply zz2 | apply zz0 | apply zz1) hb);clear HB;have HB:=n0_;clear n0_;(try clear hb);(try clear hb2);(try clear hk);(try clear hi)))
  go_ret
  exact ⟨by first | rfl | (simp [errW_none,errW_some] <;> rfl) | (simp [*,errW_none,errW_some] <;> rfl),by repeat first | exact HB.out | apply zz2 | apply zz0 | apply zz1⟩
 ·rw [if_neg c3] at H
  have c3b0:((Int.tmod t144 2) == 0)=false:=beq_eq_false_iff_ne.mpr c3
  have c3b1:((Int.tmod t144 2) != 0)=true:=bne_iff_ne.mpr c3
  obtain rfl:=Option.some.inj H
  go_enter Try.func75,Try.ntmps75
  go_wp2_with (first | ((with_reducible refine gate_callee (f:=64) rfl ?_);refine goesL_ (some 4) rfl rfl Try.func64 (by kernel_rfl) rfl #[.slice A0 l0.length c0] rfl (by (try simp only [zz26,zz27,zz28]);first | done | rfl | (simp only [zz24,zz25];rfl)) ?_;(with_reducible refine (impl_sum.calls k _ _ l0 t144 _ ?side1 ?side2 A2.out).mono ?_);(case side1=>repeat (first | exact HR0.out | (with_reducible refine zz18 ?_ _) | (with_reducible refine zz19 ?_ _) | (with_reducible refine zz20 ?_)));(case side2=>exact HC0.out);rintro e w' ⟨rfl,⟨nd,rfl⟩⟩;refine ⟨_,rfl,?_⟩))
  go_ret
  exact ⟨by first | rfl | (simp [errW_none,errW_some] <;> rfl) | (simp [*,errW_none,errW_some] <;> rfl),by repeat first | exact HB.out | apply zz2 | apply zz0 | apply zz1⟩

-- NOT PRINTED: function 79 (impl_AllNumbers_1)

/-! ### impl_AllNumbers: function 40 (a contract of our own) -/
set_option maxHeartbeats 8000000 in
set_option maxRecDepth 100000 in
theorem all_calls (k n:Nat) (hn:n≤7) (B0 Bn Bo Bg:Nat) (hno:Bn ≠ Bo) (hgo:Bg ≠ Bo) :
  ∀ (d:Nat) (l:List Int) (most:Int) (acc:List (List Int)) (v:Value) (W:World) (A:Option Addr) (c lim:Nat) (r:List (List Int)),d+l.length=n+1→(l.length < n→0≤most∧most≤7)→alkO (impl_canBe.f k) n d l most=some r→acc.length+r.length≤100000 →
   W.cell? ⟨Bn,0,none⟩=some (.int .i64 (n:Int))→W.cell? ⟨Bg,0,none⟩=some (.func (.func 79) #[] #[.pointer (some ⟨Bn,0,none⟩),.pointer (some ⟨Bo,0,none⟩),.pointer (some ⟨Bg,0,none⟩)])→¬ ownV Bo v Bn→¬ ownV Bo v Bg →
   W.heap[Bo]?=some (.cells #[v] 42 (0,0))→Kd.S KdS 22 W B0 (fun k=>k ≠ Bo∧k < lim) v acc→Kd.R (Kd.int .i64) 3 W lim (fun _=>True) (.slice A l.length c) l→Bo < lim→B0≤lim→lim≤W.heap.size →
   Calls Try.prog 79 #[.slice A l.length c,.int .i64 most,.pointer (some ⟨Bn,0,none⟩),.pointer (some ⟨Bo,0,none⟩),.pointer (some ⟨Bg,0,none⟩)] W fun e' W' =>
    e'=.returned (.tuple #[])∧∃ v',W'.heap[Bo]?=some (.cells #[v'] 42 (0,0))∧Kd.S KdS 22 W' B0 (fun k=>k ≠ Bo) v' (acc ++ r)∧Fr (ownV Bo v) (ownV Bo v') W W'
 | 0,l,most,acc,v,W,A,c,lim,r,hd,hm,hr,hacc,hn0,hg0,nn,ng,hbox,hS,hC,hBl,hB0,hlw=>by rw [alkO] at hr;exact absurd hr (by simp)
 | d+1,l,most,acc,v,W,A,c,lim,r,hd,hm,hr,hacc,hn0,hg0,nn,ng,hbox,hS,hC,hBl,hB0,hlw=>by
  have IH:=zz31 (all_calls k n hn B0 Bn Bo Bg hno hgo d)
  have HX:=zz31 hbox
  have HR:=zz31 hS
  have HC:=zz31 hC
  have HCs:=zz31 (Kd.R_reads' hC).2.2
  have HCc:=zz31 (Kd.R_reads' hC).2.1
  have f1:=zz9 hbox 0
  have f2:=zz10 hbox 0
  simp only [List.getElem?_toArray,List.getElem?_cons_zero] at f1
  have HVL:=zz31 (show ∀ k,ownV Bo v k→k < lim from fun k hk=>hk.elim (fun h=>by omega) (fun h=>((Kd.S_R hS).1 k h.symm).2))
  clear hbox hS hC
  rw [alkO] at hr
  by_cases hln:l.length=n
  ·rw [if_pos hln] at hr
   obtain ⟨b,hb,hr⟩:=zz30.1 hr
   injection hr with hr
   have HCAN:=zz31 hb
   clear hb
   subst hln
   have e0:((l.length:Int) == (l.length:Int))=true:=beq_iff_eq.2 rfl
   clear hm IH
   cases b with
   | false =>
    obtain rfl:r=[]:=by rw [← hr];rfl
    go_enter Try.func79,Try.ntmps79
    go_wp2_with (first | (go_at_call 75; refine (impl_canBe.calls k A c l false _ HCs.out HCc.out HCAN.out).mono ?_; rintro e w1 ⟨rfl, hb⟩; have HB1 := zz31 hb; clear hb) | (fail "no arm"))
    exact bodyPost_ret (results_none rfl _ _ _) rfl ⟨rfl,v,zz11 HX.out HB1.out,by rw [List.append_nil];exact Kd.S_mono (Kd.S_below HR.out HB1.out) (fun k hk=>hk.1),Fr.of_below _ HB1.out⟩
   | true =>
    obtain rfl:r=[l]:=by rw [← hr];rfl
    obtain ⟨L1,hL1⟩:∃ L1,L1=acc ++ [l]:=⟨_,rfl⟩
    have HLE:=zz31 hL1
    have HLL:=zz31 (show (acc.length+1) * 24≤140737488355328 from by simp at hacc;omega)
    have HNO:=zz31 (show ∀ k,v.ownBlock=some k→k ≠ Bo from fun k hk=>((Kd.S_R HR.out).1 k hk).1)
    clear hL1 hr
    go_enter Try.func79,Try.ntmps79
    go_upto_region 2 with (first | (go_at_call 75; refine (impl_canBe.calls k A c l true _ HCs.out HCc.out HCAN.out).mono ?_; rintro e w1 ⟨rfl, hb⟩; have HB1 := zz31 hb; have HX1 := zz31 (zz11 HX.out hb); have HR1 := zz31 (Kd.S_below HR.out hb); have HO1 := zz31 (Kd.R_below HC.out hb); have HBB := zz31 (Nat.le_trans hlw hb.size); clear hb f1 f2; have f1 := zz9 HX1.out 0; have f2 := zz10 HX1.out 0; simp only [List.getElem?_toArray, List.getElem?_cons_zero] at f1) | (fail "no arm"))
    have HM3:=zz31 (Kd.M_row (Kd.R_lower (Kd.R_mono (ok':=fun k=>lim≤k∧k < w1.heap.size) (Kd.R_bound HO1.out) (fun k hk=>⟨hk.2.1,hk.2.2.1⟩)) hB0))
    have HR2:=zz31 (Kd.S_mono (ok':=fun k=>k ≠ Bo∧¬ (lim≤k∧k < w1.heap.size)) HR1.out (fun k hk=>⟨hk.1,fun h=>by have:=hk.2;omega⟩))
    have HK2:=zz31 (show ∀ k,lim≤k∧k < w1.heap.size→k ≠ Bo∧some k ≠ v.ownBlock from fun k hk=>⟨by omega,fun he=>by have:=HVL.out k (.inr he);omega⟩)
    have HF2:=zz31 (show ∀ k,w1.heap.size≤k→k ≠ Bo from fun k hk=>by have:=blk_lt HX1.out;omega)
    have HBb:=zz31 (Nat.le_trans hB0 HBB.out)
    go_wp2_with (first | ((with_reducible refine gate_builtin (b := .append) (xs := #[.tmp 14, .tmp 16]) rfl ?_); at_builtin; refine Kd.S_append KdS (w0 := w1) (W := w1) B0 rfl (.tmp 14) (.tmp 16) 42 22 (.slice none 0 0) 24 rfl Try.underlying42 infoRows rfl (by decide) (by omega) v acc l [.slice A l.length c] (fun k => k ≠ Bo) (fun k => lim ≤ k ∧ k < w1.heap.size) rfl rfl HM3.out HK2.out HF2.out HR2.out (Below.refl _ _) HBb.out HLL.out ?_; intro v1 w4 hR1 hB1 hg1 hat1; rw [← HLE.out] at hR1; obtain ⟨A1, c1, rfl⟩ := Kd.S_slice hR1; have HX4 : Aside0 (w4.heap[Bo]? = some (.cells #[v] 42 (0, 0))) := ⟨(hg1.block Bo (blk_lt HX1.out) (fun he => HNO.out _ he.symm rfl)).trans HX1.out⟩; clear f1 f2; have f1 := zz9 HX4.out 0; have f2 := zz10 HX4.out 0; simp only [List.getElem?_toArray, List.getElem?_cons_zero] at f1; have HR4 := zz31 hR1; have HG1 := zz31 hg1; have HA1 := zz31 hat1; clear hR1 hB1 hg1 hat1) | (fail "no arm"))
    have HF3:=zz31 (fr_put (Below.refl w1.heap.size w1) HG1.out HA1.out (blk_lt HX1.out) (bo:=Bo))
    exact bodyPost_ret (results_none rfl _ _ _) rfl ⟨rfl,_,blk_set HX4.out 0 _,by rw [← HLE.out];exact Kd.S_far HR4.out (fun k hk he=>hk he) (.slice A1 L1.length c1) (p:=⟨Bo,0,none⟩),(Fr.of_below _ HB1.out).trans HF3.out⟩
  ·rw [if_neg hln] at hr
   obtain ⟨hm0,hm7⟩:=hm (by omega)
   obtain ⟨M,hM⟩:∃ M:Nat,most+1=(M:Int):=⟨(most+1).toNat,by omega⟩
   rw [hM,Int.toNat_natCast] at hr
   have HLC:=zz31 hr
   have hrl:=alkL_pre _ _ _ hr M (Nat.le_refl _)
   have e0:((l.length:Int) == (n:Int))=false:=beq_eq_false_iff_ne.2 (by omega)
   have hwm:IntKind.i64.wrap (most+1)=most+1:=wrapA _ (by omega) (by omega)
   have hM8:M≤8:=by omega
   clear hr hrl
   go_enter Try.func79,Try.ntmps79
   go_wp2
   go_loopg [20] M (fun gg v20 wr=>∃ (j:Nat) (vr:Value) (pre:List (List Int)),j≤M∧M - j≤gg∧v20=.int .i64 (j:Int)∧Aside0 (alkL (fun x=>alkO (impl_canBe.f k) n d (l ++ [(x:Int)]) (x:Int)) j=some pre)∧Aside0 (wr.heap[Bo]?=some (.cells #[vr] 42 (0,0)))∧Aside0 (Kd.S KdS 22 wr B0 (fun k=>k ≠ Bo) vr (acc ++ pre))∧Aside0 (Fr (ownV Bo v) (ownV Bo vr) W wr))
   case atStart=>exact ⟨0,v,[],by omega,by omega,by rfl,⟨rfl⟩,HX,⟨by rw [List.append_nil];exact Kd.S_mono HR.out (fun k hk=>hk.1)⟩,⟨Fr.refl _ _⟩⟩
   case round =>
    obtain ⟨j,vr,pre,hjM,hgg,rfl,HPR,HXr,HRr,HFr⟩:=hrel
    clear hm hln
    by_cases hlt:j < M
    ·have hltz:(j:Int) < most+1:=by omega
     obtain ⟨ys,hys,hnext,hlen⟩:=alkL_step _ M r HLC.out j hlt pre HPR.out
     have HYS:=zz31 hys
     have HNX:=zz31 hnext
     have HCr:=zz31 (HFr.out.R (Kd.R_mono (ok':=fun k=>¬ ownV Bo v k) (Kd.R_bound HC.out) (fun k hk h=>by have:=HVL.out k h;have:=hk.2.1;omega)) (fun _ h=>h))
     have HCsr:=zz31 (Kd.R_reads' HCr.out).2.2
     have HL1:=zz31 (show (l ++ [(j:Int)]).length=l.length+1 from by rw [List.length_append,List.length_singleton])
     have HLc:=zz31 (show (l.length+1) * 8≤140737488355328 from by omega)
     have HBr:=zz31 (Nat.le_trans (Nat.le_trans hB0 hlw) HFr.out.size)
     have HXl:=zz31 (blk_lt HXr.out)
     have hn1:=HFr.out.cell hn0 nn
     have hg1:=HFr.out.cell hg0 ng
     have HN:=zz31 (show ¬ ownV Bo vr Bn∧¬ ownV Bo vr Bg from ⟨fun h=>(HFr.out.own _ h).elim nn (fun h=>absurd h (Nat.not_le.2 (World.block_lt_of_cell? W _ hn0))),fun h=>(HFr.out.own _ h).elim ng (fun h=>absurd h (Nat.not_le.2 (World.block_lt_of_cell? W _ hg0)))⟩)
     have HBg:=zz31 (World.block_lt_of_cell? wr _ hg1)
     have HFC:=zz31 (show slices_Clone_int_int.f l=some l from by unfold slices_Clone_int_int.f;rw [if_pos (by omega)])
     have HBr1:=zz31 (fun q:Nat=>show wr.heap.size≤((wr.drewN (q+1)).alloc (Obj.cells #[.int .i64 (j:Int)] 3)).heap.size from size_alloc_le (wr.drewN (q+1)) _)
     have HSb:=zz31 (Kd.S_mono (ok':=fun k=>k ≠ Bo∧k < wr.heap.size) (Kd.S_bound HRr.out) (fun k hk=>⟨hk.1,hk.2.2.1⟩))
     have HDD:=zz31 (show d+(l ++ [(j:Int)]).length=n+1∧((l ++ [(j:Int)]).length < n→0≤(j:Int)∧(j:Int)≤7) from by rw [HL1.out];omega)
     have HAC:=zz31 (show (acc ++ pre).length+ys.length≤100000 from by rw [List.length_append];omega)
     clear hys hnext hlen f1 f2
     go_wp2
     go_region_held3 (fun w' => w'.cell? ⟨Bg, 0, none⟩ = some (.func (.func 79) #[] #[.pointer (some ⟨Bn, 0, none⟩), .pointer (some ⟨Bo, 0, none⟩), .pointer (some ⟨Bg, 0, none⟩)])) (first | go_keep | exact HF7.out.cell (a := ⟨Bg, 0, none⟩) hg1 HN.out.2 | exact (HBw4.out.cell (p := ⟨Bg, 0, none⟩) HBg.out).trans hg1 | exact (HBw.out.cell (p := ⟨Bg, 0, none⟩) HBg.out).trans hg1) (first | (go_at_call 65; refine (slices_Clone_int_int.calls A c l l _ ?_ HCc.out HFC.out).mono ?_; (repeat (first | exact HCsr.out | (with_reducible refine zz18 ?_ _) | (with_reducible refine zz19 ?_ _) | (with_reducible refine zz20 ?_))); rintro e w3 ⟨v3, rfl, ho, hb⟩; have HBw := zz31 (zz4 (w := wr) (by repeat (first | exact Below.refl _ _ | apply zz0 | apply below_drew | apply zz2)) hb); have HBc := zz31 hb; have HO3 := zz31 ho; clear hb ho) | (refine step_append_at .i64 wr.heap.size ?_ (.tmp 25) (.tmp 27) 22 3 8 ?_ Try.underlying22 info3 (Nat.succ_pos 7) v3 l (j : Int) (fun _ => True) ?_ ⟨w3.heap.size, 0, none⟩ ?_ ?_ (fun _ _ => trivial) ?_ ?_ HLc.out ?_; rfl; rfl; rfl; rfl; exact World.cell?_alloc_new _ _ _ 0; exact zz12 HO3.out _; exact (zz2 HBw.out _).size; intro v4 w4 ho4 hg4; have HBw4 := zz31 (gb_below (zz2 HBw.out _) hg4 (Kd.R_base HO3.out) (Nat.le_trans HBw.out.size (size_alloc_le _ _))); obtain ⟨A4, c4, rfl⟩ := Kd.R_slice ho4; have HO4 := zz31 ho4; clear ho4 hg4) | (refine step_append_at .i64 wr.heap.size ?_ (.tmp 25) (.tmp 27) 22 3 8 ?_ Try.underlying22 info3 (Nat.succ_pos 7) v3 l (j : Int) (fun _ => True) ?_ ⟨wr.heap.size, 0, none⟩ ?_ ?_ (fun _ _ => trivial) ?_ ?_ HLc.out ?_; rfl; rfl; rfl; rfl; exact pw_cell_below HBc.out (World.cell?_alloc_new wr _ _ 0); exact Kd.R_lower HO3.out (size_alloc_le wr _); exact HBw.out.size; intro v4 w4 ho4 hg4; have HBw4 := zz31 (gb_below HBw.out hg4 (Kd.R_base (Kd.R_lower HO3.out (size_alloc_le wr _))) HBw.out.size); obtain ⟨A4, c4, rfl⟩ := Kd.R_slice ho4; have HO4 := zz31 ho4; clear ho4 hg4) | (go_at_call 79; rw [← HL1.out]; refine (IH.out (l ++ [(j : Int)]) (j : Int) (acc ++ pre) vr w4 A4 c4 wr.heap.size ys HDD.out.1 HDD.out.2 HYS.out HAC.out (pw_cell_below' HBw4.out hn1) (pw_cell_below' HBw4.out hg1) HN.out.1 HN.out.2 (zz11 HXr.out HBw4.out) (Kd.S_below HSb.out HBw4.out) HO4.out HXl.out HBr.out HBw4.out.size).mono ?_; rintro e w7 ⟨rfl, v7, hx7, hr7, hf7⟩; have HX7 := zz31 hx7; have HR7 := zz31 hr7; have HF7 := zz31 ((Fr.of_below (ownV Bo vr) HBw4.out).trans hf7); clear hx7 hr7 hf7) | (fail "no arm"))
     all_goals
      go_wp2
      go_roundg (M - (j+1))
      case measure=>omega
      case rel=>exact ⟨j+1,v7,pre ++ ys,by omega,by omega,by go_num,HNX,⟨by (with_reducible repeat (first | refine zz6 ?_ _ | refine zz7 ?_));exact HX7.out⟩,⟨by rw [← List.append_assoc];(with_reducible repeat (first | apply zz16 | apply zz17));exact HR7.out⟩,⟨HFr.out.trans (HF7.out.trans (Fr.of_below _ (by repeat first | exact Below.refl _ _ | apply zz0 | apply below_drew)))⟩⟩
    ·have hltz:¬ (j:Int) < most+1:=by omega
     obtain rfl:j=M:=by omega
     have hpr:pre=r:=Option.some.inj (HPR.out.symm.trans HLC.out)
     subst hpr
     clear f1 f2
     go_wp2
     exact bodyPost_end (results_none rfl _ _ _) rfl ⟨rfl,vr,HXr.out,HRr.out,HFr.out⟩
def impl_AllNumbers.f (k:Nat) (a0:Int):Option (List (List Int) × Bool):=(impl_within.f a0 0 7).bind fun ok=>if ok=true then allF (impl_canBe.f k) a0 else some ([],false)
theorem impl_AllNumbers.mono:∀ a0 k,LeO (impl_AllNumbers.f k a0) (impl_AllNumbers.f (k+1) a0):=by
 intro a0 k
 unfold impl_AllNumbers.f allF
 exact LeO.bind (LeO.refl _) fun ok=>LeO.ite (LeO.ite (LeO.bind (alkO_mono _ _ (fun l=>impl_canBe.mono l k) _ _ _ _) fun r=>LeO.refl _) (LeO.refl _)) (LeO.refl _)
set_option maxHeartbeats 4000000 in
set_option maxRecDepth 100000 in
theorem impl_AllNumbers.calls (k:Nat) (a0:Int) (r1:List (List Int)) (r2:Bool) (w:World) (h:impl_AllNumbers.f k a0=some (r1,r2)) :
  Calls Try.prog 40 #[.int .i64 a0] w fun e w'=>∃ v0_:Value,e=.returned (.tuple #[v0_,.bool r2])∧Kd.S (Kd.slice 3 (Kd.int .i64)) 22 w' w.heap.size (fun _=>True) v0_ r1∧Below w.heap.size w w':=by
 unfold impl_AllNumbers.f at h
 obtain ⟨ok,hok,h⟩:=zz30.1 h
 have HOK:=zz31 hok
 clear hok
 cases ok with
 | false =>
  rw [if_neg (by simp)] at h
  simp only [Option.some.injEq,Prod.mk.injEq] at h
  obtain ⟨rfl,rfl⟩:=h
  go_enter Try.func40,Try.ntmps40
  go_wp2_with (first | (go_at_call 78; refine (impl_within.calls a0 0 7 false _ HOK.out).mono ?_; rintro e w4 ⟨rfl, hd⟩; obtain ⟨q, hq⟩ := hd.out; subst hq) | (fail "no arm"))
  refine bodyPost_ret (results_tmp2 rfl _ _ _) rfl ?_
  exact ⟨_,rfl,Kd.S_nil _ _ _ _ _,by repeat first | exact Below.refl _ _ | apply zz0 | apply below_drew | apply zz2⟩
 | true =>
  rw [if_pos rfl] at h
  unfold allF at h
  by_cases hb:0≤a0∧a0≤7
  case neg=>rw [if_neg hb] at h;exact absurd h (by simp)
  rw [if_pos hb] at h
  obtain ⟨r,hr,h⟩:=zz30.1 h
  by_cases hlr:r.length≤100000
  case neg=>rw [if_neg hlr] at h;exact absurd h (by simp)
  rw [if_pos hlr] at h
  simp only [Option.some.injEq,Prod.mk.injEq] at h
  obtain ⟨rfl,rfl⟩:=h
  obtain ⟨n,rfl⟩:=Int.eq_ofNat_of_zero_le hb.1
  rw [Int.toNat_natCast] at hr
  have hwn:IntKind.i64.wrap ((n:Int) - 1)=(n:Int) - 1:=wrapA _ (by omega) (by omega)
  have CG:Aside0 (∀ q:Nat,Calls Try.prog 79 #[.slice (some ⟨w.heap.size+1+1+1+1,0,none⟩) 0 0,.int .i64 ((n:Int) - 1),.pointer (some ⟨w.heap.size,0,none⟩),.pointer (some ⟨w.heap.size+1+1,0,none⟩),.pointer (some ⟨w.heap.size+1+1+1,0,none⟩)] ((((((w.alloc (.cells #[.int .i64 (n:Int)] 3)).drewN q).alloc (.cells #[] 22)).alloc (.cells #[.slice (some ⟨w.heap.size+1,0,none⟩) 0 0] 42)).alloc (.cells #[(.func (.func 79) #[] #[.pointer (some ⟨w.heap.size,0,none⟩),.pointer (some ⟨w.heap.size+1+1,0,none⟩),.pointer (some ⟨w.heap.size+1+1+1,0,none⟩)])] 67)).alloc (.cells #[] 3)) fun e W' =>
    e=.returned (.tuple #[])∧∃ v,W'.cell? ⟨w.heap.size+1+1,0,none⟩=some v∧Kd.S KdS 22 W' w.heap.size (fun _=>True) v r∧Below w.heap.size w W'):=⟨fun q=>by
   have hbel:Below w.heap.size w ((((((w.alloc (.cells #[.int .i64 (n:Int)] 3)).drewN q).alloc (.cells #[] 22)).alloc (.cells #[.slice (some ⟨w.heap.size+1,0,none⟩) 0 0] 42)).alloc (.cells #[(.func (.func 79) #[] #[.pointer (some ⟨w.heap.size,0,none⟩),.pointer (some ⟨w.heap.size+1+1,0,none⟩),.pointer (some ⟨w.heap.size+1+1+1,0,none⟩)])] 67)).alloc (.cells #[] 3)):=zz2 (zz2 (zz2 (zz2 (zz0 (zz2 (Below.refl _ _) _) q) _) _) _) _
   have e0:((w.alloc (.cells #[.int .i64 (n:Int)] 3)).drewN q).heap.size=w.heap.size+1:=by simp [World.drewN]
   have e1:(((w.alloc (.cells #[.int .i64 (n:Int)] 3)).drewN q).alloc (.cells #[] 22)).heap.size=w.heap.size+1+1:=by rw [← e0];simp
   have e2:((((w.alloc (.cells #[.int .i64 (n:Int)] 3)).drewN q).alloc (.cells #[] 22)).alloc (.cells #[.slice (some ⟨w.heap.size+1,0,none⟩) 0 0] 42)).heap.size=w.heap.size+1+1+1:=by rw [← e1];simp
   have e3:(((((w.alloc (.cells #[.int .i64 (n:Int)] 3)).drewN q).alloc (.cells #[] 22)).alloc (.cells #[.slice (some ⟨w.heap.size+1,0,none⟩) 0 0] 42)).alloc (.cells #[(.func (.func 79) #[] #[.pointer (some ⟨w.heap.size,0,none⟩),.pointer (some ⟨w.heap.size+1+1,0,none⟩),.pointer (some ⟨w.heap.size+1+1+1,0,none⟩)])] 67)).heap.size=w.heap.size+1+1+1+1:=by rw [← e2];simp
   have e4:((((((w.alloc (.cells #[.int .i64 (n:Int)] 3)).drewN q).alloc (.cells #[] 22)).alloc (.cells #[.slice (some ⟨w.heap.size+1,0,none⟩) 0 0] 42)).alloc (.cells #[(.func (.func 79) #[] #[.pointer (some ⟨w.heap.size,0,none⟩),.pointer (some ⟨w.heap.size+1+1,0,none⟩),.pointer (some ⟨w.heap.size+1+1+1,0,none⟩)])] 67)).alloc (.cells #[] 3)).heap.size=w.heap.size+1+1+1+1+1:=by rw [← e3];simp
   have b0:((((((w.alloc (.cells #[.int .i64 (n:Int)] 3)).drewN q).alloc (.cells #[] 22)).alloc (.cells #[.slice (some ⟨w.heap.size+1,0,none⟩) 0 0] 42)).alloc (.cells #[(.func (.func 79) #[] #[.pointer (some ⟨w.heap.size,0,none⟩),.pointer (some ⟨w.heap.size+1+1,0,none⟩),.pointer (some ⟨w.heap.size+1+1+1,0,none⟩)])] 67)).alloc (.cells #[] 3)).heap[w.heap.size]?=some (.cells #[.int .i64 (n:Int)] 3):=zz8 (zz8 (zz8 (zz8 (zz6 (blk_new w _) q) _) _) _) _
   have b2:((((((w.alloc (.cells #[.int .i64 (n:Int)] 3)).drewN q).alloc (.cells #[] 22)).alloc (.cells #[.slice (some ⟨w.heap.size+1,0,none⟩) 0 0] 42)).alloc (.cells #[(.func (.func 79) #[] #[.pointer (some ⟨w.heap.size,0,none⟩),.pointer (some ⟨w.heap.size+1+1,0,none⟩),.pointer (some ⟨w.heap.size+1+1+1,0,none⟩)])] 67)).alloc (.cells #[] 3)).heap[w.heap.size+1+1]?=some (.cells #[.slice (some ⟨w.heap.size+1,0,none⟩) 0 0] 42):=by have:=blk_new (((w.alloc (.cells #[.int .i64 (n:Int)] 3)).drewN q).alloc (.cells #[] 22)) (.cells #[.slice (some ⟨w.heap.size+1,0,none⟩) 0 0] 42);rw [e1] at this;exact zz8 (zz8 this _) _
   have b3:((((((w.alloc (.cells #[.int .i64 (n:Int)] 3)).drewN q).alloc (.cells #[] 22)).alloc (.cells #[.slice (some ⟨w.heap.size+1,0,none⟩) 0 0] 42)).alloc (.cells #[(.func (.func 79) #[] #[.pointer (some ⟨w.heap.size,0,none⟩),.pointer (some ⟨w.heap.size+1+1,0,none⟩),.pointer (some ⟨w.heap.size+1+1+1,0,none⟩)])] 67)).alloc (.cells #[] 3)).heap[w.heap.size+1+1+1]?=some (.cells #[(.func (.func 79) #[] #[.pointer (some ⟨w.heap.size,0,none⟩),.pointer (some ⟨w.heap.size+1+1,0,none⟩),.pointer (some ⟨w.heap.size+1+1+1,0,none⟩)])] 67):=by have:=blk_new ((((w.alloc (.cells #[.int .i64 (n:Int)] 3)).drewN q).alloc (.cells #[] 22)).alloc (.cells #[.slice (some ⟨w.heap.size+1,0,none⟩) 0 0] 42)) (.cells #[(.func (.func 79) #[] #[.pointer (some ⟨w.heap.size,0,none⟩),.pointer (some ⟨w.heap.size+1+1,0,none⟩),.pointer (some ⟨w.heap.size+1+1+1,0,none⟩)])] 67);rw [e2] at this;exact zz8 this _
   have hS:Kd.S KdS 22 ((((((w.alloc (.cells #[.int .i64 (n:Int)] 3)).drewN q).alloc (.cells #[] 22)).alloc (.cells #[.slice (some ⟨w.heap.size+1,0,none⟩) 0 0] 42)).alloc (.cells #[(.func (.func 79) #[] #[.pointer (some ⟨w.heap.size,0,none⟩),.pointer (some ⟨w.heap.size+1+1,0,none⟩),.pointer (some ⟨w.heap.size+1+1+1,0,none⟩)])] 67)).alloc (.cells #[] 3)) w.heap.size (fun k=>k=w.heap.size+1) (.slice (some ⟨w.heap.size+1,0,none⟩) 0 0) []:=by
    have h1:=S_emptyG KdS 22 ((w.alloc (.cells #[.int .i64 (n:Int)] 3)).drewN q) w.heap.size (fun k=>k=w.heap.size+1) (by rw [e0];omega) e0
    rw [e0] at h1
    exact Kd.S_below h1 (zz2 (zz2 (zz2 (Below.refl _ _) _) _) _)
   have hR:Kd.R (Kd.int .i64) 3 ((((((w.alloc (.cells #[.int .i64 (n:Int)] 3)).drewN q).alloc (.cells #[] 22)).alloc (.cells #[.slice (some ⟨w.heap.size+1,0,none⟩) 0 0] 42)).alloc (.cells #[(.func (.func 79) #[] #[.pointer (some ⟨w.heap.size,0,none⟩),.pointer (some ⟨w.heap.size+1+1,0,none⟩),.pointer (some ⟨w.heap.size+1+1+1,0,none⟩)])] 67)).alloc (.cells #[] 3)) (w.heap.size+1+1+1+1) (fun _=>True) (.slice (some ⟨w.heap.size+1+1+1+1,0,none⟩) 0 0) []:=by
    have h1:=R_emptyG (Kd.int .i64) 3 (((((w.alloc (.cells #[.int .i64 (n:Int)] 3)).drewN q).alloc (.cells #[] 22)).alloc (.cells #[.slice (some ⟨w.heap.size+1,0,none⟩) 0 0] 42)).alloc (.cells #[(.func (.func 79) #[] #[.pointer (some ⟨w.heap.size,0,none⟩),.pointer (some ⟨w.heap.size+1+1,0,none⟩),.pointer (some ⟨w.heap.size+1+1+1,0,none⟩)])] 67)) (w.heap.size+1+1+1+1) (fun _=>True) (by rw [e3];omega) trivial
    rw [e3] at h1
    exact h1
   have hown:∀ i,ownV (w.heap.size+1+1) (.slice (some ⟨w.heap.size+1,0,none⟩) 0 0) i→i=w.heap.size+1+1 ∨ i=w.heap.size+1:=fun i hi=>hi.elim .inl (fun h=>.inr (by simpa [Value.ownBlock] using h))
   refine (all_calls k n (by omega) w.heap.size w.heap.size (w.heap.size+1+1) (w.heap.size+1+1+1) (by omega) (by omega) (n+1) [] ((n:Int) - 1) [] (.slice (some ⟨w.heap.size+1,0,none⟩) 0 0) ((((((w.alloc (.cells #[.int .i64 (n:Int)] 3)).drewN q).alloc (.cells #[] 22)).alloc (.cells #[.slice (some ⟨w.heap.size+1,0,none⟩) 0 0] 42)).alloc (.cells #[(.func (.func 79) #[] #[.pointer (some ⟨w.heap.size,0,none⟩),.pointer (some ⟨w.heap.size+1+1,0,none⟩),.pointer (some ⟨w.heap.size+1+1+1,0,none⟩)])] 67)).alloc (.cells #[] 3)) (some ⟨w.heap.size+1+1+1+1,0,none⟩) 0 (w.heap.size+1+1+1+1) r (by simp) (fun hlt=>by simp at hlt;omega) hr (by simpa using hlr) (zz9 b0 0) (zz9 b3 0) (fun h=>by have:=hown _ h;omega) (fun h=>by have:=hown _ h;omega) b2 (Kd.S_mono hS (fun k hk=>by omega)) hR (by omega) (by omega) (by rw [e4];omega)).mono ?_
   rintro e W' ⟨g1,v,g2,g3,g4⟩
   exact ⟨g1,v,zz9 g2 0,Kd.S_mono (by simpa using g3) (fun _ _=>trivial),hbel.trans (g4.below hbel.size (fun i hi=>by have:=hown _ hi;omega))⟩⟩
  have SF:Aside0 (∀ q:Nat,((((w.alloc (.cells #[.int .i64 (n:Int)] 3)).drewN q).alloc (.cells #[] 22)).alloc (.cells #[.slice none 0 0] 42)).frozen? ⟨w.heap.size+1+1,0,none⟩=false∧((((w.alloc (.cells #[.int .i64 (n:Int)] 3)).drewN q).alloc (.cells #[] 22)).alloc (.cells #[.slice none 0 0] 42)).cell? ⟨w.heap.size+1+1,0,none⟩=some (.slice none 0 0)∧(((((w.alloc (.cells #[.int .i64 (n:Int)] 3)).drewN q).alloc (.cells #[] 22)).alloc (.cells #[.slice (some ⟨w.heap.size+1,0,none⟩) 0 0] 42)).alloc (.cells #[.nilFunc] 67)).frozen? ⟨w.heap.size+1+1+1,0,none⟩=false∧(((((w.alloc (.cells #[.int .i64 (n:Int)] 3)).drewN q).alloc (.cells #[] 22)).alloc (.cells #[.slice (some ⟨w.heap.size+1,0,none⟩) 0 0] 42)).alloc (.cells #[.nilFunc] 67)).cell? ⟨w.heap.size+1+1+1,0,none⟩=some .nilFunc):=⟨fun q=>by
   have e0:((w.alloc (.cells #[.int .i64 (n:Int)] 3)).drewN q).heap.size=w.heap.size+1:=by simp [World.drewN]
   have e1:(((w.alloc (.cells #[.int .i64 (n:Int)] 3)).drewN q).alloc (.cells #[] 22)).heap.size=w.heap.size+1+1:=by rw [← e0];simp
   have e2:((((w.alloc (.cells #[.int .i64 (n:Int)] 3)).drewN q).alloc (.cells #[] 22)).alloc (.cells #[.slice (some ⟨w.heap.size+1,0,none⟩) 0 0] 42)).heap.size=w.heap.size+1+1+1:=by rw [← e1];simp
   refine ⟨?_,?_,?_,?_⟩
   ·rw [← e1];exact frozen_new _ _ _ 0
   ·rw [← e1];exact World.cell?_alloc_new _ _ _ 0
   ·rw [← e2];exact frozen_new _ _ _ 0
   ·rw [← e2];exact World.cell?_alloc_new _ _ _ 0⟩
  clear hr hlr
  go_enter Try.func40,Try.ntmps40
  go_wp2_with (first | (go_at_call 78; refine (impl_within.calls (n : Int) 0 7 true _ HOK.out).mono ?_; rintro e w4 ⟨rfl, hd⟩; obtain ⟨q, hq⟩ := hd.out; subst hq; obtain ⟨sf1, sf2, sf3, sf4⟩ := SF.out q) | (go_at_call 79; refine (CG.out _).mono ?_; rintro e w5 ⟨rfl, v, hc, hS, hB⟩; have HS := zz31 hS; have HB := zz31 hB; clear hS hB) | (fail "no arm"))
  refine bodyPost_ret (results_tmp2 rfl _ _ _) rfl ?_
  exact ⟨v,rfl,by (with_reducible repeat (first | apply zz16 | apply zz17));exact HS.out,by repeat first | exact HB.out | apply zz0 | apply below_drew⟩

end Go.Proofs.Ytjipjcdeoajnjaa.P
