-- PRINTED by print.py (a twelfth state) out of the translation. Not trusted: Lean checks it.
import Derived.Test.YtjipjcdeoajnjaaPx0
namespace Go.Proofs.Ytjipjcdeoajnjaa.P
open Go.RowKit Go.Proofs.YtjipjcdeoajnjaaW.PrintWords Go.Proofs.YtjipjcdeoajnjaaW.PrintLast Go.Proofs.YtjipjcdeoajnjaaW.PrintMore
open Bool renaming true → T, false → F
attribute [local go_sem] max2_int min2_int max_two min_two max_three min_three max_four min_four   -- for this text's walks alone
set_option linter.unusedVariables false
set_option linter.unusedSimpArgs false

/-! ### laws_toIntS: function 15 -/
def laws_toIntS.l0:Nat→List Int→List Int→Int→Option (List Int)
 | 0,_,_,_=>none
 | k+1,x0,x3,x4=>if x4 < (x0.length:Int) then (if 0≤x4 then (if x4 < (x3.length:Int) then (laws_toIntS.l0 k x0 (x3.set (x4:Int).toNat (rd x0 x4)) (wrap64 (x4+1))) else (none)) else (none)) else (some x3)
def laws_toIntS.f (k:Nat) (l0:List Int):Option (List Int):=if 0≤(l0.length:Int) then (if ((l0.length:Int):Int).toNat≤35184372088832 then (laws_toIntS.l0 k l0 (List.replicate ((l0.length:Int):Int).toNat 0) 0) else (none)) else (none)
theorem laws_toIntS.mono_l:∀ k,(∀ y0 y1 y2,LeO (laws_toIntS.l0 k y0 y1 y2) (laws_toIntS.l0 (k+1) y0 y1 y2))
 | 0=>fun _ _ _ r h=>by simp [laws_toIntS.l0] at h
 | k+1=>by
  have ih0:=laws_toIntS.mono_l k
  ·intro y0 y1 y2
   unfold laws_toIntS.l0
   repeat' first
   | (with_reducible exact ih0 _ _ _)
   | (with_reducible exact LeO.refl _)
   | (with_reducible exact LeO.none _)
   | (with_reducible refine LeO.ite ?_ ?_)
   | (with_reducible refine LeO.bind ?_ (fun _=>?_))
   | exact ih0 _ _ _
   | exact LeO.none _
   | refine LeO.ite ?_ ?_
   | refine LeO.bind ?_ (fun _=>?_)
theorem laws_toIntS.mono:∀ a0 k,LeO (laws_toIntS.f k a0) (laws_toIntS.f (k+1) a0):=by
 intro a0 k
 have ih0:=laws_toIntS.mono_l k
 unfold laws_toIntS.f
 repeat' first
   | (with_reducible exact ih0 _ _ _)
   | (with_reducible exact LeO.refl _)
   | (with_reducible exact LeO.none _)
   | (with_reducible refine LeO.ite ?_ ?_)
   | (with_reducible refine LeO.bind ?_ (fun _=>?_))
   | exact ih0 _ _ _
   | exact LeO.none _
   | refine LeO.ite ?_ ?_
   | refine LeO.bind ?_ (fun _=>?_)
set_option maxHeartbeats 8000000 in
set_option maxRecDepth 100000 in
theorem laws_toIntS.calls (k:Nat) (A0:Option Addr) (c0:Nat) (l0:List Int) (r:List Int) (w:World) (hr0:Kd.C (Kd.int .i64) w A0 l0.length l0) (hc0:l0.length≤c0) (h:laws_toIntS.f k l0=some r) :
  Calls Try.prog 15 #[.slice A0 l0.length c0] w fun e w'=>∃ v0_:Value,e=.returned (v0_)∧Kd.R (Kd.int .i64) 3 w' w.heap.size (fun _=>True) v0_ r∧Below w.heap.size w w':=by
 have HR0:=zz31 hr0
 have HC0:=zz31 hc0
 clear hr0 hc0
 have HB:=zz31 (Below.refl w.heap.size w)
 have H:(if 0≤(l0.length:Int) then (if ((l0.length:Int):Int).toNat≤35184372088832 then (laws_toIntS.l0 k l0 (List.replicate ((l0.length:Int):Int).toNat 0) 0) else (none)) else (none))=some r:=h
 clear h
 by_cases c2:0≤(l0.length:Int)
 ·rw [if_pos c2] at H
  have c2b0:=eq_true c2
  have c2b1:decide (0≤(l0.length:Int))=true:=decide_eq_true c2
  clear c2
  by_cases c3:((l0.length:Int):Int).toNat≤35184372088832
  ·rw [if_pos c3] at H
   have c3b0:=eq_true c3
   have c3b1:decide (((l0.length:Int):Int).toNat≤35184372088832)=true:=decide_eq_true c3
   clear c3
   obtain ⟨y101,hy101⟩:∃ y_:List Int,y_=(List.replicate ((l0.length:Int):Int).toNat 0):=⟨_,rfl⟩
   replace H:(laws_toIntS.l0 k l0 y101 0)=some r:=by first | (rw [hy101];with_reducible exact H) | (have H2_:=(Option.bind_some _ _).symm.trans H;rw [hy101];with_reducible exact H2_) | (have H2_:=(Option.bind_some _ _).symm.trans H;with_reducible exact H2_) | with_reducible exact H | (rw [hy101];exact H) | exact H
   have Ny101:=zz31 hy101
   clear hy101
   have H':=zz31 H
   clear H
   go_enter Try.func15,Try.ntmps15
   go_wp2_with (first | ((with_reducible refine gate_dst (N:=7) rfl ?_);refine Kd.R_make (Kd.int .i64) _ 3 rfl (N:=7) rfl 22 _ _ rfl (l0.length:Int) rfl rfl Try.underlying22 (.int .i64 0) 8 info3 rfl (by decide) (by omega) 0 (ok:=fun _=>True) (okp:=fun _=>True) rfl (fun _ hk=>hk) trivial (zz29 (by first | (with_reducible assumption) | assumption)) (Nat.le_trans (Nat.mul_le_mul_right _ (zz29 (by first | (with_reducible assumption) | assumption):(l0.length:Int).toNat≤35184372088832)) (by omega)) (Below.refl _ _) (Nat.le_refl _) ?_;intro v102 w4 ho5 hb hg_ hnew_;clear hg_ hnew_;(first | rw [← Ny101.out] at ho5 | (simp only [Int.reduceToNat] at ho5;rw [← Ny101.out] at ho5));have n0_:=zz31 (Kd.R_lower ho5 (zz5 (by repeat first | exact HB.out | apply zz2 | apply zz0 | apply zz1)));have n1_:=zz31 (zz4 (by repeat first | exact HB.out | apply zz2 | apply zz0 | apply zz1) hb);clear HB;have HO103:=n0_;have HB:=n1_;clear n0_ n1_;clear hb ho5))
   go_loopg [4] k (fun kq v4 w'=>∃ (x3_1:List Int) (x4_1:Int),v4=.int .i64 x4_1∧Aside0 (laws_toIntS.l0 kq l0 x3_1 x4_1=some r)∧Aside0 (kq≤k)∧Aside0 (Kd.R (Kd.int .i64) 3 w' w.heap.size (fun _=>True) v102 x3_1)∧Aside0 (Below w.heap.size w w'))
   case atStart=>exact ⟨(y101),(0),(by first | rfl | (simp;done) | (simp [*];done)),H',⟨Nat.le_refl _⟩,⟨by (with_reducible repeat (first | apply zz12 | apply zz13 | apply zz14));exact HO103.out⟩,⟨by repeat first | exact HB.out | apply zz2 | apply zz0 | apply zz1⟩⟩
   case round =>
    clear H'
    try clear c1
    try clear c2
    try clear c2b0
    try clear c2b1
    try clear p2
    try clear c3
    try clear c3b0
    try clear c3b1
    obtain ⟨x3_1,x4_1,rfl,HA,HK1,HO_3,HB⟩:=hrel
    cases gk with
    | zero=>exact absurd HA.out (by simp [laws_toIntS.l0])
    | succ k1 =>
     have H:=HA.out
     clear HA
     simp only [laws_toIntS.l0] at H
     by_cases c6:x4_1 < (l0.length:Int)
     ·rw [if_pos c6] at H
      have c6b0:decide (x4_1 < (l0.length:Int))=true:=decide_eq_true c6
      clear c6
      by_cases c7:0≤x4_1
      ·rw [if_pos c7] at H
       have c7b0:decide (0≤x4_1)=true:=decide_eq_true c7
       clear c7
       by_cases c8:x4_1 < (x3_1.length:Int)
       ·rw [if_pos c8] at H
        have c8b0:decide (x4_1 < (x3_1.length:Int))=true:=decide_eq_true c8
        clear c8
        obtain ⟨y105,hy105⟩:∃ y_:List Int,y_=(x3_1.set (x4_1:Int).toNat (rd l0 x4_1)):=⟨_,rfl⟩
        replace H:(laws_toIntS.l0 k1 l0 y105 (wrap64 (x4_1+1)))=some r:=by first | (rw [hy105];with_reducible exact H) | (have H2_:=(Option.bind_some _ _).symm.trans H;rw [hy105];with_reducible exact H2_) | (have H2_:=(Option.bind_some _ _).symm.trans H;with_reducible exact H2_) | with_reducible exact H | (rw [hy105];exact H) | exact H
        have Ny105:=zz31 hy105
        clear hy105
        have H':=zz31 H
        clear H
        have p104:0≤(x4_1:Int):=zz29 (by first | (with_reducible assumption) | assumption)
        have q104:x4_1 < (l0.length:Int):=zz29 (by first | (with_reducible assumption) | assumption)
        obtain ⟨ad104,e104,hx104_0⟩:=Kd.at_int HR0.out x4_1 p104 q104
        cases e104
        try replace hx104_0:=(HB.out.cell (World.block_lt_of_cell? w _ hx104_0)).trans hx104_0
        replace p104:=eq_true p104
        replace q104:=eq_true q104
        have p9:0≤(x4_1:Int):=zz29 (by first | (with_reducible assumption) | assumption)
        have q9:(x4_1:Int) < ((x3_1.length:Int):Int):=zz29 (by first | (with_reducible assumption) | assumption)
        obtain ⟨go9,co9,eo9,gb9,gl9,cl9,HG9⟩:=Kd.R_form HO_3.out (by omega)
        (first | cases eo9 | (injection eo9 with ea_ en_ ec_;(first | subst ea_ | (injection ea_ with ea_;subst ea_));subst ec_;clear en_))
        have GB9:=zz31 gb9
        have GG9:=zz31 HG9
        clear gb9 gl9 HG9
        obtain ⟨hx9_0,hf9_0⟩:=Kd.R_celln 0 HO_3.out (x4_1:Int) p9 q9
        replace p9:=eq_true p9
        replace q9:=eq_true q9
        have HP10:=Kd.R_putg HO_3.out (x4_1:Int) (rd l0 x4_1)
        go_wp2_with (first | ((with_reducible refine gate_store (t:=3) (p:=20) rfl ?_);refine store_event (t:=3) (p:=20) (v:=?vo_w11) (w1:=(wr.setCell ⟨go9,(x4_1:Int).toNat,none⟩ (.int .i64 (rd l0 x4_1)))) ?hg ?ho ?hn ?hr ?_;(case ho=>rfl);(case hg=>rfl);(case hn=>rfl);(case hr=>first | (go_simp;done) | (go_simp;rfl));intro w11 hw;have hg:wr.grownBy w11 (some go9):=(by rw [hw];exact HP10.2);have hp_:Kd.R (Kd.int .i64) 3 w11 w.heap.size (fun _=>True) (.slice (some ⟨go9,0,none⟩) x3_1.length co9) y105:=(by rw [hw,Ny105.out];exact HP10.1);clear HP10;have n0_:=zz31 (hp_);have n1_:=zz31 ((by rw [hw];exact zz3 (HB.out) GB9.out:Below w.heap.size w w11));clear HO_3;clear HB;have HO_3:=n0_;have HB:=n1_;clear n0_ n1_;clear hg hw hp_))
        go_roundg k1
        case measure=>have:=HK1.out;omega
        case rel=>exact ⟨(y105),(wrap64 (x4_1+1)),(by first | rfl | (simp;done) | (simp [*];done)),H',⟨by have:=HK1.out;omega⟩,⟨by (with_reducible repeat (first | apply zz12 | apply zz13 | apply zz14));exact HO_3.out⟩,⟨by repeat first | exact HB.out | apply zz2 | apply zz0 | apply zz1⟩⟩
       ·rw [if_neg c8] at H
        exact absurd H (by simp)
      ·rw [if_neg c7] at H
       exact absurd H (by simp)
     ·rw [if_neg c6] at H
      have c6b0:decide (x4_1 < (l0.length:Int))=false:=decide_eq_false c6
      clear c6
      obtain rfl:=Option.some.inj H
      go_wp2
      go_ret
      exact ⟨_,by first | rfl | (simp [errW_none,errW_some] <;> rfl) | (simp [*,errW_none,errW_some] <;> rfl),by (with_reducible repeat (first | apply zz12 | apply zz13 | apply zz14));exact HO_3.out,by repeat first | exact HB.out | apply zz2 | apply zz0 | apply zz1⟩
  ·rw [if_neg c3] at H
   exact absurd H (by simp)
 ·rw [if_neg c2] at H
  exact absurd H (by simp)

/-! ### laws_eqIntS: function 17 -/
def laws_eqIntS.l0:Nat→List Int→List Int→Int→Option (Bool)
 | 0,_,_,_=>none
 | k+1,x0,x1,x5=>if x5 < (x0.length:Int) then (if 0≤x5 then (if x5 < (x1.length:Int) then (if (rd x0 x5)=(rd x1 x5) then (laws_eqIntS.l0 k x0 x1 (wrap64 (x5+1))) else (some false)) else (none)) else (none)) else (some true)
def laws_eqIntS.f (k:Nat) (l0:List Int) (l1:List Int):Option (Bool):=if (l0.length:Int)=(l1.length:Int) then (laws_eqIntS.l0 k l0 l1 0) else (some false)
theorem laws_eqIntS.mono_l:∀ k,(∀ y0 y1 y2,LeO (laws_eqIntS.l0 k y0 y1 y2) (laws_eqIntS.l0 (k+1) y0 y1 y2))
 | 0=>fun _ _ _ r h=>by simp [laws_eqIntS.l0] at h
 | k+1=>by
  have ih0:=laws_eqIntS.mono_l k
  ·intro y0 y1 y2
   unfold laws_eqIntS.l0
   repeat' first
   | (with_reducible exact ih0 _ _ _)
   | (with_reducible exact LeO.refl _)
   | (with_reducible exact LeO.none _)
   | (with_reducible refine LeO.ite ?_ ?_)
   | (with_reducible refine LeO.bind ?_ (fun _=>?_))
   | exact ih0 _ _ _
   | exact LeO.none _
   | refine LeO.ite ?_ ?_
   | refine LeO.bind ?_ (fun _=>?_)
theorem laws_eqIntS.mono:∀ a0 a1 k,LeO (laws_eqIntS.f k a0 a1) (laws_eqIntS.f (k+1) a0 a1):=by
 intro a0 a1 k
 have ih0:=laws_eqIntS.mono_l k
 unfold laws_eqIntS.f
 repeat' first
   | (with_reducible exact ih0 _ _ _)
   | (with_reducible exact LeO.refl _)
   | (with_reducible exact LeO.none _)
   | (with_reducible refine LeO.ite ?_ ?_)
   | (with_reducible refine LeO.bind ?_ (fun _=>?_))
   | exact ih0 _ _ _
   | exact LeO.none _
   | refine LeO.ite ?_ ?_
   | refine LeO.bind ?_ (fun _=>?_)
set_option maxHeartbeats 8000000 in
set_option maxRecDepth 100000 in
theorem laws_eqIntS.calls (k:Nat) (A0:Option Addr) (c0:Nat) (l0:List Int) (A1:Option Addr) (c1:Nat) (l1:List Int) (r:Bool) (w:World) (hr0:Kd.C (Kd.int .i64) w A0 l0.length l0) (hc0:l0.length≤c0) (hr1:Kd.C (Kd.int .i64) w A1 l1.length l1) (hc1:l1.length≤c1) (h:laws_eqIntS.f k l0 l1=some r) :
  Calls Try.prog 17 #[.slice A0 l0.length c0,.slice A1 l1.length c1] w fun e w'=>e=.returned (.bool r)∧Drawn0 w w':=by
 have HR0:=zz31 hr0
 have HC0:=zz31 hc0
 clear hr0 hc0
 have HR1:=zz31 hr1
 have HC1:=zz31 hc1
 clear hr1 hc1
 have H:(if (l0.length:Int)=(l1.length:Int) then (laws_eqIntS.l0 k l0 l1 0) else (some false))=some r:=h
 clear h
 by_cases c3:(l0.length:Int)=(l1.length:Int)
 ·rw [if_pos c3] at H
  have c3b0:((l0.length:Int) == (l1.length:Int))=true:=beq_iff_eq.mpr c3
  have c3b1:((l0.length:Int) != (l1.length:Int))=false:=bne_eq_false_iff_eq.mpr c3
  have c3b2:(l0.length == l1.length)=true:=by first | simpa using c3 | (simp at c3 ⊢;omega)
  clear c3
  have H':=zz31 H
  clear H
  go_enter Try.func17,Try.ntmps17
  go_wp2
  repeat (go_quiet (fail);try go_wp2)
  go_loopg [5] k (fun kq v5 w'=>∃ (x5_1:Int),v5=.int .i64 x5_1∧Aside0 (laws_eqIntS.l0 kq l0 l1 x5_1=some r)∧Aside0 (kq≤k)∧Drawn0 w w')
  case atStart=>exact ⟨(0),(by first | rfl | (simp;done) | (simp [*];done)),H',⟨Nat.le_refl _⟩,by repeat (first | exact Drawn0.refl _ | apply Drawn0.step)⟩
  case round =>
   clear H'
   try clear c1
   try clear p2
   try clear c3
   try clear c3b0
   try clear c3b1
   try clear c3b2
   obtain ⟨x5_1,rfl,HA,HK1,⟨m1,rfl⟩⟩:=hrel
   cases gk with
   | zero=>exact absurd HA.out (by simp [laws_eqIntS.l0])
   | succ k1 =>
    have H:=HA.out
    clear HA
    simp only [laws_eqIntS.l0] at H
    by_cases c4:x5_1 < (l0.length:Int)
    ·rw [if_pos c4] at H
     have c4b0:decide (x5_1 < (l0.length:Int))=true:=decide_eq_true c4
     clear c4
     by_cases c5:0≤x5_1
     ·rw [if_pos c5] at H
      have c5b0:decide (0≤x5_1)=true:=decide_eq_true c5
      clear c5
      by_cases c6:x5_1 < (l1.length:Int)
      ·rw [if_pos c6] at H
       have c6b0:decide (x5_1 < (l1.length:Int))=true:=decide_eq_true c6
       clear c6
       by_cases c7:(rd l0 x5_1)=(rd l1 x5_1)
       ·rw [if_pos c7] at H
        have c7b0:((rd l0 x5_1) == (rd l1 x5_1))=true:=beq_iff_eq.mpr c7
        have c7b1:((rd l0 x5_1) != (rd l1 x5_1))=false:=bne_eq_false_iff_eq.mpr c7
        clear c7
        have H':=zz31 H
        clear H
        have p106:0≤(x5_1:Int):=zz29 (by first | (with_reducible assumption) | assumption)
        have q106:x5_1 < (l0.length:Int):=zz29 (by first | (with_reducible assumption) | assumption)
        obtain ⟨ad106,e106,hx106_0⟩:=Kd.at_int HR0.out x5_1 p106 q106
        cases e106
        replace p106:=eq_true p106
        replace q106:=eq_true q106
        have p107:0≤(x5_1:Int):=zz29 (by first | (with_reducible assumption) | assumption)
        have q107:x5_1 < (l1.length:Int):=zz29 (by first | (with_reducible assumption) | assumption)
        obtain ⟨ad107,e107,hx107_0⟩:=Kd.at_int HR1.out x5_1 p107 q107
        cases e107
        replace p107:=eq_true p107
        replace q107:=eq_true q107
        go_wp2
        repeat (go_quiet (fail);try go_wp2)
        go_roundg k1
        case measure=>have:=HK1.out;omega
        case rel=>exact ⟨(wrap64 (x5_1+1)),(by first | rfl | (simp;done) | (simp [*];done)),H',⟨by have:=HK1.out;omega⟩,by repeat (first | exact Drawn0.refl _ | apply Drawn0.step)⟩
       ·rw [if_neg c7] at H
        have c7b0:((rd l0 x5_1) == (rd l1 x5_1))=false:=beq_eq_false_iff_ne.mpr c7
        have c7b1:((rd l0 x5_1) != (rd l1 x5_1))=true:=bne_iff_ne.mpr c7
        obtain rfl:=Option.some.inj H
        have p106:0≤(x5_1:Int):=zz29 (by first | (with_reducible assumption) | assumption)
        have q106:x5_1 < (l0.length:Int):=zz29 (by first | (with_reducible assumption) | assumption)
        obtain ⟨ad106,e106,hx106_0⟩:=Kd.at_int HR0.out x5_1 p106 q106
        cases e106
        replace p106:=eq_true p106
        replace q106:=eq_true q106
        have p107:0≤(x5_1:Int):=zz29 (by first | (with_reducible assumption) | assumption)
        have q107:x5_1 < (l1.length:Int):=zz29 (by first | (with_reducible assumption) | assumption)
        obtain ⟨ad107,e107,hx107_0⟩:=Kd.at_int HR1.out x5_1 p107 q107
        cases e107
        replace p107:=eq_true p107
        replace q107:=eq_true q107
        go_wp2
        repeat (go_quiet (fail);try go_wp2)
        go_ret
        exact ⟨by first | rfl | (simp;done) | (simp [*];done),by repeat (first | exact Drawn0.refl _ | apply Drawn0.step)⟩
      ·rw [if_neg c6] at H
       exact absurd H (by simp)
     ·rw [if_neg c5] at H
      exact absurd H (by simp)
    ·rw [if_neg c4] at H
     have c4b0:decide (x5_1 < (l0.length:Int))=false:=decide_eq_false c4
     clear c4
     obtain rfl:=Option.some.inj H
     go_wp2
     repeat (go_quiet (fail);try go_wp2)
     go_ret
     exact ⟨by first | rfl | (simp;done) | (simp [*];done),by repeat (first | exact Drawn0.refl _ | apply Drawn0.step)⟩
 ·rw [if_neg c3] at H
  have c3b0:((l0.length:Int) == (l1.length:Int))=false:=beq_eq_false_iff_ne.mpr c3
  have c3b1:((l0.length:Int) != (l1.length:Int))=true:=bne_iff_ne.mpr c3
  have c3b2:(l0.length == l1.length)=false:=by first | simpa using c3 | (simp at c3 ⊢;omega)
  obtain rfl:=Option.some.inj H
  go_enter Try.func17,Try.ntmps17
  go_wp2
  repeat (go_quiet (fail);try go_wp2)
  go_ret
  exact ⟨by first | rfl | (simp;done) | (simp [*];done),by repeat (first | exact Drawn0.refl _ | apply Drawn0.step)⟩

/-! ### laws_eqPair: function 89 -/
def laws_eqPair.f (a0_0:Int) (a0_1:Int) (a1_0:Int) (a1_1:Int):Option (Bool):=if a0_0=a1_0 then (if a0_1=a1_1 then (some true) else (some false)) else (some false)
set_option maxHeartbeats 8000000 in
set_option maxRecDepth 100000 in
theorem laws_eqPair.calls (a0_0:Int) (a0_1:Int) (a1_0:Int) (a1_1:Int) (r:Bool) (w:World) (h:laws_eqPair.f a0_0 a0_1 a1_0 a1_1=some r) :
  Calls Try.prog 89 #[.agg #[.int .i64 a0_0,.int .i64 a0_1],.agg #[.int .i64 a1_0,.int .i64 a1_1]] w fun e w'=>e=.returned (.bool r)∧Below w.heap.size w w':=by
 have hu80:=Try.underlying80
 have HB:=zz31 (Below.refl w.heap.size w)
 have H:(if a0_0=a1_0 then (if a0_1=a1_1 then (some true) else (some false)) else (some false))=some r:=h
 clear h
 by_cases c3:a0_0=a1_0
 ·rw [if_pos c3] at H
  have c3b0:(a0_0 == a1_0)=true:=beq_iff_eq.mpr c3
  have c3b1:(a0_0 != a1_0)=false:=bne_eq_false_iff_eq.mpr c3
  clear c3
  by_cases c4:a0_1=a1_1
  ·rw [if_pos c4] at H
   have c4b0:(a0_1 == a1_1)=true:=beq_iff_eq.mpr c4
   have c4b1:(a0_1 != a1_1)=false:=bne_eq_false_iff_eq.mpr c4
   clear c4
   obtain rfl:=Option.some.inj H
   go_enter Try.func89,Try.ntmps89
   go_wp2_with (first | ((with_reducible refine gate_dst (N:=2) rfl ?_);refine box_event ?hg (N:=2) ?hd (cs:=#[.int .i64 a0_0,.int .i64 a0_1]) (t:=80) ?hr ?_;(case hd=>rfl);(case hg=>rfl);(case hr=>first | (go_simp;done) | (go_simp;rfl));intro gb108 hg w5 hbox hb;have n0_:=zz31 (zz4 (by repeat first | exact HB.out | apply zz2 | apply zz0 | apply zz1) hb);have n1_:=zz31 (hbox);have n2_:=zz31 ((by rw [hg];exact (zz5 (by repeat first | exact HB.out | apply zz2 | apply zz0 | apply zz1)):w.heap.size≤gb108));have n3_:=zz31 ((by rw [hg];exact (zz5 (by repeat first | exact HB.out | apply zz2 | apply zz0 | apply zz1)):w.heap.size≤gb108));clear HB;have HB:=n0_;have BK108:=n1_;have GW108:=n2_;have GE108:=n3_;clear n0_ n1_ n2_ n3_;clear hb hbox hg) | ((with_reducible refine gate_dst (N:=3) rfl ?_);refine box_event ?hg (N:=3) ?hd (cs:=#[.int .i64 a1_0,.int .i64 a1_1]) (t:=80) ?hr ?_;(case hd=>rfl);(case hg=>rfl);(case hr=>first | (go_simp;done) | (go_simp;rfl));intro gb109 hg w6 hbox hb;have n0_:=zz31 (zz11 (g:=gb108) (o:=.cells #[.int .i64 a0_0,.int .i64 a0_1] 80 (0,0)) (by (with_reducible repeat (first | refine zz6 ?_ _ | refine zz7 ?_ | refine zz8 ?_ _));exact BK108.out) hb);have n1_:=zz31 (zz4 (by repeat first | exact HB.out | apply zz2 | apply zz0 | apply zz1 | refine zz3 ?_ GE108.out) hb);have n2_:=zz31 (hbox);have n3_:=zz31 ((by rw [hg];exact (zz5 (by repeat first | exact HB.out | apply zz2 | apply zz0 | apply zz1 | refine zz3 ?_ GE108.out)):w.heap.size≤gb109));have n4_:=zz31 ((by rw [hg];exact (zz5 (by repeat first | exact HB.out | apply zz2 | apply zz0 | apply zz1 | refine zz3 ?_ GE108.out)):w.heap.size≤gb109));have n5_:=zz31 ((by rw [hg];exact Nat.ne_of_lt (blk_lt (g:=gb108) (o:=.cells #[.int .i64 a0_0,.int .i64 a0_1] 80 (0,0)) (by (with_reducible repeat (first | refine zz6 ?_ _ | refine zz7 ?_ | refine zz8 ?_ _));exact BK108.out)):gb108 ≠ gb109));have n6_:=zz31 ((by rw [hg];exact Nat.ne_of_gt (blk_lt (g:=gb108) (o:=.cells #[.int .i64 a0_0,.int .i64 a0_1] 80 (0,0)) (by (with_reducible repeat (first | refine zz6 ?_ _ | refine zz7 ?_ | refine zz8 ?_ _));exact BK108.out)):gb109 ≠ gb108));clear BK108;clear HB;have BK108:=n0_;have HB:=n1_;have BK109:=n2_;have GW109:=n3_;have GE109:=n4_;have NB108_109:=n5_;have NB109_108:=n6_;clear n0_ n1_ n2_ n3_ n4_ n5_ n6_;clear hb hbox hg;have hnb7:=NB108_109.out;have hnc7:=NB109_108.out;have hcz8_0:w6.cell? ⟨gb108,0,none⟩=some (.int .i64 a0_0):=(zz9 BK108.out 0).trans rfl;have hcz8_1:w6.cell? ⟨gb108,1,none⟩=some (.int .i64 a0_1):=(zz9 BK108.out 1).trans rfl;have hfz8_0:=zz10 BK108.out 0;have hfz8_1:=zz10 BK108.out 1;have hcz9_0:w6.cell? ⟨gb109,0,none⟩=some (.int .i64 a1_0):=(zz9 BK109.out 0).trans rfl;have hcz9_1:w6.cell? ⟨gb109,1,none⟩=some (.int .i64 a1_1):=(zz9 BK109.out 1).trans rfl;have hfz9_0:=zz10 BK109.out 0;have hfz9_1:=zz10 BK109.out 1))
   go_ret
   exact ⟨by first | rfl | (simp [errW_none,errW_some] <;> rfl) | (simp [*,errW_none,errW_some] <;> rfl),by repeat first | exact HB.out | apply zz2 | apply zz0 | apply zz1 | refine zz3 ?_ GE108.out | refine zz3 ?_ GE109.out⟩
  ·rw [if_neg c4] at H
   have c4b0:(a0_1 == a1_1)=false:=beq_eq_false_iff_ne.mpr c4
   have c4b1:(a0_1 != a1_1)=true:=bne_iff_ne.mpr c4
   obtain rfl:=Option.some.inj H
   go_enter Try.func89,Try.ntmps89
   go_wp2_with (first | ((with_reducible refine gate_dst (N:=2) rfl ?_);refine box_event ?hg (N:=2) ?hd (cs:=#[.int .i64 a0_0,.int .i64 a0_1]) (t:=80) ?hr ?_;(case hd=>rfl);(case hg=>rfl);(case hr=>first | (go_simp;done) | (go_simp;rfl));intro gb108 hg w10 hbox hb;have n0_:=zz31 (zz4 (by repeat first | exact HB.out | apply zz2 | apply zz0 | apply zz1) hb);have n1_:=zz31 (hbox);have n2_:=zz31 ((by rw [hg];exact (zz5 (by repeat first | exact HB.out | apply zz2 | apply zz0 | apply zz1)):w.heap.size≤gb108));have n3_:=zz31 ((by rw [hg];exact (zz5 (by repeat first | exact HB.out | apply zz2 | apply zz0 | apply zz1)):w.heap.size≤gb108));clear HB;have HB:=n0_;have BK108:=n1_;have GW108:=n2_;have GE108:=n3_;clear n0_ n1_ n2_ n3_;clear hb hbox hg) | ((with_reducible refine gate_dst (N:=3) rfl ?_);refine box_event ?hg (N:=3) ?hd (cs:=#[.int .i64 a1_0,.int .i64 a1_1]) (t:=80) ?hr ?_;(case hd=>rfl);(case hg=>rfl);(case hr=>first | (go_simp;done) | (go_simp;rfl));intro gb109 hg w11 hbox hb;have n0_:=zz31 (zz11 (g:=gb108) (o:=.cells #[.int .i64 a0_0,.int .i64 a0_1] 80 (0,0)) (by (with_reducible repeat (first | refine zz6 ?_ _ | refine zz7 ?_ | refine zz8 ?_ _));exact BK108.out) hb);have n1_:=zz31 (zz4 (by repeat first | exact HB.out | apply zz2 | apply zz0 | apply zz1 | refine zz3 ?_ GE108.out) hb);have n2_:=zz31 (hbox);have n3_:=zz31 ((by rw [hg];exact (zz5 (by repeat first | exact HB.out | apply zz2 | apply zz0 | apply zz1 | refine zz3 ?_ GE108.out)):w.heap.size≤gb109));have n4_:=zz31 ((by rw [hg];exact (zz5 (by repeat first | exact HB.out | apply zz2 | apply zz0 | apply zz1 | refine zz3 ?_ GE108.out)):w.heap.size≤gb109));have n5_:=zz31 ((by rw [hg];exact Nat.ne_of_lt (blk_lt (g:=gb108) (o:=.cells #[.int .i64 a0_0,.int .i64 a0_1] 80 (0,0)) (by (with_reducible repeat (first | refine zz6 ?_ _ | refine zz7 ?_ | refine zz8 ?_ _));exact BK108.out)):gb108 ≠ gb109));have n6_:=zz31 ((by rw [hg];exact Nat.ne_of_gt (blk_lt (g:=gb108) (o:=.cells #[.int .i64 a0_0,.int .i64 a0_1] 80 (0,0)) (by (with_reducible repeat (first | refine zz6 ?_ _ | refine zz7 ?_ | refine zz8 ?_ _));exact BK108.out)):gb109 ≠ gb108));clear BK108;clear HB;have BK108:=n0_;have HB:=n1_;have BK109:=n2_;have GW109:=n3_;have GE109:=n4_;have NB108_109:=n5_;have NB109_108:=n6_;clear n0_ n1_ n2_ n3_ n4_ n5_ n6_;clear hb hbox hg;have hnb12:=NB108_109.out;have hnc12:=NB109_108.out;have hcz13_0:w11.cell? ⟨gb108,0,none⟩=some (.int .i64 a0_0):=(zz9 BK108.out 0).trans rfl;have hcz13_1:w11.cell? ⟨gb108,1,none⟩=some (.int .i64 a0_1):=(zz9 BK108.out 1).trans rfl;have hfz13_0:=zz10 BK108.out 0;have hfz13_1:=zz10 BK108.out 1;have hcz14_0:w11.cell? ⟨gb109,0,none⟩=some (.int .i64 a1_0):=(zz9 BK109.out 0).trans rfl;have hcz14_1:w11.cell? ⟨gb109,1,none⟩=some (.int .i64 a1_1):=(zz9 BK109.out 1).trans rfl;have hfz14_0:=zz10 BK109.out 0;have hfz14_1:=zz10 BK109.out 1))
   go_ret
   exact ⟨by first | rfl | (simp [errW_none,errW_some] <;> rfl) | (simp [*,errW_none,errW_some] <;> rfl),by repeat first | exact HB.out | apply zz2 | apply zz0 | apply zz1 | refine zz3 ?_ GE108.out | refine zz3 ?_ GE109.out⟩
 ·rw [if_neg c3] at H
  have c3b0:(a0_0 == a1_0)=false:=beq_eq_false_iff_ne.mpr c3
  have c3b1:(a0_0 != a1_0)=true:=bne_iff_ne.mpr c3
  obtain rfl:=Option.some.inj H
  go_enter Try.func89,Try.ntmps89
  go_wp2_with (first | ((with_reducible refine gate_dst (N:=2) rfl ?_);refine box_event ?hg (N:=2) ?hd (cs:=#[.int .i64 a0_0,.int .i64 a0_1]) (t:=80) ?hr ?_;(case hd=>rfl);(case hg=>rfl);(case hr=>first | (go_simp;done) | (go_simp;rfl));intro gb108 hg w15 hbox hb;have n0_:=zz31 (zz4 (by repeat first | exact HB.out | apply zz2 | apply zz0 | apply zz1) hb);have n1_:=zz31 (hbox);have n2_:=zz31 ((by rw [hg];exact (zz5 (by repeat first | exact HB.out | apply zz2 | apply zz0 | apply zz1)):w.heap.size≤gb108));have n3_:=zz31 ((by rw [hg];exact (zz5 (by repeat first | exact HB.out | apply zz2 | apply zz0 | apply zz1)):w.heap.size≤gb108));clear HB;have HB:=n0_;have BK108:=n1_;have GW108:=n2_;have GE108:=n3_;clear n0_ n1_ n2_ n3_;clear hb hbox hg) | ((with_reducible refine gate_dst (N:=3) rfl ?_);refine box_event ?hg (N:=3) ?hd (cs:=#[.int .i64 a1_0,.int .i64 a1_1]) (t:=80) ?hr ?_;(case hd=>rfl);(case hg=>rfl);(case hr=>first | (go_simp;done) | (go_simp;rfl));intro gb109 hg w16 hbox hb;have n0_:=zz31 (zz11 (g:=gb108) (o:=.cells #[.int .i64 a0_0,.int .i64 a0_1] 80 (0,0)) (by (with_reducible repeat (first | refine zz6 ?_ _ | refine zz7 ?_ | refine zz8 ?_ _));exact BK108.out) hb);have n1_:=zz31 (zz4 (by repeat first | exact HB.out | apply zz2 | apply zz0 | apply zz1 | refine zz3 ?_ GE108.out) hb);have n2_:=zz31 (hbox);have n3_:=zz31 ((by rw [hg];exact (zz5 (by repeat first | exact HB.out | apply zz2 | apply zz0 | apply zz1 | refine zz3 ?_ GE108.out)):w.heap.size≤gb109));have n4_:=zz31 ((by rw [hg];exact (zz5 (by repeat first | exact HB.out | apply zz2 | apply zz0 | apply zz1 | refine zz3 ?_ GE108.out)):w.heap.size≤gb109));have n5_:=zz31 ((by rw [hg];exact Nat.ne_of_lt (blk_lt (g:=gb108) (o:=.cells #[.int .i64 a0_0,.int .i64 a0_1] 80 (0,0)) (by (with_reducible repeat (first | refine zz6 ?_ _ | refine zz7 ?_ | refine zz8 ?_ _));exact BK108.out)):gb108 ≠ gb109));have n6_:=zz31 ((by rw [hg];exact Nat.ne_of_gt (blk_lt (g:=gb108) (o:=.cells #[.int .i64 a0_0,.int .i64 a0_1] 80 (0,0)) (by (with_reducible repeat (first | refine zz6 ?_ _ | refine zz7 ?_ | refine zz8 ?_ _));exact BK108.out)):gb109 ≠ gb108));clear BK108;clear HB;have BK108:=n0_;have HB:=n1_;have BK109:=n2_;have GW109:=n3_;have GE109:=n4_;have NB108_109:=n5_;have NB109_108:=n6_;clear n0_ n1_ n2_ n3_ n4_ n5_ n6_;clear hb hbox hg;have hnb17:=NB108_109.out;have hnc17:=NB109_108.out;have hcz18_0:w16.cell? ⟨gb108,0,none⟩=some (.int .i64 a0_0):=(zz9 BK108.out 0).trans rfl;have hcz18_1:w16.cell? ⟨gb108,1,none⟩=some (.int .i64 a0_1):=(zz9 BK108.out 1).trans rfl;have hfz18_0:=zz10 BK108.out 0;have hfz18_1:=zz10 BK108.out 1;have hcz19_0:w16.cell? ⟨gb109,0,none⟩=some (.int .i64 a1_0):=(zz9 BK109.out 0).trans rfl;have hcz19_1:w16.cell? ⟨gb109,1,none⟩=some (.int .i64 a1_1):=(zz9 BK109.out 1).trans rfl;have hfz19_0:=zz10 BK109.out 0;have hfz19_1:=zz10 BK109.out 1))
  go_ret
  exact ⟨by first | rfl | (simp [errW_none,errW_some] <;> rfl) | (simp [*,errW_none,errW_some] <;> rfl),by repeat first | exact HB.out | apply zz2 | apply zz0 | apply zz1 | refine zz3 ?_ GE108.out | refine zz3 ?_ GE109.out⟩

/-! ### laws_eqPairS: function 53 -/
def laws_eqPairS.l0:Nat→List (S80)→List (S80)→Int→Option (Bool)
 | 0,_,_,_=>none
 | k+1,x0,x1,x5=>if x5 < (x0.length:Int) then (if 0≤x5 then (if x5 < (x1.length:Int) then ((laws_eqPair.f ((rd_T80 x0 x5).f0) ((rd_T80 x0 x5).f1) ((rd_T80 x1 x5).f0) ((rd_T80 x1 x5).f1)).bind fun t112=>(if t112=true then (laws_eqPairS.l0 k x0 x1 (wrap64 (x5+1))) else (some false))) else (none)) else (none)) else (some true)
def laws_eqPairS.f (k:Nat) (l0:List (S80)) (l1:List (S80)):Option (Bool):=if (l0.length:Int)=(l1.length:Int) then (laws_eqPairS.l0 k l0 l1 0) else (some false)
theorem laws_eqPairS.mono_l:∀ k,(∀ y0 y1 y2,LeO (laws_eqPairS.l0 k y0 y1 y2) (laws_eqPairS.l0 (k+1) y0 y1 y2))
 | 0=>fun _ _ _ r h=>by simp [laws_eqPairS.l0] at h
 | k+1=>by
  have ih0:=laws_eqPairS.mono_l k
  ·intro y0 y1 y2
   unfold laws_eqPairS.l0
   repeat' first
   | (with_reducible exact ih0 _ _ _)
   | (with_reducible exact LeO.refl _)
   | (with_reducible exact LeO.none _)
   | (with_reducible refine LeO.ite ?_ ?_)
   | (with_reducible refine LeO.bind ?_ (fun _=>?_))
   | exact ih0 _ _ _
   | exact LeO.none _
   | refine LeO.ite ?_ ?_
   | refine LeO.bind ?_ (fun _=>?_)
theorem laws_eqPairS.mono:∀ a0 a1 k,LeO (laws_eqPairS.f k a0 a1) (laws_eqPairS.f (k+1) a0 a1):=by
 intro a0 a1 k
 have ih0:=laws_eqPairS.mono_l k
 unfold laws_eqPairS.f
 repeat' first
   | (with_reducible exact ih0 _ _ _)
   | (with_reducible exact LeO.refl _)
   | (with_reducible exact LeO.none _)
   | (with_reducible refine LeO.ite ?_ ?_)
   | (with_reducible refine LeO.bind ?_ (fun _=>?_))
   | exact ih0 _ _ _
   | exact LeO.none _
   | refine LeO.ite ?_ ?_
   | refine LeO.bind ?_ (fun _=>?_)
def laws_eqPairS.T6:Bool × List (List Nat × List Nat):=(true,[([],[]),([],[]),([0,1],[0,1]),([2],[2]),([],[]),([],[]),([4,5],[4,5]),([6],[6]),([3,7],[3,7]),([8],[8])])
def laws_eqPairS.B6:List Nat:=[0,0,3,7,0,0,48,112,255,511]
theorem laws_eqPairS.tab6:rtab .any (opsOf Try.f53 6)=laws_eqPairS.T6:=by kernel_rfl
theorem laws_eqPairS.bits6:waitsOk laws_eqPairS.T6.2 laws_eqPairS.B6=true:=by kernel_rfl
set_option maxHeartbeats 8000000 in
set_option maxRecDepth 100000 in
theorem laws_eqPairS.calls (k:Nat) (A0:Option Addr) (c0:Nat) (l0:List (S80)) (A1:Option Addr) (c1:Nat) (l1:List (S80)) (r:Bool) (w:World) (hr0:Kd.C k80 w A0 l0.length l0) (hc0:l0.length≤c0) (hr1:Kd.C k80 w A1 l1.length l1) (hc1:l1.length≤c1) (h:laws_eqPairS.f k l0 l1=some r) :
  Calls Try.prog 53 #[.slice A0 l0.length c0,.slice A1 l1.length c1] w fun e w'=>e=.returned (.bool r)∧Below w.heap.size w w':=by
 have hu80:=Try.underlying80
 have HR0:=zz31 hr0
 have HC0:=zz31 hc0
 clear hr0 hc0
 have HR1:=zz31 hr1
 have HC1:=zz31 hc1
 clear hr1 hc1
 have HB:=zz31 (Below.refl w.heap.size w)
 have H:(if (l0.length:Int)=(l1.length:Int) then (laws_eqPairS.l0 k l0 l1 0) else (some false))=some r:=h
 clear h
 by_cases c3:(l0.length:Int)=(l1.length:Int)
 ·rw [if_pos c3] at H
  have c3b0:((l0.length:Int) == (l1.length:Int))=true:=beq_iff_eq.mpr c3
  have c3b1:((l0.length:Int) != (l1.length:Int))=false:=bne_eq_false_iff_eq.mpr c3
  have c3b2:(l0.length == l1.length)=true:=by first | simpa using c3 | (simp at c3 ⊢;omega)
  clear c3
  have H':=zz31 H
  clear H
  go_enter Try.func53,Try.ntmps53
  go_wp2
  go_loopg [5] k (fun kq v5 w'=>∃ (x5_1:Int),v5=.int .i64 x5_1∧Aside0 (laws_eqPairS.l0 kq l0 l1 x5_1=some r)∧Aside0 (kq≤k)∧Aside0 (Below w.heap.size w w'))
  case atStart=>exact ⟨(0),(by first | rfl | (simp;done) | (simp [*];done)),H',⟨Nat.le_refl _⟩,⟨by repeat first | exact HB.out | apply zz2 | apply zz0 | apply zz1⟩⟩
  case round =>
   clear H'
   try clear c1
   try clear p2
   try clear c3
   try clear c3b0
   try clear c3b1
   try clear c3b2
   obtain ⟨x5_1,rfl,HA,HK1,HB⟩:=hrel
   cases gk with
   | zero=>exact absurd HA.out (by simp [laws_eqPairS.l0])
   | succ k1 =>
    have H:=HA.out
    clear HA
    simp only [laws_eqPairS.l0] at H
    by_cases c4:x5_1 < (l0.length:Int)
    ·rw [if_pos c4] at H
     have c4b0:decide (x5_1 < (l0.length:Int))=true:=decide_eq_true c4
     clear c4
     by_cases c5:0≤x5_1
     ·rw [if_pos c5] at H
      have c5b0:decide (0≤x5_1)=true:=decide_eq_true c5
      clear c5
      by_cases c6:x5_1 < (l1.length:Int)
      ·rw [if_pos c6] at H
       have c6b0:decide (x5_1 < (l1.length:Int))=true:=decide_eq_true c6
       clear c6
       replace H:=zz30.mp H
       obtain ⟨t112,A70,H⟩:=H
       replace H:(if t112=true then (laws_eqPairS.l0 k1 l0 l1 (wrap64 (x5_1+1))) else (some false))=some r:=H
       have A7:=zz31 A70
       clear A70
       by_cases c8:t112=true
       ·subst c8
        have H1:(laws_eqPairS.l0 k1 l0 l1 (wrap64 (x5_1+1)))=some r:=by rw [if_pos rfl] at H;exact H
        clear H
        have H:=H1
        clear H1
        have H':=zz31 H
        clear H
        try go_wp2
        have n0_:=zz31 (zz1 HB.out)
        clear HB
        have HB:=n0_
        clear n0_
        have p110:0≤(x5_1:Int):=zz29 (by first | (with_reducible assumption) | assumption)
        have q110:x5_1 < (l0.length:Int):=zz29 (by first | (with_reducible assumption) | assumption)
        obtain ⟨ad110,e110,hx110_0,hx110_1⟩:=at_T80 HR0.out x5_1 p110 q110
        have hw110_1:=hx110_1
        have hw110_0:=hx110_0
        cases e110
        try replace hx110_0:=(HB.out.cell (World.block_lt_of_cell? w _ hx110_0)).trans hx110_0
        try replace hx110_1:=(HB.out.cell (World.block_lt_of_cell? w _ hx110_1)).trans hx110_1
        replace p110:=eq_true p110
        replace q110:=eq_true q110
        have p111:0≤(x5_1:Int):=zz29 (by first | (with_reducible assumption) | assumption)
        have q111:x5_1 < (l1.length:Int):=zz29 (by first | (with_reducible assumption) | assumption)
        obtain ⟨ad111,e111,hx111_0,hx111_1⟩:=at_T80 HR1.out x5_1 p111 q111
        have hw111_1:=hx111_1
        have hw111_0:=hx111_0
        cases e111
        try replace hx111_0:=(HB.out.cell (World.block_lt_of_cell? w _ hx111_0)).trans hx111_0
        try replace hx111_1:=(HB.out.cell (World.block_lt_of_cell? w _ hx111_1)).trans hx111_1
        replace p111:=eq_true p111
        replace q111:=eq_true q111
        refine start_ (n:=10) (S:=fun w'=>w'.cell? (ad110.add ((x5_1).toNat * 2))=some (.int .i64 ((rd_T80 l0 x5_1).f0))∧w'.cell? ⟨(ad110.add ((x5_1).toNat * 2)).block,(ad110.add ((x5_1).toNat * 2)).off+1,none⟩=some (.int .i64 ((rd_T80 l0 x5_1).f1))∧w'.cell? (ad111.add ((x5_1).toNat * 2))=some (.int .i64 ((rd_T80 l1 x5_1).f0))∧w'.cell? ⟨(ad111.add ((x5_1).toNat * 2)).block,(ad111.add ((x5_1).toNat * 2)).off+1,none⟩=some (.int .i64 ((rd_T80 l1 x5_1).f1))) (ds:=[]) #[F,F,F,F,F,F,F,F,F,F] (by kernel_rfl) rfl rfl ⟨((HB.out.cell (World.block_lt_of_cell? w _ hw110_0)).trans hw110_0),((HB.out.cell (World.block_lt_of_cell? w _ hw110_1)).trans hw110_1),((HB.out.cell (World.block_lt_of_cell? w _ hw111_0)).trans hw111_0),((HB.out.cell (World.block_lt_of_cell? w _ hw111_1)).trans hw111_1)⟩ (fun hHeld=>?_);refine with_tabW laws_eqPairS.tab6 laws_eqPairS.bits6 (fun HT_ HW_=>?_)
        generalize wr.drew=w9 at HB hx110_0 hx110_1 hx111_0 hx111_1 hHeld ⊢
        refine pure_ (i:=0) (N:=some 17) (v:=?_) (a':=?_) #[T,F,F,F,F,F,F,F,F,F] rfl rfl (any_of HT_.out (by kernel_rfl)) (fun _ _ _ h=>h) (Or.inl ⟨by rfl,?_⟩) ?_ ?_
        rotate_left
        ·intro w'
         go_simp
         with_reducible rfl
        rotate_left
        ·simp only [Act.put,zz21,zz22,zz23,i64_w,i32_w]
         rfl
        refine pure_ (i:=1) (N:=some 18) (v:=?_) (a':=?_) #[T,T,F,F,F,F,F,F,F,F] rfl rfl (any_of HT_.out (by kernel_rfl)) (fun _ _ _ h=>h) (Or.inl ⟨by rfl,?_⟩) ?_ ?_
        rotate_left
        ·intro w'
         go_simp
         with_reducible rfl
        rotate_left
        ·simp only [Act.put,zz21,zz22,zz23,i64_w,i32_w]
         rfl
        refine pure_ (i:=2) (N:=some 19) (v:=?_) (a':=?_) #[T,T,T,F,F,F,F,F,F,F] rfl rfl (any_of HT_.out (by kernel_rfl)) (fun _ _ _ h=>h) (Or.inl ⟨by rfl,?_⟩) ?_ ?_
        rotate_left
        ·intro w'
         go_simp
         with_reducible rfl
        rotate_left
        ·simp only [Act.put,zz21,zz22,zz23,i64_w,i32_w]
         rfl
        refine pure_ (i:=4) (N:=some 21) (v:=?_) (a':=?_) #[T,T,T,F,T,F,F,F,F,F] rfl rfl (any_of HT_.out (by kernel_rfl)) (fun _ _ _ h=>h) (Or.inl ⟨by rfl,?_⟩) ?_ ?_
        rotate_left
        ·intro w'
         go_simp
         with_reducible rfl
        rotate_left
        ·simp only [Act.put,zz21,zz22,zz23,i64_w,i32_w]
         rfl
        refine pure_ (i:=5) (N:=some 22) (v:=?_) (a':=?_) #[T,T,T,F,T,T,F,F,F,F] rfl rfl (any_of HT_.out (by kernel_rfl)) (fun _ _ _ h=>h) (Or.inl ⟨by rfl,?_⟩) ?_ ?_
        rotate_left
        ·intro w'
         go_simp
         with_reducible rfl
        rotate_left
        ·simp only [Act.put,zz21,zz22,zz23,i64_w,i32_w]
         rfl
        refine pure_ (i:=6) (N:=some 23) (v:=?_) (a':=?_) #[T,T,T,F,T,T,T,F,F,F] rfl rfl (any_of HT_.out (by kernel_rfl)) (fun _ _ _ h=>h) (Or.inl ⟨by rfl,?_⟩) ?_ ?_
        rotate_left
        ·intro w'
         go_simp
         with_reducible rfl
        rotate_left
        ·simp only [Act.put,zz21,zz22,zz23,i64_w,i32_w]
         rfl
        refine take_ (i:=3) (N:=some 20) (v:=?_) (a':=?_) #[T,T,T,T,T,T,T,F,F,F] rfl rfl (take_ofW HT_.out HW_.out (by kernel_rfl)) (fun _ _ _ h=>h) (Or.inl ⟨by rfl,?_⟩) hHeld ?_ ?_
        rotate_left
        ·rintro w' ⟨s0,s1,s2,s3⟩
         go_simp
         with_reducible rfl
        rotate_left
        ·simp only [Act.put,zz21,zz22,zz23,i64_w,i32_w]
         rfl
        refine take_ (i:=7) (N:=some 24) (v:=?_) (a':=?_) #[T,T,T,T,T,T,T,T,F,F] rfl rfl (take_ofW HT_.out HW_.out (by kernel_rfl)) (fun _ _ _ h=>h) (Or.inl ⟨by rfl,?_⟩) hHeld ?_ ?_
        rotate_left
        ·rintro w' ⟨s0,s1,s2,s3⟩
         go_simp
         with_reducible rfl
        rotate_left
        ·simp only [Act.put,zz21,zz22,zz23,i64_w,i32_w]
         rfl
        refine one_ (i:=8) (N:=some 25) #[T,T,T,T,T,T,T,T,T,F] rfl rfl (one_of HT_.out (by kernel_rfl)) (by decide) (fun K hK=>?_)
        refine goes_ Try.func89 (by kernel_rfl) rfl #[.agg #[.int .i64 ((rd_T80 l0 x5_1).f0),.int .i64 ((rd_T80 l0 x5_1).f1)],.agg #[.int .i64 ((rd_T80 l1 x5_1).f0),.int .i64 ((rd_T80 l1 x5_1).f1)]] (by rfl) rfl rfl (by (try simp only [zz26,zz27,zz28]);first | done | rfl | (simp only [zz24,zz25];rfl)) ?_
        with_reducible refine (laws_eqPair.calls ((rd_T80 l0 x5_1).f0) ((rd_T80 l0 x5_1).f1) ((rd_T80 l1 x5_1).f0) ((rd_T80 l1 x5_1).f1) true _ A7.out).mono ?_
        rintro e w10 ⟨rfl,hb⟩
        refine ⟨_,rfl,?_⟩
        have n0_:=zz31 (zz4 (by repeat first | exact HB.out | apply zz2 | apply zz0 | apply zz1) hb)
        clear HB
        have HB:=n0_
        clear n0_
        (try clear hb)
        (try clear hb2)
        (try clear hk)
        (try clear hi)
        refine hK.out _ _ ⟨((HB.out.cell (World.block_lt_of_cell? w _ hw110_0)).trans hw110_0),((HB.out.cell (World.block_lt_of_cell? w _ hw110_1)).trans hw110_1),((HB.out.cell (World.block_lt_of_cell? w _ hw111_0)).trans hw111_0),((HB.out.cell (World.block_lt_of_cell? w _ hw111_1)).trans hw111_1)⟩ (fun hHeld=>?_)
        clear hK K
        refine norm_ (a':=?_) ?_ ?_
        rotate_left
        ·show Act.put _ (some 25) _=_
         simp only [Act.put,zz21,zz22,zz23,i64_w,i32_w]
         rfl
        refine pure_ (i:=9) (N:=some 26) (v:=?_) (a':=?_) #[T,T,T,T,T,T,T,T,T,T] rfl rfl (any_of HT_.out (by kernel_rfl)) (fun _ _ _ h=>h) (Or.inl ⟨by rfl,?_⟩) ?_ ?_
        rotate_left
        ·intro w'
         go_simp
         with_reducible rfl
        rotate_left
        ·simp only [Act.put,zz21,zz22,zz23,i64_w,i32_w]
         rfl
        refine done_ (done_of HT_.out (by kernel_rfl)) ?_
        try go_wp2
        go_roundg k1
        case measure=>have:=HK1.out;omega
        case rel=>exact ⟨(wrap64 (x5_1+1)),(by first | rfl | (simp;done) | (simp [*];done)),H',⟨by have:=HK1.out;omega⟩,⟨by repeat first | exact HB.out | apply zz2 | apply zz0 | apply zz1⟩⟩
       ·replace c8:=Bool.eq_false_iff.mpr c8
        subst c8
        have H1:(some false)=some r:=by rw [if_neg (show ¬ (false=true) by decide)] at H;exact H
        clear H
        have H:=H1
        clear H1
        obtain rfl:=Option.some.inj H
        try go_wp2
        have n0_:=zz31 (zz1 HB.out)
        clear HB
        have HB:=n0_
        clear n0_
        have p110:0≤(x5_1:Int):=zz29 (by first | (with_reducible assumption) | assumption)
        have q110:x5_1 < (l0.length:Int):=zz29 (by first | (with_reducible assumption) | assumption)
        obtain ⟨ad110,e110,hx110_0,hx110_1⟩:=at_T80 HR0.out x5_1 p110 q110
        have hw110_1:=hx110_1
        have hw110_0:=hx110_0
        cases e110
        try replace hx110_0:=(HB.out.cell (World.block_lt_of_cell? w _ hx110_0)).trans hx110_0
        try replace hx110_1:=(HB.out.cell (World.block_lt_of_cell? w _ hx110_1)).trans hx110_1
        replace p110:=eq_true p110
        replace q110:=eq_true q110
        have p111:0≤(x5_1:Int):=zz29 (by first | (with_reducible assumption) | assumption)
        have q111:x5_1 < (l1.length:Int):=zz29 (by first | (with_reducible assumption) | assumption)
        obtain ⟨ad111,e111,hx111_0,hx111_1⟩:=at_T80 HR1.out x5_1 p111 q111
        have hw111_1:=hx111_1
        have hw111_0:=hx111_0
        cases e111
        try replace hx111_0:=(HB.out.cell (World.block_lt_of_cell? w _ hx111_0)).trans hx111_0
        try replace hx111_1:=(HB.out.cell (World.block_lt_of_cell? w _ hx111_1)).trans hx111_1
        replace p111:=eq_true p111
        replace q111:=eq_true q111
        refine start_ (n:=10) (S:=fun w'=>w'.cell? (ad110.add ((x5_1).toNat * 2))=some (.int .i64 ((rd_T80 l0 x5_1).f0))∧w'.cell? ⟨(ad110.add ((x5_1).toNat * 2)).block,(ad110.add ((x5_1).toNat * 2)).off+1,none⟩=some (.int .i64 ((rd_T80 l0 x5_1).f1))∧w'.cell? (ad111.add ((x5_1).toNat * 2))=some (.int .i64 ((rd_T80 l1 x5_1).f0))∧w'.cell? ⟨(ad111.add ((x5_1).toNat * 2)).block,(ad111.add ((x5_1).toNat * 2)).off+1,none⟩=some (.int .i64 ((rd_T80 l1 x5_1).f1))) (ds:=[]) #[F,F,F,F,F,F,F,F,F,F] (by kernel_rfl) rfl rfl ⟨((HB.out.cell (World.block_lt_of_cell? w _ hw110_0)).trans hw110_0),((HB.out.cell (World.block_lt_of_cell? w _ hw110_1)).trans hw110_1),((HB.out.cell (World.block_lt_of_cell? w _ hw111_0)).trans hw111_0),((HB.out.cell (World.block_lt_of_cell? w _ hw111_1)).trans hw111_1)⟩ (fun hHeld=>?_);refine with_tabW laws_eqPairS.tab6 laws_eqPairS.bits6 (fun HT_ HW_=>?_)
        generalize wr.drew=w11 at HB hx110_0 hx110_1 hx111_0 hx111_1 hHeld ⊢
        refine pure_ (i:=0) (N:=some 17) (v:=?_) (a':=?_) #[T,F,F,F,F,F,F,F,F,F] rfl rfl (any_of HT_.out (by kernel_rfl)) (fun _ _ _ h=>h) (Or.inl ⟨by rfl,?_⟩) ?_ ?_
        rotate_left
        ·intro w'
         go_simp
         with_reducible rfl
        rotate_left
        ·simp only [Act.put,zz21,zz22,zz23,i64_w,i32_w]
         rfl
        refine pure_ (i:=1) (N:=some 18) (v:=?_) (a':=?_) #[T,T,F,F,F,F,F,F,F,F] rfl rfl (any_of HT_.out (by kernel_rfl)) (fun _ _ _ h=>h) (Or.inl ⟨by rfl,?_⟩) ?_ ?_
        rotate_left
        ·intro w'
         go_simp
         with_reducible rfl
        rotate_left
        ·simp only [Act.put,zz21,zz22,zz23,i64_w,i32_w]
         rfl
        refine pure_ (i:=2) (N:=some 19) (v:=?_) (a':=?_) #[T,T,T,F,F,F,F,F,F,F] rfl rfl (any_of HT_.out (by kernel_rfl)) (fun _ _ _ h=>h) (Or.inl ⟨by rfl,?_⟩) ?_ ?_
        rotate_left
        ·intro w'
         go_simp
         with_reducible rfl
        rotate_left
        ·simp only [Act.put,zz21,zz22,zz23,i64_w,i32_w]
         rfl
        refine pure_ (i:=4) (N:=some 21) (v:=?_) (a':=?_) #[T,T,T,F,T,F,F,F,F,F] rfl rfl (any_of HT_.out (by kernel_rfl)) (fun _ _ _ h=>h) (Or.inl ⟨by rfl,?_⟩) ?_ ?_
        rotate_left
        ·intro w'
         go_simp
         with_reducible rfl
        rotate_left
        ·simp only [Act.put,zz21,zz22,zz23,i64_w,i32_w]
         rfl
        refine pure_ (i:=5) (N:=some 22) (v:=?_) (a':=?_) #[T,T,T,F,T,T,F,F,F,F] rfl rfl (any_of HT_.out (by kernel_rfl)) (fun _ _ _ h=>h) (Or.inl ⟨by rfl,?_⟩) ?_ ?_
        rotate_left
        ·intro w'
         go_simp
         with_reducible rfl
        rotate_left
        ·simp only [Act.put,zz21,zz22,zz23,i64_w,i32_w]
         rfl
        refine pure_ (i:=6) (N:=some 23) (v:=?_) (a':=?_) #[T,T,T,F,T,T,T,F,F,F] rfl rfl (any_of HT_.out (by kernel_rfl)) (fun _ _ _ h=>h) (Or.inl ⟨by rfl,?_⟩) ?_ ?_
        rotate_left
        ·intro w'
         go_simp
         with_reducible rfl
        rotate_left
        ·simp only [Act.put,zz21,zz22,zz23,i64_w,i32_w]
         rfl
        refine take_ (i:=3) (N:=some 20) (v:=?_) (a':=?_) #[T,T,T,T,T,T,T,F,F,F] rfl rfl (take_ofW HT_.out HW_.out (by kernel_rfl)) (fun _ _ _ h=>h) (Or.inl ⟨by rfl,?_⟩) hHeld ?_ ?_
        rotate_left
        ·rintro w' ⟨s0,s1,s2,s3⟩
         go_simp
         with_reducible rfl
        rotate_left
        ·simp only [Act.put,zz21,zz22,zz23,i64_w,i32_w]
         rfl
        refine take_ (i:=7) (N:=some 24) (v:=?_) (a':=?_) #[T,T,T,T,T,T,T,T,F,F] rfl rfl (take_ofW HT_.out HW_.out (by kernel_rfl)) (fun _ _ _ h=>h) (Or.inl ⟨by rfl,?_⟩) hHeld ?_ ?_
        rotate_left
        ·rintro w' ⟨s0,s1,s2,s3⟩
         go_simp
         with_reducible rfl
        rotate_left
        ·simp only [Act.put,zz21,zz22,zz23,i64_w,i32_w]
         rfl
        refine one_ (i:=8) (N:=some 25) #[T,T,T,T,T,T,T,T,T,F] rfl rfl (one_of HT_.out (by kernel_rfl)) (by decide) (fun K hK=>?_)
        refine goes_ Try.func89 (by kernel_rfl) rfl #[.agg #[.int .i64 ((rd_T80 l0 x5_1).f0),.int .i64 ((rd_T80 l0 x5_1).f1)],.agg #[.int .i64 ((rd_T80 l1 x5_1).f0),.int .i64 ((rd_T80 l1 x5_1).f1)]] (by rfl) rfl rfl (by (try simp only [zz26,zz27,zz28]);first | done | rfl | (simp only [zz24,zz25];rfl)) ?_
        with_reducible refine (laws_eqPair.calls ((rd_T80 l0 x5_1).f0) ((rd_T80 l0 x5_1).f1) ((rd_T80 l1 x5_1).f0) ((rd_T80 l1 x5_1).f1) false _ A7.out).mono ?_
        rintro e w12 ⟨rfl,hb⟩
        refine ⟨_,rfl,?_⟩
        have n0_:=zz31 (zz4 (by repeat first | exact HB.out | apply zz2 | apply zz0 | apply zz1) hb)
        clear HB
        have HB:=n0_
        clear n0_
        (try clear hb)
        (try clear hb2)
        (try clear hk)
        (try clear hi)
        refine hK.out _ _ ⟨((HB.out.cell (World.block_lt_of_cell? w _ hw110_0)).trans hw110_0),((HB.out.cell (World.block_lt_of_cell? w _ hw110_1)).trans hw110_1),((HB.out.cell (World.block_lt_of_cell? w _ hw111_0)).trans hw111_0),((HB.out.cell (World.block_lt_of_cell? w _ hw111_1)).trans hw111_1)⟩ (fun hHeld=>?_)
        clear hK K
        refine norm_ (a':=?_) ?_ ?_
        rotate_left
        ·show Act.put _ (some 25) _=_
         simp only [Act.put,zz21,zz22,zz23,i64_w,i32_w]
         rfl
        refine pure_ (i:=9) (N:=some 26) (v:=?_) (a':=?_) #[T,T,T,T,T,T,T,T,T,T] rfl rfl (any_of HT_.out (by kernel_rfl)) (fun _ _ _ h=>h) (Or.inl ⟨by rfl,?_⟩) ?_ ?_
        rotate_left
        ·intro w'
         go_simp
         with_reducible rfl
        rotate_left
        ·simp only [Act.put,zz21,zz22,zz23,i64_w,i32_w]
         rfl
        refine done_ (done_of HT_.out (by kernel_rfl)) ?_
        try go_wp2
        go_ret
        exact ⟨by first | rfl | (simp [errW_none,errW_some] <;> rfl) | (simp [*,errW_none,errW_some] <;> rfl),by repeat first | exact HB.out | apply zz2 | apply zz0 | apply zz1⟩
      ·rw [if_neg c6] at H
       exact absurd H (by simp)
     ·rw [if_neg c5] at H
      exact absurd H (by simp)
    ·rw [if_neg c4] at H
     have c4b0:decide (x5_1 < (l0.length:Int))=false:=decide_eq_false c4
     clear c4
     obtain rfl:=Option.some.inj H
     go_wp2
     go_ret
     exact ⟨by first | rfl | (simp [errW_none,errW_some] <;> rfl) | (simp [*,errW_none,errW_some] <;> rfl),by repeat first | exact HB.out | apply zz2 | apply zz0 | apply zz1⟩
 ·rw [if_neg c3] at H
  have c3b0:((l0.length:Int) == (l1.length:Int))=false:=beq_eq_false_iff_ne.mpr c3
  have c3b1:((l0.length:Int) != (l1.length:Int))=true:=bne_iff_ne.mpr c3
  have c3b2:(l0.length == l1.length)=false:=by first | simpa using c3 | (simp at c3 ⊢;omega)
  obtain rfl:=Option.some.inj H
  go_enter Try.func53,Try.ntmps53
  go_wp2
  go_ret
  exact ⟨by first | rfl | (simp [errW_none,errW_some] <;> rfl) | (simp [*,errW_none,errW_some] <;> rfl),by repeat first | exact HB.out | apply zz2 | apply zz0 | apply zz1⟩

/-! ### laws_eqParty: function 22 -/
def laws_eqParty.f (k:Nat) (a0_0:Int) (l0_1:List (S80)) (a1_0:Int) (l1_1:List (S80)):Option (Bool):=if a0_0=a1_0 then ((laws_eqPairS.f k l0_1 l1_1).bind fun t115=>(if t115=true then (some true) else (some false))) else (some false)
theorem laws_eqParty.mono:∀ a0 a1 a2 a3 k,LeO (laws_eqParty.f k a0 a1 a2 a3) (laws_eqParty.f (k+1) a0 a1 a2 a3):=by
 intro a0 a1 a2 a3 k
 unfold laws_eqParty.f
 repeat' first
   | (with_reducible exact laws_eqPairS.mono _ _ _)
   | (with_reducible exact LeO.refl _)
   | (with_reducible exact LeO.none _)
   | (with_reducible refine LeO.ite ?_ ?_)
   | (with_reducible refine LeO.bind ?_ (fun _=>?_))
   | exact laws_eqPairS.mono _ _ _
   | exact LeO.none _
   | refine LeO.ite ?_ ?_
   | refine LeO.bind ?_ (fun _=>?_)
set_option maxHeartbeats 8000000 in
set_option maxRecDepth 100000 in
theorem laws_eqParty.calls (k:Nat) (a0_0:Int) (A0_1:Option Addr) (c0_1:Nat) (l0_1:List (S80)) (a1_0:Int) (A1_1:Option Addr) (c1_1:Nat) (l1_1:List (S80)) (r:Bool) (w:World) (hr0_1:Kd.C k80 w A0_1 l0_1.length l0_1) (hc0_1:l0_1.length≤c0_1) (hr1_1:Kd.C k80 w A1_1 l1_1.length l1_1) (hc1_1:l1_1.length≤c1_1) (h:laws_eqParty.f k a0_0 l0_1 a1_0 l1_1=some r) :
  Calls Try.prog 22 #[.agg #[.int .i64 a0_0,.slice A0_1 l0_1.length c0_1],.agg #[.int .i64 a1_0,.slice A1_1 l1_1.length c1_1]] w fun e w'=>e=.returned (.bool r)∧Below w.heap.size w w':=by
 have hu32:=Try.underlying32
 have HR0_1:=zz31 hr0_1
 have HC0_1:=zz31 hc0_1
 clear hr0_1 hc0_1
 have HR1_1:=zz31 hr1_1
 have HC1_1:=zz31 hc1_1
 clear hr1_1 hc1_1
 have HB:=zz31 (Below.refl w.heap.size w)
 have H:(if a0_0=a1_0 then ((laws_eqPairS.f k l0_1 l1_1).bind fun t115=>(if t115=true then (some true) else (some false))) else (some false))=some r:=h
 clear h
 by_cases c3:a0_0=a1_0
 ·rw [if_pos c3] at H
  have c3b0:(a0_0 == a1_0)=true:=beq_iff_eq.mpr c3
  have c3b1:(a0_0 != a1_0)=false:=bne_eq_false_iff_eq.mpr c3
  clear c3
  replace H:=zz30.mp H
  obtain ⟨t115,A40,H⟩:=H
  replace H:(if t115=true then (some true) else (some false))=some r:=H
  have A4:=zz31 A40
  clear A40
  by_cases c5:t115=true
  ·subst c5
   have H1:(some true)=some r:=by rw [if_pos rfl] at H;exact H
   clear H
   have H:=H1
   clear H1
   obtain rfl:=Option.some.inj H
   go_enter Try.func22,Try.ntmps22
   go_wp2_with (first | ((with_reducible refine gate_dst (N:=2) rfl ?_);refine box_event ?hg (N:=2) ?hd (cs:=#[.int .i64 a0_0,.slice A0_1 l0_1.length c0_1]) (t:=32) ?hr ?_;(case hd=>rfl);(case hg=>rfl);(case hr=>first | (go_simp;done) | (go_simp;rfl));intro gb113 hg w6 hbox hb;have n0_:=zz31 (zz4 (by repeat first | exact HB.out | apply zz2 | apply zz0 | apply zz1) hb);have n1_:=zz31 (hbox);have n2_:=zz31 ((by rw [hg];exact (zz5 (by repeat first | exact HB.out | apply zz2 | apply zz0 | apply zz1)):w.heap.size≤gb113));have n3_:=zz31 ((by rw [hg];exact (zz5 (by repeat first | exact HB.out | apply zz2 | apply zz0 | apply zz1)):w.heap.size≤gb113));clear HB;have HB:=n0_;have BK113:=n1_;have GW113:=n2_;have GE113:=n3_;clear n0_ n1_ n2_ n3_;clear hb hbox hg) | ((with_reducible refine gate_dst (N:=3) rfl ?_);refine box_event ?hg (N:=3) ?hd (cs:=#[.int .i64 a1_0,.slice A1_1 l1_1.length c1_1]) (t:=32) ?hr ?_;(case hd=>rfl);(case hg=>rfl);(case hr=>first | (go_simp;done) | (go_simp;rfl));intro gb114 hg w7 hbox hb;have n0_:=zz31 (zz11 (g:=gb113) (o:=.cells #[.int .i64 a0_0,.slice A0_1 l0_1.length c0_1] 32 (0,0)) (by (with_reducible repeat (first | refine zz6 ?_ _ | refine zz7 ?_ | refine zz8 ?_ _));exact BK113.out) hb);have n1_:=zz31 (zz4 (by repeat first | exact HB.out | apply zz2 | apply zz0 | apply zz1 | refine zz3 ?_ GE113.out) hb);have n2_:=zz31 (hbox);have n3_:=zz31 ((by rw [hg];exact (zz5 (by repeat first | exact HB.out | apply zz2 | apply zz0 | apply zz1 | refine zz3 ?_ GE113.out)):w.heap.size≤gb114));have n4_:=zz31 ((by rw [hg];exact (zz5 (by repeat first | exact HB.out | apply zz2 | apply zz0 | apply zz1 | refine zz3 ?_ GE113.out)):w.heap.size≤gb114));have n5_:=zz31 ((by rw [hg];exact Nat.ne_of_lt (blk_lt (g:=gb113) (o:=.cells #[.int .i64 a0_0,.slice A0_1 l0_1.length c0_1] 32 (0,0)) (by (with_reducible repeat (first | refine zz6 ?_ _ | refine zz7 ?_ | refine zz8 ?_ _));exact BK113.out)):gb113 ≠ gb114));have n6_:=zz31 ((by rw [hg];exact Nat.ne_of_gt (blk_lt (g:=gb113) (o:=.cells #[.int .i64 a0_0,.slice A0_1 l0_1.length c0_1] 32 (0,0)) (by (with_reducible repeat (first | refine zz6 ?_ _ | refine zz7 ?_ | refine zz8 ?_ _));exact BK113.out)):gb114 ≠ gb113));clear BK113;clear HB;have BK113:=n0_;have HB:=n1_;have BK114:=n2_;have GW114:=n3_;have GE114:=n4_;have NB113_114:=n5_;have NB114_113:=n6_;clear n0_ n1_ n2_ n3_ n4_ n5_ n6_;clear hb hbox hg;have hnb8:=NB113_114.out;have hnc8:=NB114_113.out;have hcz9_0:w7.cell? ⟨gb113,0,none⟩=some (.int .i64 a0_0):=(zz9 BK113.out 0).trans rfl;have hcz9_1:w7.cell? ⟨gb113,1,none⟩=some (.slice A0_1 l0_1.length c0_1):=(zz9 BK113.out 1).trans rfl;have hfz9_0:=zz10 BK113.out 0;have hfz9_1:=zz10 BK113.out 1;have hcz10_0:w7.cell? ⟨gb114,0,none⟩=some (.int .i64 a1_0):=(zz9 BK114.out 0).trans rfl;have hcz10_1:w7.cell? ⟨gb114,1,none⟩=some (.slice A1_1 l1_1.length c1_1):=(zz9 BK114.out 1).trans rfl;have hfz10_0:=zz10 BK114.out 0;have hfz10_1:=zz10 BK114.out 1) | ((with_reducible refine gate_callee (f:=53) rfl ?_);refine goesL_ (some 14) rfl rfl Try.func53 (by kernel_rfl) rfl #[.slice A0_1 l0_1.length c0_1,.slice A1_1 l1_1.length c1_1] rfl (by (try simp only [zz26,zz27,zz28]);first | done | rfl | (simp only [zz24,zz25];rfl)) ?_;(with_reducible refine (laws_eqPairS.calls k _ _ l0_1 _ _ l1_1 true _ ?side1 ?side2 ?side3 ?side4 A4.out).mono ?_);(case side1=>repeat (first | exact (Kd.C_below HR0_1.out HB.out) | (with_reducible refine zz18 ?_ _) | (with_reducible refine zz19 ?_ _) | (with_reducible refine zz20 ?_)));(case side2=>exact HC0_1.out);(case side3=>repeat (first | exact (Kd.C_below HR1_1.out HB.out) | (with_reducible refine zz18 ?_ _) | (with_reducible refine zz19 ?_ _) | (with_reducible refine zz20 ?_)));(case side4=>exact HC1_1.out);rintro e w11 ⟨rfl,hb⟩;refine ⟨_,rfl,?_⟩;have n0_:=zz31 (zz11 (g:=gb113) (o:=.cells #[.int .i64 a0_0,.slice A0_1 l0_1.length c0_1] 32 (0,0)) (by (with_reducible repeat (first | refine zz6 ?_ _ | refine zz7 ?_ | refine zz8 ?_ _));exact BK113.out) hb);have n1_:=zz31 (zz11 (g:=gb114) (o:=.cells #[.int .i64 a1_0,.slice A1_1 l1_1.length c1_1] 32 (0,0)) (by (with_reducible repeat (first | refine zz6 ?_ _ | refine zz7 ?_ | refine zz8 ?_ _));exact BK114.out) hb);have n2_:=zz31 (zz4 (by repeat first | exact HB.out | apply zz2 | apply zz0 | apply zz1 | refine zz3 ?_ GE113.out | refine zz3 ?_ GE114.out) hb);clear BK113;clear BK114;clear HB;have BK113:=n0_;have BK114:=n1_;have HB:=n2_;clear n0_ n1_ n2_;(try clear hb);(try clear hb2);(try clear hk);(try clear hi)))
   go_ret
   exact ⟨by first | rfl | (simp [errW_none,errW_some] <;> rfl) | (simp [*,errW_none,errW_some] <;> rfl),by repeat first | exact HB.out | apply zz2 | apply zz0 | apply zz1 | refine zz3 ?_ GE113.out | refine zz3 ?_ GE114.out⟩
  ·replace c5:=Bool.eq_false_iff.mpr c5
   subst c5
   have H1:(some false)=some r:=by rw [if_neg (show ¬ (false=true) by decide)] at H;exact H
   clear H
   have H:=H1
   clear H1
   obtain rfl:=Option.some.inj H
   go_enter Try.func22,Try.ntmps22
   go_wp2_with (first | ((with_reducible refine gate_dst (N:=2) rfl ?_);refine box_event ?hg (N:=2) ?hd (cs:=#[.int .i64 a0_0,.slice A0_1 l0_1.length c0_1]) (t:=32) ?hr ?_;(case hd=>rfl);(case hg=>rfl);(case hr=>first | (go_simp;done) | (go_simp;rfl));intro gb113 hg w12 hbox hb;have n0_:=zz31 (zz4 (by repeat first | exact HB.out | apply zz2 | apply zz0 | apply zz1) hb);have n1_:=zz31 (hbox);have n2_:=zz31 ((by rw [hg];exact (zz5 (by repeat first | exact HB.out | apply zz2 | apply zz0 | apply zz1)):w.heap.size≤gb113));have n3_:=zz31 ((by rw [hg];exact (zz5 (by repeat first | exact HB.out | apply zz2 | apply zz0 | apply zz1)):w.heap.size≤gb113));clear HB;have HB:=n0_;have BK113:=n1_;have GW113:=n2_;have GE113:=n3_;clear n0_ n1_ n2_ n3_;clear hb hbox hg) | ((with_reducible refine gate_dst (N:=3) rfl ?_);refine box_event ?hg (N:=3) ?hd (cs:=#[.int .i64 a1_0,.slice A1_1 l1_1.length c1_1]) (t:=32) ?hr ?_;(case hd=>rfl);(case hg=>rfl);(case hr=>first | (go_simp;done) | (go_simp;rfl));intro gb114 hg w13 hbox hb;have n0_:=zz31 (zz11 (g:=gb113) (o:=.cells #[.int .i64 a0_0,.slice A0_1 l0_1.length c0_1] 32 (0,0)) (by (with_reducible repeat (first | refine zz6 ?_ _ | refine zz7 ?_ | refine zz8 ?_ _));exact BK113.out) hb);have n1_:=zz31 (zz4 (by repeat first | exact HB.out | apply zz2 | apply zz0 | apply zz1 | refine zz3 ?_ GE113.out) hb);have n2_:=zz31 (hbox);have n3_:=zz31 ((by rw [hg];exact (zz5 (by repeat first | exact HB.out | apply zz2 | apply zz0 | apply zz1 | refine zz3 ?_ GE113.out)):w.heap.size≤gb114));have n4_:=zz31 ((by rw [hg];exact (zz5 (by repeat first | exact HB.out | apply zz2 | apply zz0 | apply zz1 | refine zz3 ?_ GE113.out)):w.heap.size≤gb114));have n5_:=zz31 ((by rw [hg];exact Nat.ne_of_lt (blk_lt (g:=gb113) (o:=.cells #[.int .i64 a0_0,.slice A0_1 l0_1.length c0_1] 32 (0,0)) (by (with_reducible repeat (first | refine zz6 ?_ _ | refine zz7 ?_ | refine zz8 ?_ _));exact BK113.out)):gb113 ≠ gb114));have n6_:=zz31 ((by rw [hg];exact Nat.ne_of_gt (blk_lt (g:=gb113) (o:=.cells #[.int .i64 a0_0,.slice A0_1 l0_1.length c0_1] 32 (0,0)) (by (with_reducible repeat (first | refine zz6 ?_ _ | refine zz7 ?_ | refine zz8 ?_ _));exact BK113.out)):gb114 ≠ gb113));clear BK113;clear HB;have BK113:=n0_;have HB:=n1_;have BK114:=n2_;have GW114:=n3_;have GE114:=n4_;have NB113_114:=n5_;have NB114_113:=n6_;clear n0_ n1_ n2_ n3_ n4_ n5_ n6_;clear hb hbox hg;have hnb14:=NB113_114.out;have hnc14:=NB114_113.out;have hcz15_0:w13.cell? ⟨gb113,0,none⟩=some (.int .i64 a0_0):=(zz9 BK113.out 0).trans rfl;have hcz15_1:w13.cell? ⟨gb113,1,none⟩=some (.slice A0_1 l0_1.length c0_1):=(zz9 BK113.out 1).trans rfl;have hfz15_0:=zz10 BK113.out 0;have hfz15_1:=zz10 BK113.out 1;have hcz16_0:w13.cell? ⟨gb114,0,none⟩=some (.int .i64 a1_0):=(zz9 BK114.out 0).trans rfl;have hcz16_1:w13.cell? ⟨gb114,1,none⟩=some (.slice A1_1 l1_1.length c1_1):=(zz9 BK114.out 1).trans rfl;have hfz16_0:=zz10 BK114.out 0;have hfz16_1:=zz10 BK114.out 1) | ((with_reducible refine gate_callee (f:=53) rfl ?_);refine goesL_ (some 14) rfl rfl Try.func53 (by kernel_rfl) rfl #[.slice A0_1 l0_1.length c0_1,.slice A1_1 l1_1.length c1_1] rfl (by (try simp only [zz26,zz27,zz28]);first | done | rfl | (simp only [zz24,zz25];rfl)) ?_;(with_reducible refine (laws_eqPairS.calls k _ _ l0_1 _ _ l1_1 false _ ?side1 ?side2 ?side3 ?side4 A4.out).mono ?_);(case side1=>repeat (first | exact (Kd.C_below HR0_1.out HB.out) | (with_reducible refine zz18 ?_ _) | (with_reducible refine zz19 ?_ _) | (with_reducible refine zz20 ?_)));(case side2=>exact HC0_1.out);(case side3=>repeat (first | exact (Kd.C_below HR1_1.out HB.out) | (with_reducible refine zz18 ?_ _) | (with_reducible refine zz19 ?_ _) | (with_reducible refine zz20 ?_)));(case side4=>exact HC1_1.out);rintro e w17 ⟨rfl,hb⟩;refine ⟨_,rfl,?_⟩;have n0_:=zz31 (zz11 (g:=gb113) (o:=.cells #[.int .i64 a0_0,.slice A0_1 l0_1.length c0_1] 32 (0,0)) (by (with_reducible repeat (first | refine zz6 ?_ _ | refine zz7 ?_ | refine zz8 ?_ _));exact BK113.out) hb);have n1_:=zz31 (zz11 (g:=gb114) (o:=.cells #[.int .i64 a1_0,.slice A1_1 l1_1.length c1_1] 32 (0,0)) (by (with_reducible repeat (first | refine zz6 ?_ _ | refine zz7 ?_ | refine zz8 ?_ _));exact BK114.out) hb);have n2_:=zz31 (zz4 (by repeat first | exact HB.out | apply zz2 | apply zz0 | apply zz1 | refine zz3 ?_ GE113.out | refine zz3 ?_ GE114.out) hb);clear BK113;clear BK114;clear HB;have BK113:=n0_;have BK114:=n1_;have HB:=n2_;clear n0_ n1_ n2_;(try clear hb);(try clear hb2);(try clear hk);(try clear hi)))
   go_ret
   exact ⟨by first | rfl | (simp [errW_none,errW_some] <;> rfl) | (simp [*,errW_none,errW_some] <;> rfl),by repeat first | exact HB.out | apply zz2 | apply zz0 | apply zz1 | refine zz3 ?_ GE113.out | refine zz3 ?_ GE114.out⟩
 ·rw [if_neg c3] at H
  have c3b0:(a0_0 == a1_0)=false:=beq_eq_false_iff_ne.mpr c3
  have c3b1:(a0_0 != a1_0)=true:=bne_iff_ne.mpr c3
  obtain rfl:=Option.some.inj H
  go_enter Try.func22,Try.ntmps22
  go_wp2_with (first | ((with_reducible refine gate_dst (N:=2) rfl ?_);refine box_event ?hg (N:=2) ?hd (cs:=#[.int .i64 a0_0,.slice A0_1 l0_1.length c0_1]) (t:=32) ?hr ?_;(case hd=>rfl);(case hg=>rfl);(case hr=>first | (go_simp;done) | (go_simp;rfl));intro gb113 hg w18 hbox hb;have n0_:=zz31 (zz4 (by repeat first | exact HB.out | apply zz2 | apply zz0 | apply zz1) hb);have n1_:=zz31 (hbox);have n2_:=zz31 ((by rw [hg];exact (zz5 (by repeat first | exact HB.out | apply zz2 | apply zz0 | apply zz1)):w.heap.size≤gb113));have n3_:=zz31 ((by rw [hg];exact (zz5 (by repeat first | exact HB.out | apply zz2 | apply zz0 | apply zz1)):w.heap.size≤gb113));clear HB;have HB:=n0_;have BK113:=n1_;have GW113:=n2_;have GE113:=n3_;clear n0_ n1_ n2_ n3_;clear hb hbox hg) | ((with_reducible refine gate_dst (N:=3) rfl ?_);refine box_event ?hg (N:=3) ?hd (cs:=#[.int .i64 a1_0,.slice A1_1 l1_1.length c1_1]) (t:=32) ?hr ?_;(case hd=>rfl);(case hg=>rfl);(case hr=>first | (go_simp;done) | (go_simp;rfl));intro gb114 hg w19 hbox hb;have n0_:=zz31 (zz11 (g:=gb113) (o:=.cells #[.int .i64 a0_0,.slice A0_1 l0_1.length c0_1] 32 (0,0)) (by (with_reducible repeat (first | refine zz6 ?_ _ | refine zz7 ?_ | refine zz8 ?_ _));exact BK113.out) hb);have n1_:=zz31 (zz4 (by repeat first | exact HB.out | apply zz2 | apply zz0 | apply zz1 | refine zz3 ?_ GE113.out) hb);have n2_:=zz31 (hbox);have n3_:=zz31 ((by rw [hg];exact (zz5 (by repeat first | exact HB.out | apply zz2 | apply zz0 | apply zz1 | refine zz3 ?_ GE113.out)):w.heap.size≤gb114));have n4_:=zz31 ((by rw [hg];exact (zz5 (by repeat first | exact HB.out | apply zz2 | apply zz0 | apply zz1 | refine zz3 ?_ GE113.out)):w.heap.size≤gb114));have n5_:=zz31 ((by rw [hg];exact Nat.ne_of_lt (blk_lt (g:=gb113) (o:=.cells #[.int .i64 a0_0,.slice A0_1 l0_1.length c0_1] 32 (0,0)) (by (with_reducible repeat (first | refine zz6 ?_ _ | refine zz7 ?_ | refine zz8 ?_ _));exact BK113.out)):gb113 ≠ gb114));have n6_:=zz31 ((by rw [hg];exact Nat.ne_of_gt (blk_lt (g:=gb113) (o:=.cells #[.int .i64 a0_0,.slice A0_1 l0_1.length c0_1] 32 (0,0)) (by (with_reducible repeat (first | refine zz6 ?_ _ | refine zz7 ?_ | refine zz8 ?_ _));exact BK113.out)):gb114 ≠ gb113));clear BK113;clear HB;have BK113:=n0_;have HB:=n1_;have BK114:=n2_;have GW114:=n3_;have GE114:=n4_;have NB113_114:=n5_;have NB114_113:=n6_;clear n0_ n1_ n2_ n3_ n4_ n5_ n6_;clear hb hbox hg;have hnb20:=NB113_114.out;have hnc20:=NB114_113.out;have hcz21_0:w19.cell? ⟨gb113,0,none⟩=some (.int .i64 a0_0):=(zz9 BK113.out 0).trans rfl;have hcz21_1:w19.cell? ⟨gb113,1,none⟩=some (.slice A0_1 l0_1.length c0_1):=(zz9 BK113.out 1).trans rfl;have hfz21_0:=zz10 BK113.out 0;have hfz21_1:=zz10 BK113.out 1;have hcz22_0:w19.cell? ⟨gb114,0,none⟩=some (.int .i64 a1_0):=(zz9 BK114.out 0).trans rfl;have hcz22_1:w19.cell? ⟨gb114,1,none⟩=some (.slice A1_1 l1_1.length c1_1):=(zz9 BK114.out 1).trans rfl;have hfz22_0:=zz10 BK114.out 0;have hfz22_1:=zz10 BK114.out 1))
  go_ret
  exact ⟨by first | rfl | (simp [errW_none,errW_some] <;> rfl) | (simp [*,errW_none,errW_some] <;> rfl),by repeat first | exact HB.out | apply zz2 | apply zz0 | apply zz1 | refine zz3 ?_ GE113.out | refine zz3 ?_ GE114.out⟩

/-! ### laws_markIntS: function 23 -/
def laws_markIntS.l0:Nat→List Int→Int→Int→Option (Int × List Int)
 | 0,_,_,_=>none
 | k+1,x0,x1,x5=>if x5 < (x0.length:Int) then (if 0≤x5 then (laws_markIntS.l0 k (x0.set (x5:Int).toNat x1) (wrap64 (x1+1)) (wrap64 (x5+1))) else (none)) else (some (x1,x0))
def laws_markIntS.f (k:Nat) (l0:List Int) (a1:Int):Option (Int × List Int):=laws_markIntS.l0 k l0 a1 0
theorem laws_markIntS.mono_l:∀ k,(∀ y0 y1 y2,LeO (laws_markIntS.l0 k y0 y1 y2) (laws_markIntS.l0 (k+1) y0 y1 y2))
 | 0=>fun _ _ _ r h=>by simp [laws_markIntS.l0] at h
 | k+1=>by
  have ih0:=laws_markIntS.mono_l k
  ·intro y0 y1 y2
   unfold laws_markIntS.l0
   repeat' first
   | (with_reducible exact ih0 _ _ _)
   | (with_reducible exact LeO.refl _)
   | (with_reducible exact LeO.none _)
   | (with_reducible refine LeO.ite ?_ ?_)
   | (with_reducible refine LeO.bind ?_ (fun _=>?_))
   | exact ih0 _ _ _
   | exact LeO.none _
   | refine LeO.ite ?_ ?_
   | refine LeO.bind ?_ (fun _=>?_)
theorem laws_markIntS.mono:∀ a0 a1 k,LeO (laws_markIntS.f k a0 a1) (laws_markIntS.f (k+1) a0 a1):=by
 intro a0 a1 k
 have ih0:=laws_markIntS.mono_l k
 unfold laws_markIntS.f
 repeat' first
   | (with_reducible exact ih0 _ _ _)
   | (with_reducible exact LeO.refl _)
   | (with_reducible exact LeO.none _)
   | (with_reducible refine LeO.ite ?_ ?_)
   | (with_reducible refine LeO.bind ?_ (fun _=>?_))
   | exact ih0 _ _ _
   | exact LeO.none _
   | refine LeO.ite ?_ ?_
   | refine LeO.bind ?_ (fun _=>?_)
set_option maxHeartbeats 8000000 in
set_option maxRecDepth 100000 in
theorem laws_markIntS.calls (k:Nat) (P0_:Nat→Prop) (u9000_:Value) (l0:List Int) (a1:Int) (r1:Int) (r2:List Int) (w0 w:World) (hB:Below w0.heap.size w0 w) (ho0:Kd.R (Kd.int .i64) 3 w w0.heap.size P0_ u9000_ l0) (h:laws_markIntS.f k l0 a1=some (r1,r2)) :
  Calls Try.prog 23 #[u9000_,.int .i64 a1] w fun e w'=>e=.returned (.int .i64 r1)∧Kd.R (Kd.int .i64) 3 w' w0.heap.size (fun k_=>(P0_ k_ ∨ w.heap.size≤k_)) u9000_ r2∧Below w0.heap.size w0 w'∧Kept w w' (fun k_=>P0_ k_):=by
 have HO0:=zz31 (show Kd.R (Kd.int .i64) 3 w w0.heap.size (fun k_=>(P0_ k_ ∨ w.heap.size≤k_)) u9000_ l0 from Kd.R_mono ho0 (fun k_ hk=>(.inl hk)))
 have HK:=zz31 (Kept.refl w (fun k_=>P0_ k_))
 have HW0:=zz31 hB.size
 have HB:=zz31 hB
 clear hB
 have H:(laws_markIntS.l0 k l0 a1 0)=some (r1,r2):=h
 clear h
 have H':=zz31 H
 clear H
 go_enter Try.func23,Try.ntmps23
 go_wp2
 go_loopg [1,5] k (fun kq v1 v5 w'=>∃ (x0_1:List Int) (x1_1:Int) (x5_1:Int),v1=.int .i64 x1_1∧v5=.int .i64 x5_1∧Aside0 (laws_markIntS.l0 kq x0_1 x1_1 x5_1=some (r1,r2))∧Aside0 (kq≤k)∧Aside0 (Kd.R (Kd.int .i64) 3 w' w0.heap.size (fun k_=>(P0_ k_ ∨ w.heap.size≤k_)) u9000_ x0_1)∧Aside0 (Kept w w' (fun k_=>P0_ k_))∧Aside0 (Below w0.heap.size w0 w'))
 case atStart=>exact ⟨(l0),(a1),(0),(by first | rfl | (simp;done) | (simp [*];done)),(by first | rfl | (simp;done) | (simp [*];done)),H',⟨Nat.le_refl _⟩,⟨by (with_reducible repeat (first | apply zz12 | apply zz13 | apply zz14));exact HO0.out⟩,⟨by repeat (first | (with_reducible first | exact HK.out | apply Kept.alloc | apply Kept.drewN | apply Kept.drew) | exact HK.out)⟩,⟨by repeat first | exact HB.out | apply zz2 | apply zz0 | apply zz1⟩⟩
 case round =>
  clear H'
  try clear c2
  try clear p2
  obtain ⟨x0_1,x1_1,x5_1,rfl,rfl,HA,HK1,HO_0,HK,HB⟩:=hrel
  cases gk with
  | zero=>exact absurd HA.out (by simp [laws_markIntS.l0])
  | succ k1 =>
   have H:=HA.out
   clear HA
   simp only [laws_markIntS.l0] at H
   by_cases c3:x5_1 < (x0_1.length:Int)
   ·rw [if_pos c3] at H
    have c3b0:decide (x5_1 < (x0_1.length:Int))=true:=decide_eq_true c3
    clear c3
    by_cases c4:0≤x5_1
    ·rw [if_pos c4] at H
     have c4b0:decide (0≤x5_1)=true:=decide_eq_true c4
     clear c4
     obtain ⟨y116,hy116⟩:∃ y_:List Int,y_=(x0_1.set (x5_1:Int).toNat x1_1):=⟨_,rfl⟩
     replace H:(laws_markIntS.l0 k1 y116 (wrap64 (x1_1+1)) (wrap64 (x5_1+1)))=some (r1,r2):=by first | (rw [hy116];with_reducible exact H) | (have H2_:=(Option.bind_some _ _).symm.trans H;rw [hy116];with_reducible exact H2_) | (have H2_:=(Option.bind_some _ _).symm.trans H;with_reducible exact H2_) | with_reducible exact H | (rw [hy116];exact H) | exact H
     have Ny116:=zz31 hy116
     clear hy116
     have H':=zz31 H
     clear H
     obtain ⟨Ao6,co6,eo6⟩:=Kd.R_slice HO_0.out
     subst eo6
     have p5:0≤(x5_1:Int):=zz29 (by first | (with_reducible assumption) | assumption)
     have q5:(x5_1:Int) < ((x0_1.length:Int):Int):=zz29 (by first | (with_reducible assumption) | assumption)
     obtain ⟨go5,co5,eo5,gb5,gl5,cl5,HG5⟩:=Kd.R_form HO_0.out (by omega)
     (first | cases eo5 | (injection eo5 with ea_ en_ ec_;(first | subst ea_ | (injection ea_ with ea_;subst ea_));subst ec_;clear en_))
     have GB5:=zz31 gb5
     have GG5:=zz31 HG5
     clear gb5 gl5 HG5
     have HMgo5:=zz31 (show (P0_ go5 ∨ w.heap.size≤go5) from (HO_0.out.1 _ rfl))
     obtain ⟨hx5_0,hf5_0⟩:=Kd.R_celln 0 HO_0.out (x5_1:Int) p5 q5
     replace p5:=eq_true p5
     replace q5:=eq_true q5
     have HP7:=Kd.R_putg HO_0.out (x5_1:Int) x1_1
     go_wp2_with (first | ((with_reducible refine gate_store (t:=3) (p:=15) rfl ?_);refine store_event (t:=3) (p:=15) (v:=?vo_w8) (w1:=(wr.setCell ⟨go5,(x5_1:Int).toNat,none⟩ (.int .i64 x1_1))) ?hg ?ho ?hn ?hr ?_;(case ho=>rfl);(case hg=>rfl);(case hn=>rfl);(case hr=>first | (go_simp;done) | (go_simp;rfl));intro w8 hw;have hg:wr.grownBy w8 (some go5):=(by rw [hw];exact HP7.2);have hp_:Kd.R (Kd.int .i64) 3 w8 w0.heap.size (fun k_=>(P0_ k_ ∨ w.heap.size≤k_)) (.slice (some ⟨go5,0,none⟩) x0_1.length co6) y116:=(by rw [hw,Ny116.out];exact HP7.1);clear HP7;have n0_:=zz31 (hp_);have n1_:=zz31 ((by rw [hw];exact zz3 (HB.out) GB5.out:Below w0.heap.size w0 w8));have n2_:=zz31 (Kept.of_grown (S:=(fun k_=>P0_ k_)) hg (by repeat (first | (with_reducible first | exact HK.out | apply Kept.alloc | apply Kept.drewN | apply Kept.drew) | exact HK.out)) (fun k_ e_=>(HO_0.out.1 k_ e_)));clear HO_0;clear HB;clear HK;have HO_0:=n0_;have HB:=n1_;have HK:=n2_;clear n0_ n1_ n2_;clear hg hw hp_))
     go_roundg k1
     case measure=>have:=HK1.out;omega
     case rel=>exact ⟨(y116),(wrap64 (x1_1+1)),(wrap64 (x5_1+1)),(by first | rfl | (simp;done) | (simp [*];done)),(by first | rfl | (simp;done) | (simp [*];done)),H',⟨by have:=HK1.out;omega⟩,⟨by (with_reducible repeat (first | apply zz12 | apply zz13 | apply zz14));exact HO_0.out⟩,⟨by repeat (first | (with_reducible first | exact HK.out | apply Kept.alloc | apply Kept.drewN | apply Kept.drew) | exact HK.out)⟩,⟨by repeat first | exact HB.out | apply zz2 | apply zz0 | apply zz1⟩⟩
    ·rw [if_neg c4] at H
     exact absurd H (by simp)
   ·rw [if_neg c3] at H
    have c3b0:decide (x5_1 < (x0_1.length:Int))=false:=decide_eq_false c3
    clear c3
    simp only [Option.some.injEq,Prod.mk.injEq] at H
    obtain ⟨rfl,rfl⟩:=H
    obtain ⟨Ao9,co9,eo9⟩:=Kd.R_slice HO_0.out
    subst eo9
    go_wp2
    go_ret
    exact ⟨by first | rfl | (simp [errW_none,errW_some] <;> rfl) | (simp [*,errW_none,errW_some] <;> rfl),by (with_reducible repeat (first | apply zz12 | apply zz13 | apply zz14));exact HO_0.out,by repeat first | exact HB.out | apply zz2 | apply zz0 | apply zz1,by repeat (first | (with_reducible first | exact HK.out | apply Kept.alloc | apply Kept.drewN | apply Kept.drew) | exact HK.out)⟩

/-! ### laws_markPairS: function 54 -/
def laws_markPairS.l0:Nat→List (S80)→Int→Int→Option (Int × (List (S80)))
 | 0,_,_,_=>none
 | k+1,x0,x1,x5=>if x5 < (x0.length:Int) then (if 0≤x5 then ((some (x0.set (x5:Int).toNat (⟨x1,(rd_T80 x0 x5).f1⟩:S80):List (S80))).bind fun y117=>(laws_markPairS.l0 k (y117.set (x5:Int).toNat (⟨(rd_T80 y117 x5).f0,wrap64 (x1+1)⟩:S80)) (wrap64 ((wrap64 (x1+1))+1)) (wrap64 (x5+1)))) else (none)) else (some (x1,x0))
def laws_markPairS.f (k:Nat) (l0:List (S80)) (a1:Int):Option (Int × (List (S80))):=laws_markPairS.l0 k l0 a1 0
theorem laws_markPairS.mono_l:∀ k,(∀ y0 y1 y2,LeO (laws_markPairS.l0 k y0 y1 y2) (laws_markPairS.l0 (k+1) y0 y1 y2))
 | 0=>fun _ _ _ r h=>by simp [laws_markPairS.l0] at h
 | k+1=>by
  have ih0:=laws_markPairS.mono_l k
  ·intro y0 y1 y2
   unfold laws_markPairS.l0
   repeat' first
   | (with_reducible exact ih0 _ _ _)
   | (with_reducible exact LeO.refl _)
   | (with_reducible exact LeO.none _)
   | (with_reducible refine LeO.ite ?_ ?_)
   | (with_reducible refine LeO.bind ?_ (fun _=>?_))
   | exact ih0 _ _ _
   | exact LeO.none _
   | refine LeO.ite ?_ ?_
   | refine LeO.bind ?_ (fun _=>?_)
theorem laws_markPairS.mono:∀ a0 a1 k,LeO (laws_markPairS.f k a0 a1) (laws_markPairS.f (k+1) a0 a1):=by
 intro a0 a1 k
 have ih0:=laws_markPairS.mono_l k
 unfold laws_markPairS.f
 repeat' first
   | (with_reducible exact ih0 _ _ _)
   | (with_reducible exact LeO.refl _)
   | (with_reducible exact LeO.none _)
   | (with_reducible refine LeO.ite ?_ ?_)
   | (with_reducible refine LeO.bind ?_ (fun _=>?_))
   | exact ih0 _ _ _
   | exact LeO.none _
   | refine LeO.ite ?_ ?_
   | refine LeO.bind ?_ (fun _=>?_)
set_option maxHeartbeats 8000000 in
set_option maxRecDepth 100000 in
theorem laws_markPairS.calls (k:Nat) (P0_:Nat→Prop) (u9000_:Value) (l0:List (S80)) (a1:Int) (r1:Int) (r2:List (S80)) (w0 w:World) (hB:Below w0.heap.size w0 w) (ho0:Kd.R k80 80 w w0.heap.size P0_ u9000_ l0) (h:laws_markPairS.f k l0 a1=some (r1,r2)) :
  Calls Try.prog 54 #[u9000_,.int .i64 a1] w fun e w'=>e=.returned (.int .i64 r1)∧Kd.R k80 80 w' w0.heap.size (fun k_=>(P0_ k_ ∨ w.heap.size≤k_)) u9000_ r2∧Below w0.heap.size w0 w'∧Kept w w' (fun k_=>P0_ k_):=by
 have HO0:=zz31 (show Kd.R k80 80 w w0.heap.size (fun k_=>(P0_ k_ ∨ w.heap.size≤k_)) u9000_ l0 from Kd.R_mono ho0 (fun k_ hk=>(.inl hk)))
 have HK:=zz31 (Kept.refl w (fun k_=>P0_ k_))
 have HW0:=zz31 hB.size
 have HB:=zz31 hB
 clear hB
 have H:(laws_markPairS.l0 k l0 a1 0)=some (r1,r2):=h
 clear h
 have H':=zz31 H
 clear H
 go_enter Try.func54,Try.ntmps54
 go_wp2
 go_loopg [1,5] k (fun kq v1 v5 w'=>∃ (x0_1:List (S80)) (x1_1:Int) (x5_1:Int),v1=.int .i64 x1_1∧v5=.int .i64 x5_1∧Aside0 (laws_markPairS.l0 kq x0_1 x1_1 x5_1=some (r1,r2))∧Aside0 (kq≤k)∧Aside0 (Kd.R k80 80 w' w0.heap.size (fun k_=>(P0_ k_ ∨ w.heap.size≤k_)) u9000_ x0_1)∧Aside0 (Kept w w' (fun k_=>P0_ k_))∧Aside0 (Below w0.heap.size w0 w'))
 case atStart=>exact ⟨(l0),(a1),(0),(by first | rfl | (simp;done) | (simp [*];done)),(by first | rfl | (simp;done) | (simp [*];done)),H',⟨Nat.le_refl _⟩,⟨by (with_reducible repeat (first | apply zz12 | apply zz13 | apply zz14));exact HO0.out⟩,⟨by repeat (first | (with_reducible first | exact HK.out | apply Kept.alloc | apply Kept.drewN | apply Kept.drew) | exact HK.out)⟩,⟨by repeat first | exact HB.out | apply zz2 | apply zz0 | apply zz1⟩⟩
 case round =>
  clear H'
  try clear p2
  obtain ⟨x0_1,x1_1,x5_1,rfl,rfl,HA,HK1,HO_0,HK,HB⟩:=hrel
  cases gk with
  | zero=>exact absurd HA.out (by simp [laws_markPairS.l0])
  | succ k1 =>
   have H:=HA.out
   clear HA
   simp only [laws_markPairS.l0] at H
   by_cases c3:x5_1 < (x0_1.length:Int)
   ·rw [if_pos c3] at H
    have c3b0:decide (x5_1 < (x0_1.length:Int))=true:=decide_eq_true c3
    clear c3
    by_cases c4:0≤x5_1
    ·rw [if_pos c4] at H
     have c4b0:decide (0≤x5_1)=true:=decide_eq_true c4
     clear c4
     obtain ⟨y117,hy117⟩:∃ y_:List (S80),y_=(x0_1.set (x5_1:Int).toNat (⟨x1_1,(rd_T80 x0_1 x5_1).f1⟩:S80)):=⟨_,rfl⟩
     replace H:(laws_markPairS.l0 k1 (y117.set (x5_1:Int).toNat (⟨(rd_T80 y117 x5_1).f0,wrap64 (x1_1+1)⟩:S80)) (wrap64 ((wrap64 (x1_1+1))+1)) (wrap64 (x5_1+1)))=some (r1,r2):=by first | (rw [hy117];with_reducible exact H) | (have H2_:=(Option.bind_some _ _).symm.trans H;rw [hy117];with_reducible exact H2_) | (have H2_:=(Option.bind_some _ _).symm.trans H;with_reducible exact H2_) | with_reducible exact H | (rw [hy117];exact H) | exact H
     have Ny117:=zz31 hy117
     clear hy117
     obtain ⟨y118,hy118⟩:∃ y_:List (S80),y_=(y117.set (x5_1:Int).toNat (⟨(rd_T80 y117 x5_1).f0,wrap64 (x1_1+1)⟩:S80)):=⟨_,rfl⟩
     replace H:(laws_markPairS.l0 k1 y118 (wrap64 ((wrap64 (x1_1+1))+1)) (wrap64 (x5_1+1)))=some (r1,r2):=by first | (rw [hy118];with_reducible exact H) | (have H2_:=(Option.bind_some _ _).symm.trans H;rw [hy118];with_reducible exact H2_) | (have H2_:=(Option.bind_some _ _).symm.trans H;with_reducible exact H2_) | with_reducible exact H | (rw [hy118];exact H) | exact H
     have Ny118:=zz31 hy118
     clear hy118
     have H':=zz31 H
     clear H
     obtain ⟨Ao7,co7,eo7⟩:=Kd.R_slice HO_0.out
     subst eo7
     have p5:0≤(x5_1:Int):=zz29 (by first | (with_reducible assumption) | assumption)
     have q5:(x5_1:Int) < ((x0_1.length:Int):Int):=zz29 (by first | (with_reducible assumption) | assumption)
     obtain ⟨go5,co5,eo5,gb5,gl5,cl5,HG5⟩:=Kd.R_form HO_0.out (by omega)
     (first | cases eo5 | (injection eo5 with ea_ en_ ec_;(first | subst ea_ | (injection ea_ with ea_;subst ea_));subst ec_;clear en_))
     have GB5:=zz31 gb5
     have GG5:=zz31 HG5
     clear gb5 gl5 HG5
     have HMgo5:=zz31 (show (P0_ go5 ∨ w.heap.size≤go5) from (HO_0.out.1 _ rfl))
     obtain ⟨ce5,hcl5,hM5,hcc5,hfr5⟩:=Kd.R_elem HO_0.out z80 (x5_1:Int) p5 q5
     obtain rfl:=k80_openM hM5
     have hx5_0:wr.cell? ⟨go5,(x5_1:Int).toNat * 2,none⟩=some (.int .i64 ((rd_T80 x0_1 x5_1).f0)):=hcc5 0 _ rfl
     have hx5_1:wr.cell? ⟨go5,(x5_1:Int).toNat * 2+1,none⟩=some (.int .i64 ((rd_T80 x0_1 x5_1).f1)):=hcc5 1 _ rfl
     have hf5_0:wr.frozen? ⟨go5,(x5_1:Int).toNat * 2,none⟩=false:=hfr5 0
     have hf5_1:wr.frozen? ⟨go5,(x5_1:Int).toNat * 2+1,none⟩=false:=hfr5 1
     clear hcl5 hcc5 hfr5 hM5
     replace p5:=eq_true p5
     replace q5:=eq_true q5
     have HX8:=zz31 (show Kd.R k80 80 wr w0.heap.size (fun k_=>(P0_ k_ ∨ w.heap.size≤k_)) (.slice (some ⟨go5,0,none⟩) x0_1.length co7) x0_1 from (by (with_reducible repeat (first | apply zz12 | apply zz13 | apply zz14));exact HO_0.out))
     obtain ⟨ce8,hcl8,hM8,hcc8,hfr8⟩:=Kd.R_elem HX8.out z80 (x5_1:Int) (zz29 (by first | (with_reducible assumption) | assumption)) (by have h_:(x5_1:Int) < ((x0_1.length:Int):Int):=zz29 (by first | (with_reducible assumption) | assumption);first | exact h_ | (have e_:=(Kd.R_reads' HO_0.out).1;omega) | simpa using h_)
     obtain rfl:=k80_openM hM8
     have HP8:=Kd.R_seg HX8.out (x5_1:Int) (zz29 (by first | (with_reducible assumption) | assumption)) (by have h_:(x5_1:Int) < ((x0_1.length:Int):Int):=zz29 (by first | (with_reducible assumption) | assumption);first | exact h_ | (have e_:=(Kd.R_reads' HO_0.out).1;omega) | simpa using h_) (seg:=[.int .i64 x1_1]) (j:=0) hcl8 hcc8 (show 1≤2 from by decide) (x':=(⟨x1_1,(rd_T80 x0_1 x5_1).f1⟩:S80)) (k80_mkM _ _ _ (⟨x1_1,(rd_T80 x0_1 x5_1).f1⟩:S80) ) (fun _ hk=>hk)
     have hx8_0:=hcc8 0 _ rfl
     (try simp only [show (k80).sz=2 from rfl,Nat.mul_one,Nat.add_zero] at hx8_0)
     have hf8_0:=hfr8 0
     (try simp only [show (k80).sz=2 from rfl,Nat.mul_one,Nat.add_zero] at hf8_0)
     clear hcl8 hcc8 hfr8 hM8
     go_wp2_with (first | ((with_reducible refine gate_store (t:=3) (p:=16) rfl ?_);refine store_event (t:=3) (p:=16) (v:=?vo_w9) (w1:=(wr.setCell ⟨go5,(x5_1:Int).toNat * 2,none⟩ (.int .i64 x1_1))) ?hg ?ho ?hn ?hr ?_;(case ho=>rfl);(case hg=>rfl);(case hn=>rfl);(case hr=>first | (go_simp;done) | (go_simp;rfl));intro w9 hw;have hg:wr.grownBy w9 (some go5):=(by rw [hw];exact HP8.2);have hp_:Kd.R k80 80 w9 w0.heap.size (fun k_=>(P0_ k_ ∨ w.heap.size≤k_)) (.slice (some ⟨go5,0,none⟩) x0_1.length co7) y117:=(by rw [hw,Ny117.out];exact HP8.1);clear HP8;have n0_:=zz31 (hp_);have n1_:=zz31 ((by rw [hw];exact zz3 (HB.out) GB5.out:Below w0.heap.size w0 w9));have n2_:=zz31 (Kept.of_grown (S:=(fun k_=>P0_ k_)) hg (by repeat (first | (with_reducible first | exact HK.out | apply Kept.alloc | apply Kept.drewN | apply Kept.drew) | exact HK.out)) (fun k_ e_=>(HO_0.out.1 k_ e_)));clear HO_0;clear HB;clear HK;have HO_0:=n0_;have HB:=n1_;have HK:=n2_;clear n0_ n1_ n2_;clear hg hw hp_;have p6:0≤(x5_1:Int):=zz29 (by first | (with_reducible assumption) | assumption);have q6:(x5_1:Int) < ((x0_1.length:Int):Int):=zz29 (by first | (with_reducible assumption) | assumption);obtain ⟨ce6,hcl6,hM6,hcc6,hfr6⟩:=Kd.R_elem HO_0.out z80 (x5_1:Int) p6 q6;obtain rfl:=k80_openM hM6;have hx6_0:w9.cell? ⟨go5,(x5_1:Int).toNat * 2,none⟩=some (.int .i64 ((rd_T80 y117 x5_1).f0)):=hcc6 0 _ rfl;have hx6_1:w9.cell? ⟨go5,(x5_1:Int).toNat * 2+1,none⟩=some (.int .i64 ((rd_T80 y117 x5_1).f1)):=hcc6 1 _ rfl;have hf6_0:w9.frozen? ⟨go5,(x5_1:Int).toNat * 2,none⟩=false:=hfr6 0;have hf6_1:w9.frozen? ⟨go5,(x5_1:Int).toNat * 2+1,none⟩=false:=hfr6 1;clear hcl6 hcc6 hfr6 hM6;replace p6:=eq_true p6;replace q6:=eq_true q6;have HX10:=zz31 (show Kd.R k80 80 w9 w0.heap.size (fun k_=>(P0_ k_ ∨ w.heap.size≤k_)) (.slice (some ⟨go5,0,none⟩) x0_1.length co7) y117 from (by (with_reducible repeat (first | apply zz12 | apply zz13 | apply zz14));exact HO_0.out));obtain ⟨ce10,hcl10,hM10,hcc10,hfr10⟩:=Kd.R_elem HX10.out z80 (x5_1:Int) (zz29 (by first | (with_reducible assumption) | assumption)) (by have h_:(x5_1:Int) < ((x0_1.length:Int):Int):=zz29 (by first | (with_reducible assumption) | assumption);first | exact h_ | (have e_:=(Kd.R_reads' HO_0.out).1;omega) | simpa using h_);obtain rfl:=k80_openM hM10;have HP10:=Kd.R_seg HX10.out (x5_1:Int) (zz29 (by first | (with_reducible assumption) | assumption)) (by have h_:(x5_1:Int) < ((x0_1.length:Int):Int):=zz29 (by first | (with_reducible assumption) | assumption);first | exact h_ | (have e_:=(Kd.R_reads' HO_0.out).1;omega) | simpa using h_) (seg:=[.int .i64 (wrap64 (x1_1+1))]) (j:=1) hcl10 hcc10 (show 2≤2 from by decide) (x':=(⟨(rd_T80 y117 x5_1).f0,wrap64 (x1_1+1)⟩:S80)) (k80_mkM _ _ _ (⟨(rd_T80 y117 x5_1).f0,wrap64 (x1_1+1)⟩:S80) ) (fun _ hk=>hk);have hx10_1:=hcc10 1 _ rfl;(try simp only [show (k80).sz=2 from rfl,Nat.mul_one,Nat.add_zero] at hx10_1);have hf10_1:=hfr10 1;(try simp only [show (k80).sz=2 from rfl,Nat.mul_one,Nat.add_zero] at hf10_1);clear hcl10 hcc10 hfr10 hM10) | ((with_reducible refine gate_store (t:=3) (p:=23) rfl ?_);refine store_event (t:=3) (p:=23) (v:=?vo_w11) (w1:=(w9.setCell ⟨go5,(x5_1:Int).toNat * 2+1,none⟩ (.int .i64 (wrap64 (x1_1+1))))) ?hg ?ho ?hn ?hr ?_;(case ho=>rfl);(case hg=>rfl);(case hn=>rfl);(case hr=>first | (go_simp;done) | (go_simp;rfl));intro w11 hw;have hg:w9.grownBy w11 (some go5):=(by rw [hw];exact HP10.2);have hp_:Kd.R k80 80 w11 w0.heap.size (fun k_=>(P0_ k_ ∨ w.heap.size≤k_)) (.slice (some ⟨go5,0,none⟩) x0_1.length co7) y118:=(by rw [hw,Ny118.out];exact HP10.1);clear HP10;have n0_:=zz31 (hp_);have n1_:=zz31 ((by rw [hw];exact zz3 (HB.out) GB5.out:Below w0.heap.size w0 w11));have n2_:=zz31 (Kept.of_grown (S:=(fun k_=>P0_ k_)) hg (by repeat (first | (with_reducible first | exact HK.out | apply Kept.alloc | apply Kept.drewN | apply Kept.drew) | exact HK.out)) (fun k_ e_=>(HO_0.out.1 k_ e_)));clear HO_0;clear HB;clear HK;have HO_0:=n0_;have HB:=n1_;have HK:=n2_;clear n0_ n1_ n2_;clear hg hw hp_))
     go_roundg k1
     case measure=>have:=HK1.out;omega
     case rel=>exact ⟨(y118),(wrap64 ((wrap64 (x1_1+1))+1)),(wrap64 (x5_1+1)),(by first | rfl | (simp;done) | (simp [*];done)),(by first | rfl | (simp;done) | (simp [*];done)),H',⟨by have:=HK1.out;omega⟩,⟨by (with_reducible repeat (first | apply zz12 | apply zz13 | apply zz14));exact HO_0.out⟩,⟨by repeat (first | (with_reducible first | exact HK.out | apply Kept.alloc | apply Kept.drewN | apply Kept.drew) | exact HK.out)⟩,⟨by repeat first | exact HB.out | apply zz2 | apply zz0 | apply zz1⟩⟩
    ·rw [if_neg c4] at H
     exact absurd H (by simp)
   ·rw [if_neg c3] at H
    have c3b0:decide (x5_1 < (x0_1.length:Int))=false:=decide_eq_false c3
    clear c3
    simp only [Option.some.injEq,Prod.mk.injEq] at H
    obtain ⟨rfl,rfl⟩:=H
    obtain ⟨Ao12,co12,eo12⟩:=Kd.R_slice HO_0.out
    subst eo12
    go_wp2
    go_ret
    exact ⟨by first | rfl | (simp [errW_none,errW_some] <;> rfl) | (simp [*,errW_none,errW_some] <;> rfl),by (with_reducible repeat (first | apply zz12 | apply zz13 | apply zz14));exact HO_0.out,by repeat first | exact HB.out | apply zz2 | apply zz0 | apply zz1,by repeat (first | (with_reducible first | exact HK.out | apply Kept.alloc | apply Kept.drewN | apply Kept.drew) | exact HK.out)⟩

/-! ### laws_markParty: function 24 -/
def laws_markParty.f (k:Nat) (a0_0:Int) (l0_1:List (S80)) (a1:Int):Option (Int × (List (S80))):=(laws_markPairS.f k l0_1 a1).bind fun bt120=>(some (bt120.1,bt120.2))
theorem laws_markParty.mono:∀ a0 a1 a2 k,LeO (laws_markParty.f k a0 a1 a2) (laws_markParty.f (k+1) a0 a1 a2):=by
 intro a0 a1 a2 k
 unfold laws_markParty.f
 repeat' first
   | (with_reducible exact laws_markPairS.mono _ _ _)
   | (with_reducible exact LeO.refl _)
   | (with_reducible exact LeO.none _)
   | (with_reducible refine LeO.ite ?_ ?_)
   | (with_reducible refine LeO.bind ?_ (fun _=>?_))
   | exact laws_markPairS.mono _ _ _
   | exact LeO.none _
   | refine LeO.ite ?_ ?_
   | refine LeO.bind ?_ (fun _=>?_)
set_option maxHeartbeats 8000000 in
set_option maxRecDepth 100000 in
theorem laws_markParty.calls (k:Nat) (a0_0:Int) (P0_1_:Nat→Prop) (u9000_:Value) (l0_1:List (S80)) (a1:Int) (r1:Int) (r2:List (S80)) (w0 w:World) (hB:Below w0.heap.size w0 w) (ho0_1:Kd.R k80 80 w w0.heap.size P0_1_ u9000_ l0_1) (h:laws_markParty.f k a0_0 l0_1 a1=some (r1,r2)) :
  Calls Try.prog 24 #[.agg #[.int .i64 a0_0,u9000_],.int .i64 a1] w fun e w'=>e=.returned (.int .i64 r1)∧Kd.R k80 80 w' w0.heap.size (fun k_=>(P0_1_ k_ ∨ w.heap.size≤k_)) u9000_ r2∧Below w0.heap.size w0 w'∧Kept w w' (fun k_=>P0_1_ k_):=by
 have hu32:=Try.underlying32
 have HO0_1:=zz31 (show Kd.R k80 80 w w0.heap.size (fun k_=>(P0_1_ k_ ∨ w.heap.size≤k_)) u9000_ l0_1 from Kd.R_mono ho0_1 (fun k_ hk=>(.inl hk)))
 have HK:=zz31 (Kept.refl w (fun k_=>P0_1_ k_))
 have HW0:=zz31 hB.size
 have HB:=zz31 hB
 clear hB
 have H:((laws_markPairS.f k l0_1 a1).bind fun bt120=>(some (bt120.1,bt120.2)))=some (r1,r2):=h
 clear h
 replace H:=zz30.mp H
 obtain ⟨⟨t120,t121⟩,A30,H⟩:=H
 replace H:(some (t120,t121))=some (r1,r2):=H
 have A3:=zz31 A30
 clear A30
 simp only [Option.some.injEq,Prod.mk.injEq] at H
 obtain ⟨rfl,rfl⟩:=H
 obtain ⟨Ao4,co4,eo4⟩:=Kd.R_slice HO0_1.out
 subst eo4
 go_enter Try.func24,Try.ntmps24
 go_wp2_with (first | ((with_reducible refine gate_dst (N:=2) rfl ?_);refine box_event ?hg (N:=2) ?hd (cs:=#[.int .i64 a0_0,.slice Ao4 l0_1.length co4]) (t:=32) ?hr ?_;(case hd=>rfl);(case hg=>rfl);(case hr=>first | (go_simp;done) | (go_simp;rfl));intro gb119 hg w5 hbox hb;have n0_:=zz31 (Kd.R_below (by (with_reducible repeat (first | apply zz12 | apply zz13 | apply zz14));exact HO0_1.out) hb);have n1_:=zz31 (Kept.below (S:=(fun k_=>P0_1_ k_)) (by repeat (first | (with_reducible first | exact HK.out | apply Kept.alloc | apply Kept.drewN | apply Kept.drew) | exact HK.out)) hb);have n2_:=zz31 (zz4 (by repeat first | exact HB.out | apply zz2 | apply zz0 | apply zz1) hb);have n3_:=zz31 (hbox);have n4_:=zz31 ((by rw [hg];exact (by first | exact HK.out.1 | exact (show Kept w _ (fun k_=>P0_1_ k_) from by repeat (first | (with_reducible first | exact HK.out | apply Kept.alloc | apply Kept.drewN | apply Kept.drew) | exact HK.out)).1):w.heap.size≤gb119));have n5_:=zz31 ((by rw [hg];exact (zz5 (by repeat first | exact HB.out | apply zz2 | apply zz0 | apply zz1)):w0.heap.size≤gb119));clear HO0_1;clear HK;clear HB;have HO0_1:=n0_;have HK:=n1_;have HB:=n2_;have BK119:=n3_;have GW119:=n4_;have GE119:=n5_;clear n0_ n1_ n2_ n3_ n4_ n5_;clear hb hbox hg;have hcz6_0:w5.cell? ⟨gb119,0,none⟩=some (.int .i64 a0_0):=(zz9 BK119.out 0).trans rfl;have hcz6_1:w5.cell? ⟨gb119,1,none⟩=some (.slice Ao4 l0_1.length co4):=(zz9 BK119.out 1).trans rfl;have hfz6_0:=zz10 BK119.out 0;have hfz6_1:=zz10 BK119.out 1) | ((with_reducible refine gate_callee (f:=54) rfl ?_);refine goesL_ (some 8) rfl rfl Try.func54 (by kernel_rfl) rfl #[.slice Ao4 l0_1.length co4,.int .i64 a1] rfl (by (try simp only [zz26,zz27,zz28]);first | done | rfl | (simp only [zz24,zz25];rfl)) ?_;(with_reducible refine (laws_markPairS.calls k (fun k_=>some k_=(.slice Ao4 l0_1.length co4:Value).ownBlock) (.slice Ao4 l0_1.length co4) l0_1 a1 t120 t121 w0 _ ?side1 ?side2 A3.out).mono ?_);(case side1=>repeat first | exact HB.out | apply zz2 | apply zz0 | apply zz1 | refine zz3 ?_ GE119.out);(case side2=>exact Kd.R_tight rfl HO0_1.out);rintro e w7 ⟨rfl,hy0,hb,hkp⟩;refine ⟨_,rfl,?_⟩;have n0_:=zz31 (Kd.R_reok rfl hy0 (fun k_ e_=>HO0_1.out.1 k_ e_));(first | have n1_:=zz31 (blk_kept BK119.out hkp (fun hs_=>(fun e_=>(Kd.R_ne HO0_1.out BK119.out (by decide)) e_) hs_)) | have n1_:=zz31 (blk_kept (by (with_reducible repeat (first | refine zz6 ?_ _ | refine zz7 ?_ | refine zz8 ?_ _));exact BK119.out) hkp (fun hs_=>(fun e_=>(Kd.R_ne HO0_1.out BK119.out (by decide)) e_) hs_)));have n2_:=zz31 (Kept.then_ (S:=(fun k_=>P0_1_ k_)) (by repeat (first | (with_reducible first | exact HK.out | apply Kept.alloc | apply Kept.drewN | apply Kept.drew | refine Kept.setCell ?_ (.inr GW119.out) _) | exact HK.out)) hkp (fun k_ hs_=>(fun e_=>(HO0_1.out.1 k_ e_.symm)) hs_));have n3_:=zz31 (hb);clear HO0_1;clear BK119;clear HK;clear HB;have HO0_1:=n0_;have BK119:=n1_;have HK:=n2_;have HB:=n3_;clear n0_ n1_ n2_ n3_;(try clear hb);(try clear hkp);(try clear hy0)))
 go_ret
 exact ⟨by first | rfl | (simp [errW_none,errW_some] <;> rfl) | (simp [*,errW_none,errW_some] <;> rfl),by (with_reducible repeat (first | apply zz12 | apply zz13 | apply zz14));exact HO0_1.out,by repeat first | exact HB.out | apply zz2 | apply zz0 | apply zz1 | refine zz3 ?_ GE119.out,by repeat (first | (with_reducible first | exact HK.out | apply Kept.alloc | apply Kept.drewN | apply Kept.drew | refine Kept.setCell ?_ (.inr GW119.out) _) | exact HK.out)⟩

/-! ### laws_heldPairS: function 55 -/
def laws_heldPairS.l0:Nat→List (S80)→Int→Int→Option (Int)
 | 0,_,_,_=>none
 | k+1,x0,x1,x5=>if x5 < (x0.length:Int) then (if 0≤x5 then (if ((rd_T80 x0 x5).f0)=x1 then (if ((rd_T80 x0 x5).f1)=(wrap64 (x1+1)) then (laws_heldPairS.l0 k x0 (wrap64 ((wrap64 (x1+1))+1)) (wrap64 (x5+1))) else (some (-1))) else (some (-1))) else (none)) else (some x1)
def laws_heldPairS.f (k:Nat) (l0:List (S80)) (a1:Int):Option (Int):=laws_heldPairS.l0 k l0 a1 0
theorem laws_heldPairS.mono_l:∀ k,(∀ y0 y1 y2,LeO (laws_heldPairS.l0 k y0 y1 y2) (laws_heldPairS.l0 (k+1) y0 y1 y2))
 | 0=>fun _ _ _ r h=>by simp [laws_heldPairS.l0] at h
 | k+1=>by
  have ih0:=laws_heldPairS.mono_l k
  ·intro y0 y1 y2
   unfold laws_heldPairS.l0
   repeat' first
   | (with_reducible exact ih0 _ _ _)
   | (with_reducible exact LeO.refl _)
   | (with_reducible exact LeO.none _)
   | (with_reducible refine LeO.ite ?_ ?_)
   | (with_reducible refine LeO.bind ?_ (fun _=>?_))
   | exact ih0 _ _ _
   | exact LeO.none _
   | refine LeO.ite ?_ ?_
   | refine LeO.bind ?_ (fun _=>?_)
theorem laws_heldPairS.mono:∀ a0 a1 k,LeO (laws_heldPairS.f k a0 a1) (laws_heldPairS.f (k+1) a0 a1):=by
 intro a0 a1 k
 have ih0:=laws_heldPairS.mono_l k
 unfold laws_heldPairS.f
 repeat' first
   | (with_reducible exact ih0 _ _ _)
   | (with_reducible exact LeO.refl _)
   | (with_reducible exact LeO.none _)
   | (with_reducible refine LeO.ite ?_ ?_)
   | (with_reducible refine LeO.bind ?_ (fun _=>?_))
   | exact ih0 _ _ _
   | exact LeO.none _
   | refine LeO.ite ?_ ?_
   | refine LeO.bind ?_ (fun _=>?_)
set_option maxHeartbeats 8000000 in
set_option maxRecDepth 100000 in
theorem laws_heldPairS.calls (k:Nat) (A0:Option Addr) (c0:Nat) (l0:List (S80)) (a1:Int) (r:Int) (w:World) (hr0:Kd.C k80 w A0 l0.length l0) (hc0:l0.length≤c0) (h:laws_heldPairS.f k l0 a1=some r) :
  Calls Try.prog 55 #[.slice A0 l0.length c0,.int .i64 a1] w fun e w'=>e=.returned (.int .i64 r)∧Drawn0 w w':=by
 have HR0:=zz31 hr0
 have HC0:=zz31 hc0
 clear hr0 hc0
 have H:(laws_heldPairS.l0 k l0 a1 0)=some r:=h
 clear h
 have H':=zz31 H
 clear H
 go_enter Try.func55,Try.ntmps55
 go_wp2
 go_loopg [1,5] k (fun kq v1 v5 w'=>∃ (x1_1:Int) (x5_1:Int),v1=.int .i64 x1_1∧v5=.int .i64 x5_1∧Aside0 (laws_heldPairS.l0 kq l0 x1_1 x5_1=some r)∧Aside0 (kq≤k)∧Drawn0 w w')
 case atStart=>exact ⟨(a1),(0),(by first | rfl | (simp;done) | (simp [*];done)),(by first | rfl | (simp;done) | (simp [*];done)),H',⟨Nat.le_refl _⟩,by repeat (first | exact Drawn0.refl _ | apply Drawn0.step)⟩
 case round =>
  clear H'
  try clear p2
  obtain ⟨x1_1,x5_1,rfl,rfl,HA,HK1,⟨m1,rfl⟩⟩:=hrel
  cases gk with
  | zero=>exact absurd HA.out (by simp [laws_heldPairS.l0])
  | succ k1 =>
   have H:=HA.out
   clear HA
   simp only [laws_heldPairS.l0] at H
   by_cases c3:x5_1 < (l0.length:Int)
   ·rw [if_pos c3] at H
    have c3b0:decide (x5_1 < (l0.length:Int))=true:=decide_eq_true c3
    clear c3
    by_cases c4:0≤x5_1
    ·rw [if_pos c4] at H
     have c4b0:decide (0≤x5_1)=true:=decide_eq_true c4
     clear c4
     by_cases c5:((rd_T80 l0 x5_1).f0)=x1_1
     ·rw [if_pos c5] at H
      have c5b0:(((rd_T80 l0 x5_1).f0) == x1_1)=true:=beq_iff_eq.mpr c5
      have c5b1:(((rd_T80 l0 x5_1).f0) != x1_1)=false:=bne_eq_false_iff_eq.mpr c5
      clear c5
      by_cases c6:((rd_T80 l0 x5_1).f1)=(wrap64 (x1_1+1))
      ·rw [if_pos c6] at H
       have c6b0:(((rd_T80 l0 x5_1).f1) == (wrap64 (x1_1+1)))=true:=beq_iff_eq.mpr c6
       have c6b1:(((rd_T80 l0 x5_1).f1) != (wrap64 (x1_1+1)))=false:=bne_eq_false_iff_eq.mpr c6
       clear c6
       have H':=zz31 H
       clear H
       have p122:0≤(x5_1:Int):=zz29 (by first | (with_reducible assumption) | assumption)
       have q122:x5_1 < (l0.length:Int):=zz29 (by first | (with_reducible assumption) | assumption)
       obtain ⟨ad122,e122,hx122_0,hx122_1⟩:=at_T80 HR0.out x5_1 p122 q122
       cases e122
       replace p122:=eq_true p122
       replace q122:=eq_true q122
       have p123:0≤(x5_1:Int):=zz29 (by first | (with_reducible assumption) | assumption)
       have q123:x5_1 < (l0.length:Int):=zz29 (by first | (with_reducible assumption) | assumption)
       obtain ⟨ad123,e123,hx123_0,hx123_1⟩:=at_T80 HR0.out x5_1 p123 q123
       obtain rfl:ad122=ad123:=(by injection e123)
       replace p123:=eq_true p123
       replace q123:=eq_true q123
       go_wp2
       go_roundg k1
       case measure=>have:=HK1.out;omega
       case rel=>exact ⟨(wrap64 ((wrap64 (x1_1+1))+1)),(wrap64 (x5_1+1)),(by first | rfl | (simp;done) | (simp [*];done)),(by first | rfl | (simp;done) | (simp [*];done)),H',⟨by have:=HK1.out;omega⟩,by repeat (first | exact Drawn0.refl _ | apply Drawn0.step)⟩
      ·rw [if_neg c6] at H
       have c6b0:(((rd_T80 l0 x5_1).f1) == (wrap64 (x1_1+1)))=false:=beq_eq_false_iff_ne.mpr c6
       have c6b1:(((rd_T80 l0 x5_1).f1) != (wrap64 (x1_1+1)))=true:=bne_iff_ne.mpr c6
       obtain rfl:=Option.some.inj H
       have p122:0≤(x5_1:Int):=zz29 (by first | (with_reducible assumption) | assumption)
       have q122:x5_1 < (l0.length:Int):=zz29 (by first | (with_reducible assumption) | assumption)
       obtain ⟨ad122,e122,hx122_0,hx122_1⟩:=at_T80 HR0.out x5_1 p122 q122
       cases e122
       replace p122:=eq_true p122
       replace q122:=eq_true q122
       have p123:0≤(x5_1:Int):=zz29 (by first | (with_reducible assumption) | assumption)
       have q123:x5_1 < (l0.length:Int):=zz29 (by first | (with_reducible assumption) | assumption)
       obtain ⟨ad123,e123,hx123_0,hx123_1⟩:=at_T80 HR0.out x5_1 p123 q123
       obtain rfl:ad122=ad123:=(by injection e123)
       replace p123:=eq_true p123
       replace q123:=eq_true q123
       go_wp2
       go_ret
       exact ⟨by first | rfl | (simp;done) | (simp [*];done),by repeat (first | exact Drawn0.refl _ | apply Drawn0.step)⟩
     ·rw [if_neg c5] at H
      have c5b0:(((rd_T80 l0 x5_1).f0) == x1_1)=false:=beq_eq_false_iff_ne.mpr c5
      have c5b1:(((rd_T80 l0 x5_1).f0) != x1_1)=true:=bne_iff_ne.mpr c5
      obtain rfl:=Option.some.inj H
      have p122:0≤(x5_1:Int):=zz29 (by first | (with_reducible assumption) | assumption)
      have q122:x5_1 < (l0.length:Int):=zz29 (by first | (with_reducible assumption) | assumption)
      obtain ⟨ad122,e122,hx122_0,hx122_1⟩:=at_T80 HR0.out x5_1 p122 q122
      cases e122
      replace p122:=eq_true p122
      replace q122:=eq_true q122
      go_wp2
      go_ret
      exact ⟨by first | rfl | (simp;done) | (simp [*];done),by repeat (first | exact Drawn0.refl _ | apply Drawn0.step)⟩
    ·rw [if_neg c4] at H
     exact absurd H (by simp)
   ·rw [if_neg c3] at H
    have c3b0:decide (x5_1 < (l0.length:Int))=false:=decide_eq_false c3
    clear c3
    obtain rfl:=Option.some.inj H
    go_wp2
    go_ret
    exact ⟨by first | rfl | (simp;done) | (simp [*];done),by repeat (first | exact Drawn0.refl _ | apply Drawn0.step)⟩

/-! ### laws_heldParty: function 25 -/
def laws_heldParty.f (k:Nat) (a0_0:Int) (l0_1:List (S80)) (a1:Int):Option (Int):=(laws_heldPairS.f k l0_1 a1).bind fun t125=>(if t125 < 0 then (some (-1)) else (some t125))
theorem laws_heldParty.mono:∀ a0 a1 a2 k,LeO (laws_heldParty.f k a0 a1 a2) (laws_heldParty.f (k+1) a0 a1 a2):=by
 intro a0 a1 a2 k
 unfold laws_heldParty.f
 repeat' first
   | (with_reducible exact laws_heldPairS.mono _ _ _)
   | (with_reducible exact LeO.refl _)
   | (with_reducible exact LeO.none _)
   | (with_reducible refine LeO.ite ?_ ?_)
   | (with_reducible refine LeO.bind ?_ (fun _=>?_))
   | exact laws_heldPairS.mono _ _ _
   | exact LeO.none _
   | refine LeO.ite ?_ ?_
   | refine LeO.bind ?_ (fun _=>?_)
set_option maxHeartbeats 8000000 in
set_option maxRecDepth 100000 in
theorem laws_heldParty.calls (k:Nat) (a0_0:Int) (A0_1:Option Addr) (c0_1:Nat) (l0_1:List (S80)) (a1:Int) (r:Int) (w:World) (hr0_1:Kd.C k80 w A0_1 l0_1.length l0_1) (hc0_1:l0_1.length≤c0_1) (h:laws_heldParty.f k a0_0 l0_1 a1=some r) :
  Calls Try.prog 25 #[.agg #[.int .i64 a0_0,.slice A0_1 l0_1.length c0_1],.int .i64 a1] w fun e w'=>e=.returned (.int .i64 r)∧Below w.heap.size w w':=by
 have hu32:=Try.underlying32
 have HR0_1:=zz31 hr0_1
 have HC0_1:=zz31 hc0_1
 clear hr0_1 hc0_1
 have HB:=zz31 (Below.refl w.heap.size w)
 have H:((laws_heldPairS.f k l0_1 a1).bind fun t125=>(if t125 < 0 then (some (-1)) else (some t125)))=some r:=h
 clear h
 replace H:=zz30.mp H
 obtain ⟨t125,A30,H⟩:=H
 replace H:(if t125 < 0 then (some (-1)) else (some t125))=some r:=H
 have A3:=zz31 A30
 clear A30
 by_cases c4:t125 < 0
 ·rw [if_pos c4] at H
  have c4b0:decide (t125 < 0)=true:=decide_eq_true c4
  clear c4
  obtain rfl:=Option.some.inj H
  go_enter Try.func25,Try.ntmps25
  go_wp2_with (first | ((with_reducible refine gate_dst (N:=2) rfl ?_);refine box_event ?hg (N:=2) ?hd (cs:=#[.int .i64 a0_0,.slice A0_1 l0_1.length c0_1]) (t:=32) ?hr ?_;(case hd=>rfl);(case hg=>rfl);(case hr=>first | (go_simp;done) | (go_simp;rfl));intro gb124 hg w5 hbox hb;have n0_:=zz31 (zz4 (by repeat first | exact HB.out | apply zz2 | apply zz0 | apply zz1) hb);have n1_:=zz31 (hbox);have n2_:=zz31 ((by rw [hg];exact (zz5 (by repeat first | exact HB.out | apply zz2 | apply zz0 | apply zz1)):w.heap.size≤gb124));have n3_:=zz31 ((by rw [hg];exact (zz5 (by repeat first | exact HB.out | apply zz2 | apply zz0 | apply zz1)):w.heap.size≤gb124));clear HB;have HB:=n0_;have BK124:=n1_;have GW124:=n2_;have GE124:=n3_;clear n0_ n1_ n2_ n3_;clear hb hbox hg;have hcz6_0:w5.cell? ⟨gb124,0,none⟩=some (.int .i64 a0_0):=(zz9 BK124.out 0).trans rfl;have hcz6_1:w5.cell? ⟨gb124,1,none⟩=some (.slice A0_1 l0_1.length c0_1):=(zz9 BK124.out 1).trans rfl;have hfz6_0:=zz10 BK124.out 0;have hfz6_1:=zz10 BK124.out 1) | ((with_reducible refine gate_callee (f:=55) rfl ?_);refine goesL_ (some 8) rfl rfl Try.func55 (by kernel_rfl) rfl #[.slice A0_1 l0_1.length c0_1,.int .i64 a1] rfl (by (try simp only [zz26,zz27,zz28]);first | done | rfl | (simp only [zz24,zz25];rfl)) ?_;(with_reducible refine (laws_heldPairS.calls k _ _ l0_1 a1 t125 _ ?side1 ?side2 A3.out).mono ?_);(case side1=>repeat (first | exact (Kd.C_below HR0_1.out HB.out) | (with_reducible refine zz18 ?_ _) | (with_reducible refine zz19 ?_ _) | (with_reducible refine zz20 ?_)));(case side2=>exact HC0_1.out);rintro e w' ⟨rfl,⟨nd,rfl⟩⟩;refine ⟨_,rfl,?_⟩))
  go_ret
  exact ⟨by first | rfl | (simp [errW_none,errW_some] <;> rfl) | (simp [*,errW_none,errW_some] <;> rfl),by repeat first | exact HB.out | apply zz2 | apply zz0 | apply zz1 | refine zz3 ?_ GE124.out⟩
 ·rw [if_neg c4] at H
  have c4b0:decide (t125 < 0)=false:=decide_eq_false c4
  clear c4
  obtain rfl:=Option.some.inj H
  go_enter Try.func25,Try.ntmps25
  go_wp2_with (first | ((with_reducible refine gate_dst (N:=2) rfl ?_);refine box_event ?hg (N:=2) ?hd (cs:=#[.int .i64 a0_0,.slice A0_1 l0_1.length c0_1]) (t:=32) ?hr ?_;(case hd=>rfl);(case hg=>rfl);(case hr=>first | (go_simp;done) | (go_simp;rfl));intro gb124 hg w7 hbox hb;have n0_:=zz31 (zz4 (by repeat first | exact HB.out | apply zz2 | apply zz0 | apply zz1) hb);have n1_:=zz31 (hbox);have n2_:=zz31 ((by rw [hg];exact (zz5 (by repeat first | exact HB.out | apply zz2 | apply zz0 | apply zz1)):w.heap.size≤gb124));have n3_:=zz31 ((by rw [hg];exact (zz5 (by repeat first | exact HB.out | apply zz2 | apply zz0 | apply zz1)):w.heap.size≤gb124));clear HB;have HB:=n0_;have BK124:=n1_;have GW124:=n2_;have GE124:=n3_;clear n0_ n1_ n2_ n3_;clear hb hbox hg;have hcz8_0:w7.cell? ⟨gb124,0,none⟩=some (.int .i64 a0_0):=(zz9 BK124.out 0).trans rfl;have hcz8_1:w7.cell? ⟨gb124,1,none⟩=some (.slice A0_1 l0_1.length c0_1):=(zz9 BK124.out 1).trans rfl;have hfz8_0:=zz10 BK124.out 0;have hfz8_1:=zz10 BK124.out 1) | ((with_reducible refine gate_callee (f:=55) rfl ?_);refine goesL_ (some 8) rfl rfl Try.func55 (by kernel_rfl) rfl #[.slice A0_1 l0_1.length c0_1,.int .i64 a1] rfl (by (try simp only [zz26,zz27,zz28]);first | done | rfl | (simp only [zz24,zz25];rfl)) ?_;(with_reducible refine (laws_heldPairS.calls k _ _ l0_1 a1 t125 _ ?side1 ?side2 A3.out).mono ?_);(case side1=>repeat (first | exact (Kd.C_below HR0_1.out HB.out) | (with_reducible refine zz18 ?_ _) | (with_reducible refine zz19 ?_ _) | (with_reducible refine zz20 ?_)));(case side2=>exact HC0_1.out);rintro e w' ⟨rfl,⟨nd,rfl⟩⟩;refine ⟨_,rfl,?_⟩))
  go_ret
  exact ⟨by first | rfl | (simp [errW_none,errW_some] <;> rfl) | (simp [*,errW_none,errW_some] <;> rfl),by repeat first | exact HB.out | apply zz2 | apply zz0 | apply zz1 | refine zz3 ?_ GE124.out⟩

/-! ### spec_l1In: function 76 -/
def spec_l1In.f (a0:Int) (a1:Int) (a2:Int):Option (Bool):=if a0 ≥ a1 then (some (decide (a0≤a2))) else (some false)
set_option maxHeartbeats 8000000 in
set_option maxRecDepth 100000 in
theorem spec_l1In.calls (a0:Int) (a1:Int) (a2:Int) (r:Bool) (w:World) (h:spec_l1In.f a0 a1 a2=some r) :
  Calls Try.prog 76 #[.int .i64 a0,.int .i64 a1,.int .i64 a2] w fun e w'=>e=.returned (.bool r)∧Drawn0 w w':=by
 have H:(if a0 ≥ a1 then (some (decide (a0≤a2))) else (some false))=some r:=h
 clear h
 by_cases c4:a0 ≥ a1
 ·rw [if_pos c4] at H
  have c4b0:decide (a1≤a0)=true:=decide_eq_true c4
  clear c4
  obtain rfl:=Option.some.inj H
  go_enter Try.func76,Try.ntmps76
  go_wp2
  go_ret
  exact ⟨by first | rfl | (simp;done) | (simp [*];done),by repeat (first | exact Drawn0.refl _ | apply Drawn0.step)⟩
 ·rw [if_neg c4] at H
  have c4b0:decide (a1≤a0)=false:=decide_eq_false c4
  clear c4
  obtain rfl:=Option.some.inj H
  go_enter Try.func76,Try.ntmps76
  go_wp2
  go_ret
  exact ⟨by first | rfl | (simp;done) | (simp [*];done),by repeat (first | exact Drawn0.refl _ | apply Drawn0.step)⟩

/-! ### spec_l1All: function 90 -/
def spec_l1All.l0:Nat→Int→Int→List Int→Int→Int→Option (Bool)
 | 0,_,_,_,_,_=>none
 | k+1,x1,x2,x9,x10,x11=>if x11 < x10 then (if 0≤x11 then (if x11 < (x9.length:Int) then ((spec_l1In.f (rd x9 x11) x1 x2).bind fun t127=>(if t127=true then (spec_l1All.l0 k x1 x2 x9 x10 (wrap64 (x11+1))) else (some false))) else (none)) else (none)) else (some true)
def spec_l1All.f (k:Nat) (l0:List Int) (a1:Int) (a2:Int):Option (Bool):=spec_l1All.l0 k a1 a2 l0 (l0.length:Int) 0
theorem spec_l1All.mono_l:∀ k,(∀ y0 y1 y2 y3 y4,LeO (spec_l1All.l0 k y0 y1 y2 y3 y4) (spec_l1All.l0 (k+1) y0 y1 y2 y3 y4))
 | 0=>fun _ _ _ _ _ r h=>by simp [spec_l1All.l0] at h
 | k+1=>by
  have ih0:=spec_l1All.mono_l k
  ·intro y0 y1 y2 y3 y4
   unfold spec_l1All.l0
   repeat' first
   | (with_reducible exact ih0 _ _ _ _ _)
   | (with_reducible exact LeO.refl _)
   | (with_reducible exact LeO.none _)
   | (with_reducible refine LeO.ite ?_ ?_)
   | (with_reducible refine LeO.bind ?_ (fun _=>?_))
   | exact ih0 _ _ _ _ _
   | exact LeO.none _
   | refine LeO.ite ?_ ?_
   | refine LeO.bind ?_ (fun _=>?_)
theorem spec_l1All.mono:∀ a0 a1 a2 k,LeO (spec_l1All.f k a0 a1 a2) (spec_l1All.f (k+1) a0 a1 a2):=by
 intro a0 a1 a2 k
 have ih0:=spec_l1All.mono_l k
 unfold spec_l1All.f
 repeat' first
   | (with_reducible exact ih0 _ _ _ _ _)
   | (with_reducible exact LeO.refl _)
   | (with_reducible exact LeO.none _)
   | (with_reducible refine LeO.ite ?_ ?_)
   | (with_reducible refine LeO.bind ?_ (fun _=>?_))
   | exact ih0 _ _ _ _ _
   | exact LeO.none _
   | refine LeO.ite ?_ ?_
   | refine LeO.bind ?_ (fun _=>?_)
set_option maxHeartbeats 8000000 in
set_option maxRecDepth 100000 in
theorem spec_l1All.calls (k:Nat) (A0:Option Addr) (c0:Nat) (l0:List Int) (a1:Int) (a2:Int) (r:Bool) (w:World) (hr0:Kd.C (Kd.int .i64) w A0 l0.length l0) (hc0:l0.length≤c0) (h:spec_l1All.f k l0 a1 a2=some r) :
  Calls Try.prog 90 #[.slice A0 l0.length c0,.int .i64 a1,.int .i64 a2] w fun e w'=>e=.returned (.bool r)∧Drawn0 w w':=by
 have HR0:=zz31 hr0
 have HC0:=zz31 hc0
 clear hr0 hc0
 have H:(spec_l1All.l0 k a1 a2 l0 (l0.length:Int) 0)=some r:=h
 clear h
 have H':=zz31 H
 clear H
 go_enter Try.func90,Try.ntmps90
 go_wp2
 go_loopg [11] k (fun kq v11 w'=>∃ (x11_1:Int),v11=.int .i64 x11_1∧Aside0 (spec_l1All.l0 kq a1 a2 l0 (l0.length:Int) x11_1=some r)∧Aside0 (kq≤k)∧Drawn0 w w')
 case atStart=>exact ⟨(0),(by first | rfl | (simp;done) | (simp [*];done)),H',⟨Nat.le_refl _⟩,by repeat (first | exact Drawn0.refl _ | apply Drawn0.step)⟩
 case round =>
  clear H'
  try clear p2
  obtain ⟨x11_1,rfl,HA,HK1,⟨m1,rfl⟩⟩:=hrel
  cases gk with
  | zero=>exact absurd HA.out (by simp [spec_l1All.l0])
  | succ k1 =>
   have H:=HA.out
   clear HA
   simp only [spec_l1All.l0] at H
   by_cases c4:x11_1 < (l0.length:Int)
   ·rw [if_pos c4] at H
    have c4b0:decide (x11_1 < (l0.length:Int))=true:=decide_eq_true c4
    clear c4
    by_cases c5:0≤x11_1
    ·rw [if_pos c5] at H
     have c5b0:decide (0≤x11_1)=true:=decide_eq_true c5
     clear c5
     by_cases c6:x11_1 < (l0.length:Int)
     ·rw [if_pos c6] at H
      have c6b0:decide (x11_1 < (l0.length:Int))=true:=decide_eq_true c6
      clear c6
      replace H:=zz30.mp H
      obtain ⟨t127,A70,H⟩:=H
      replace H:(if t127=true then (spec_l1All.l0 k1 a1 a2 l0 (l0.length:Int) (wrap64 (x11_1+1))) else (some false))=some r:=H
      have A7:=zz31 A70
      clear A70
      by_cases c8:t127=true
      ·subst c8
       have H1:(spec_l1All.l0 k1 a1 a2 l0 (l0.length:Int) (wrap64 (x11_1+1)))=some r:=by rw [if_pos rfl] at H;exact H
       clear H
       have H:=H1
       clear H1
       have H':=zz31 H
       clear H
       have p126:0≤(x11_1:Int):=zz29 (by first | (with_reducible assumption) | assumption)
       have q126:x11_1 < (l0.length:Int):=zz29 (by first | (with_reducible assumption) | assumption)
       obtain ⟨ad126,e126,hx126_0⟩:=Kd.at_int HR0.out x11_1 p126 q126
       cases e126
       replace p126:=eq_true p126
       replace q126:=eq_true q126
       go_wp2_with (first | ((with_reducible refine gate_callee (f:=76) rfl ?_);refine goesL_ (some 18) rfl rfl Try.func76 (by kernel_rfl) rfl #[.int .i64 (rd l0 x11_1),.int .i64 a1,.int .i64 a2] rfl (by (try simp only [zz26,zz27,zz28]);first | done | rfl | (simp only [zz24,zz25];rfl)) ?_;(with_reducible refine (spec_l1In.calls (rd l0 x11_1) a1 a2 true _ A7.out).mono ?_);rintro e w' ⟨rfl,⟨nd,rfl⟩⟩;refine ⟨_,rfl,?_⟩))
       go_roundg k1
       case measure=>have:=HK1.out;omega
       case rel=>exact ⟨(wrap64 (x11_1+1)),(by first | rfl | (simp;done) | (simp [*];done)),H',⟨by have:=HK1.out;omega⟩,by repeat (first | exact Drawn0.refl _ | apply Drawn0.step)⟩
      ·replace c8:=Bool.eq_false_iff.mpr c8
       subst c8
       have H1:(some false)=some r:=by rw [if_neg (show ¬ (false=true) by decide)] at H;exact H
       clear H
       have H:=H1
       clear H1
       obtain rfl:=Option.some.inj H
       have p126:0≤(x11_1:Int):=zz29 (by first | (with_reducible assumption) | assumption)
       have q126:x11_1 < (l0.length:Int):=zz29 (by first | (with_reducible assumption) | assumption)
       obtain ⟨ad126,e126,hx126_0⟩:=Kd.at_int HR0.out x11_1 p126 q126
       cases e126
       replace p126:=eq_true p126
       replace q126:=eq_true q126
       go_wp2_with (first | ((with_reducible refine gate_callee (f:=76) rfl ?_);refine goesL_ (some 18) rfl rfl Try.func76 (by kernel_rfl) rfl #[.int .i64 (rd l0 x11_1),.int .i64 a1,.int .i64 a2] rfl (by (try simp only [zz26,zz27,zz28]);first | done | rfl | (simp only [zz24,zz25];rfl)) ?_;(with_reducible refine (spec_l1In.calls (rd l0 x11_1) a1 a2 false _ A7.out).mono ?_);rintro e w' ⟨rfl,⟨nd,rfl⟩⟩;refine ⟨_,rfl,?_⟩))
       go_ret
       exact ⟨by first | rfl | (simp;done) | (simp [*];done),by repeat (first | exact Drawn0.refl _ | apply Drawn0.step)⟩
     ·rw [if_neg c6] at H
      exact absurd H (by simp)
    ·rw [if_neg c5] at H
     exact absurd H (by simp)
   ·rw [if_neg c4] at H
    have c4b0:decide (x11_1 < (l0.length:Int))=false:=decide_eq_false c4
    clear c4
    obtain rfl:=Option.some.inj H
    go_wp2
    go_ret
    exact ⟨by first | rfl | (simp;done) | (simp [*];done),by repeat (first | exact Drawn0.refl _ | apply Drawn0.step)⟩

/-! ### spec_deGood: function 56 -/
def spec_deGood.f (k:Nat) (l0:List Int):Option (Bool):=if (l0.length:Int)≤12 then ((spec_l1All.f k l0 0 (wrap64 ((l0.length:Int) - 1))).bind fun t128=>(some t128)) else (some false)
theorem spec_deGood.mono:∀ a0 k,LeO (spec_deGood.f k a0) (spec_deGood.f (k+1) a0):=by
 intro a0 k
 unfold spec_deGood.f
 repeat' first
   | (with_reducible exact spec_l1All.mono _ _ _ _)
   | (with_reducible exact LeO.refl _)
   | (with_reducible exact LeO.none _)
   | (with_reducible refine LeO.ite ?_ ?_)
   | (with_reducible refine LeO.bind ?_ (fun _=>?_))
   | exact spec_l1All.mono _ _ _ _
   | exact LeO.none _
   | refine LeO.ite ?_ ?_
   | refine LeO.bind ?_ (fun _=>?_)
set_option maxHeartbeats 8000000 in
set_option maxRecDepth 100000 in
theorem spec_deGood.calls (k:Nat) (A0:Option Addr) (c0:Nat) (l0:List Int) (r:Bool) (w:World) (hr0:Kd.C (Kd.int .i64) w A0 l0.length l0) (hc0:l0.length≤c0) (h:spec_deGood.f k l0=some r) :
  Calls Try.prog 56 #[.slice A0 l0.length c0] w fun e w'=>e=.returned (.bool r)∧Drawn0 w w':=by
 have HR0:=zz31 hr0
 have HC0:=zz31 hc0
 clear hr0 hc0
 have H:(if (l0.length:Int)≤12 then ((spec_l1All.f k l0 0 (wrap64 ((l0.length:Int) - 1))).bind fun t128=>(some t128)) else (some false))=some r:=h
 clear h
 by_cases c2:(l0.length:Int)≤12
 ·rw [if_pos c2] at H
  have c2b0:decide ((l0.length:Int)≤12)=true:=decide_eq_true c2
  have c2b1:decide (l0.length≤12)=true:=decide_eq_true (by omega)
  clear c2
  replace H:=zz30.mp H
  obtain ⟨t128,A30,H⟩:=H
  replace H:(some t128)=some r:=H
  have A3:=zz31 A30
  clear A30
  obtain rfl:=Option.some.inj H
  go_enter Try.func56,Try.ntmps56
  go_wp2_with (first | (go_at_call 90;(with_reducible refine (spec_l1All.calls k _ _ l0 0 (wrap64 ((l0.length:Int) - 1)) t128 _ ?side1 ?side2 A3.out).mono ?_);(case side1=>repeat (first | exact HR0.out | (with_reducible refine zz18 ?_ _) | (with_reducible refine zz19 ?_ _) | (with_reducible refine zz20 ?_)));(case side2=>exact HC0.out);rintro e w' ⟨rfl,⟨nd,rfl⟩⟩))
  go_ret
  exact ⟨by first | rfl | (simp;done) | (simp [*];done),by repeat (first | exact Drawn0.refl _ | apply Drawn0.step)⟩
 ·rw [if_neg c2] at H
  have c2b0:decide ((l0.length:Int)≤12)=false:=decide_eq_false c2
  have c2b1:decide (l0.length≤12)=false:=decide_eq_false (by omega)
  clear c2
  obtain rfl:=Option.some.inj H
  go_enter Try.func56,Try.ntmps56
  go_wp2
  go_ret
  exact ⟨by first | rfl | (simp;done) | (simp [*];done),by repeat (first | exact Drawn0.refl _ | apply Drawn0.step)⟩

/-! ### spec_deSum: function 58 -/
def spec_deSum.l0:Nat→Int→List Int→Int→Int→Option (Int)
 | 0,_,_,_,_=>none
 | k+1,x3,x6,x7,x8=>if x8 < x7 then (if 0≤x8 then (if x8 < (x6.length:Int) then (spec_deSum.l0 k (wrap64 (x3+(rd x6 x8))) x6 x7 (wrap64 (x8+1))) else (none)) else (none)) else (some x3)
def spec_deSum.f (k:Nat) (l0:List Int):Option (Int):=spec_deSum.l0 k 0 l0 (l0.length:Int) 0
theorem spec_deSum.mono_l:∀ k,(∀ y0 y1 y2 y3,LeO (spec_deSum.l0 k y0 y1 y2 y3) (spec_deSum.l0 (k+1) y0 y1 y2 y3))
 | 0=>fun _ _ _ _ r h=>by simp [spec_deSum.l0] at h
 | k+1=>by
  have ih0:=spec_deSum.mono_l k
  ·intro y0 y1 y2 y3
   unfold spec_deSum.l0
   repeat' first
   | (with_reducible exact ih0 _ _ _ _)
   | (with_reducible exact LeO.refl _)
   | (with_reducible exact LeO.none _)
   | (with_reducible refine LeO.ite ?_ ?_)
   | (with_reducible refine LeO.bind ?_ (fun _=>?_))
   | exact ih0 _ _ _ _
   | exact LeO.none _
   | refine LeO.ite ?_ ?_
   | refine LeO.bind ?_ (fun _=>?_)
theorem spec_deSum.mono:∀ a0 k,LeO (spec_deSum.f k a0) (spec_deSum.f (k+1) a0):=by
 intro a0 k
 have ih0:=spec_deSum.mono_l k
 unfold spec_deSum.f
 repeat' first
   | (with_reducible exact ih0 _ _ _ _)
   | (with_reducible exact LeO.refl _)
   | (with_reducible exact LeO.none _)
   | (with_reducible refine LeO.ite ?_ ?_)
   | (with_reducible refine LeO.bind ?_ (fun _=>?_))
   | exact ih0 _ _ _ _
   | exact LeO.none _
   | refine LeO.ite ?_ ?_
   | refine LeO.bind ?_ (fun _=>?_)
set_option maxHeartbeats 8000000 in
set_option maxRecDepth 100000 in
theorem spec_deSum.calls (k:Nat) (A0:Option Addr) (c0:Nat) (l0:List Int) (r:Int) (w:World) (hr0:Kd.C (Kd.int .i64) w A0 l0.length l0) (hc0:l0.length≤c0) (h:spec_deSum.f k l0=some r) :
  Calls Try.prog 58 #[.slice A0 l0.length c0] w fun e w'=>e=.returned (.int .i64 r)∧Drawn0 w w':=by
 have HR0:=zz31 hr0
 have HC0:=zz31 hc0
 clear hr0 hc0
 have H:(spec_deSum.l0 k 0 l0 (l0.length:Int) 0)=some r:=h
 clear h
 have H':=zz31 H
 clear H
 go_enter Try.func58,Try.ntmps58
 go_wp2
 go_loopg [3,8] k (fun kq v3 v8 w'=>∃ (x3_1:Int) (x8_1:Int),v3=.int .i64 x3_1∧v8=.int .i64 x8_1∧Aside0 (spec_deSum.l0 kq x3_1 l0 (l0.length:Int) x8_1=some r)∧Aside0 (kq≤k)∧Drawn0 w w')
 case atStart=>exact ⟨(0),(0),(by first | rfl | (simp;done) | (simp [*];done)),(by first | rfl | (simp;done) | (simp [*];done)),H',⟨Nat.le_refl _⟩,by repeat (first | exact Drawn0.refl _ | apply Drawn0.step)⟩
 case round =>
  clear H'
  obtain ⟨x3_1,x8_1,rfl,rfl,HA,HK1,⟨m1,rfl⟩⟩:=hrel
  cases gk with
  | zero=>exact absurd HA.out (by simp [spec_deSum.l0])
  | succ k1 =>
   have H:=HA.out
   clear HA
   simp only [spec_deSum.l0] at H
   by_cases c2:x8_1 < (l0.length:Int)
   ·rw [if_pos c2] at H
    have c2b0:decide (x8_1 < (l0.length:Int))=true:=decide_eq_true c2
    clear c2
    by_cases c3:0≤x8_1
    ·rw [if_pos c3] at H
     have c3b0:decide (0≤x8_1)=true:=decide_eq_true c3
     clear c3
     by_cases c4:x8_1 < (l0.length:Int)
     ·rw [if_pos c4] at H
      have c4b0:decide (x8_1 < (l0.length:Int))=true:=decide_eq_true c4
      clear c4
      have H':=zz31 H
      clear H
      have p129:0≤(x8_1:Int):=zz29 (by first | (with_reducible assumption) | assumption)
      have q129:x8_1 < (l0.length:Int):=zz29 (by first | (with_reducible assumption) | assumption)
      obtain ⟨ad129,e129,hx129_0⟩:=Kd.at_int HR0.out x8_1 p129 q129
      cases e129
      replace p129:=eq_true p129
      replace q129:=eq_true q129
      go_wp2
      go_roundg k1
      case measure=>have:=HK1.out;omega
      case rel=>exact ⟨(wrap64 (x3_1+(rd l0 x8_1))),(wrap64 (x8_1+1)),(by first | rfl | (simp;done) | (simp [*];done)),(by first | rfl | (simp;done) | (simp [*];done)),H',⟨by have:=HK1.out;omega⟩,by repeat (first | exact Drawn0.refl _ | apply Drawn0.step)⟩
     ·rw [if_neg c4] at H
      exact absurd H (by simp)
    ·rw [if_neg c3] at H
     exact absurd H (by simp)
   ·rw [if_neg c2] at H
    have c2b0:decide (x8_1 < (l0.length:Int))=false:=decide_eq_false c2
    clear c2
    obtain rfl:=Option.some.inj H
    go_wp2
    go_ret
    exact ⟨by first | rfl | (simp;done) | (simp [*];done),by repeat (first | exact Drawn0.refl _ | apply Drawn0.step)⟩

/-! ### spec_deSorted: function 70 -/
mutual
def spec_deSorted.l0:Nat→List Int→List Int→Int→Option (List Int)
 | 0,_,_,_=>none
 | k+1,x0,x3,x4=>if x4 ≥ 0 then (spec_deSorted.l1 k x0 x3 x4 x0 (x0.length:Int) 0) else (some x3)
def spec_deSorted.l1:Nat→List Int→List Int→Int→List Int→Int→Int→Option (List Int)
 | 0,_,_,_,_,_,_=>none
 | k+1,x0,x3,x4,x13,x14,x15=>if x15 < x14 then (if 0≤x15 then (if x15 < (x13.length:Int) then (if x4=(rd x13 x15) then (if x3.length < 17592186044416 then (spec_deSorted.l1 k x0 (x3 ++ [x4]) x4 x13 x14 (wrap64 (x15+1))) else (none)) else (spec_deSorted.l1 k x0 x3 x4 x13 x14 (wrap64 (x15+1)))) else (none)) else (none)) else (spec_deSorted.l0 k x0 x3 (wrap64 (x4 - 1)))
end
def spec_deSorted.f (k:Nat) (l0:List Int):Option (List Int):=spec_deSorted.l0 k l0 ([]:List Int) (l0.length:Int)
theorem spec_deSorted.mono_l:∀ k,(∀ y0 y1 y2,LeO (spec_deSorted.l0 k y0 y1 y2) (spec_deSorted.l0 (k+1) y0 y1 y2))∧(∀ y0 y1 y2 y3 y4 y5,LeO (spec_deSorted.l1 k y0 y1 y2 y3 y4 y5) (spec_deSorted.l1 (k+1) y0 y1 y2 y3 y4 y5))
 | 0=>⟨fun _ _ _ r h=>by simp [spec_deSorted.l0] at h,fun _ _ _ _ _ _ r h=>by simp [spec_deSorted.l1] at h⟩
 | k+1=>by
  obtain ⟨ih0,ih1⟩:=spec_deSorted.mono_l k
  refine ⟨?_,?_⟩
  ·intro y0 y1 y2
   unfold spec_deSorted.l0
   repeat' first
   | (with_reducible exact ih0 _ _ _)
   | (with_reducible exact ih1 _ _ _ _ _ _)
   | (with_reducible exact LeO.refl _)
   | (with_reducible exact LeO.none _)
   | (with_reducible refine LeO.ite ?_ ?_)
   | (with_reducible refine LeO.bind ?_ (fun _=>?_))
   | exact ih0 _ _ _
   | exact ih1 _ _ _ _ _ _
   | exact LeO.none _
   | refine LeO.ite ?_ ?_
   | refine LeO.bind ?_ (fun _=>?_)
  ·intro y0 y1 y2 y3 y4 y5
   unfold spec_deSorted.l1
   repeat' first
   | (with_reducible exact ih0 _ _ _)
   | (with_reducible exact ih1 _ _ _ _ _ _)
   | (with_reducible exact LeO.refl _)
   | (with_reducible exact LeO.none _)
   | (with_reducible refine LeO.ite ?_ ?_)
   | (with_reducible refine LeO.bind ?_ (fun _=>?_))
   | exact ih0 _ _ _
   | exact ih1 _ _ _ _ _ _
   | exact LeO.none _
   | refine LeO.ite ?_ ?_
   | refine LeO.bind ?_ (fun _=>?_)
theorem spec_deSorted.mono:∀ a0 k,LeO (spec_deSorted.f k a0) (spec_deSorted.f (k+1) a0):=by
 intro a0 k
 obtain ⟨ih0,ih1⟩:=spec_deSorted.mono_l k
 unfold spec_deSorted.f
 repeat' first
   | (with_reducible exact ih0 _ _ _)
   | (with_reducible exact ih1 _ _ _ _ _ _)
   | (with_reducible exact LeO.refl _)
   | (with_reducible exact LeO.none _)
   | (with_reducible refine LeO.ite ?_ ?_)
   | (with_reducible refine LeO.bind ?_ (fun _=>?_))
   | exact ih0 _ _ _
   | exact ih1 _ _ _ _ _ _
   | exact LeO.none _
   | refine LeO.ite ?_ ?_
   | refine LeO.bind ?_ (fun _=>?_)
set_option maxHeartbeats 8000000 in
set_option maxRecDepth 100000 in
theorem spec_deSorted.calls (k:Nat) (A0:Option Addr) (c0:Nat) (l0:List Int) (r:List Int) (w:World) (hr0:Kd.C (Kd.int .i64) w A0 l0.length l0) (hc0:l0.length≤c0) (h:spec_deSorted.f k l0=some r) :
  Calls Try.prog 70 #[.slice A0 l0.length c0] w fun e w'=>∃ v0_:Value,e=.returned (v0_)∧Kd.R (Kd.int .i64) 3 w' w.heap.size (fun _=>True) v0_ r∧Below w.heap.size w w':=by
 have HR0:=zz31 hr0
 have HC0:=zz31 hc0
 clear hr0 hc0
 have HB:=zz31 (Below.refl w.heap.size w)
 have H:(spec_deSorted.l0 k l0 ([]:List Int) (l0.length:Int))=some r:=h
 clear h
 have H':=zz31 H
 clear H
 go_enter Try.func70,Try.ntmps70
 go_wp2
 go_loopg [3,4] k (fun kq v3 v4 w'=>∃ (x3_1:List Int) (x4_1:Int),v4=.int .i64 x4_1∧Aside0 (spec_deSorted.l0 kq l0 x3_1 x4_1=some r)∧Aside0 (kq≤k)∧Aside0 (Kd.R (Kd.int .i64) 3 w' w.heap.size (fun _=>True) v3 x3_1)∧Aside0 (Below w.heap.size w w'))
 case atStart=>exact ⟨(([]:List Int)),((l0.length:Int)),(by first | rfl | (simp;done) | (simp [*];done)),H',⟨Nat.le_refl _⟩,⟨by first | exact Kd.R_nil _ _ _ _ _ | exact Kd.N_nil _ _ _ _ _ | exact Kd.V_nil _ _ _ _ _ | exact Kd.Q_nil _ _ _ _ _ | exact Kd.S_nil _ _ _ _ _⟩,⟨by repeat first | exact HB.out | apply zz2 | apply zz0 | apply zz1⟩⟩
 case round =>
  clear H'
  obtain ⟨x3_1,x4_1,rfl,HA,HK1,HO_3,HB⟩:=hrel
  cases gk with
  | zero=>exact absurd HA.out (by simp [spec_deSorted.l0])
  | succ k1 =>
   have H:=HA.out
   clear HA
   simp only [spec_deSorted.l0] at H
   by_cases c2:x4_1 ≥ 0
   ·rw [if_pos c2] at H
    have c2b0:decide (0≤x4_1)=true:=decide_eq_true c2
    clear c2
    have H':=zz31 H
    clear H
    go_wp2
    go_loopg [3,15] k1 (fun kq v3 v15 w'=>∃ (x3_2:List Int) (x15_2:Int),v15=.int .i64 x15_2∧Aside0 (spec_deSorted.l1 kq l0 x3_2 x4_1 l0 (l0.length:Int) x15_2=some r)∧Aside0 (kq≤k1)∧Aside0 (Kd.R (Kd.int .i64) 3 w' w.heap.size (fun _=>True) v3 x3_2)∧Aside0 (Below w.heap.size w w'))
    case atStart=>exact ⟨(x3_1),(0),(by first | rfl | (simp;done) | (simp [*];done)),H',⟨Nat.le_refl _⟩,⟨by (with_reducible repeat (first | apply zz12 | apply zz13 | apply zz14));exact HO_3.out⟩,⟨by repeat first | exact HB.out | apply zz2 | apply zz0 | apply zz1⟩⟩
    case round =>
     clear H'
     try clear c2
     try clear c2b0
     try clear p2
     obtain ⟨x3_2,x15_2,rfl,HA,HK2,HO_3,HB⟩:=hrel
     cases gk with
     | zero=>exact absurd HA.out (by simp [spec_deSorted.l1])
     | succ k2 =>
      have H:=HA.out
      clear HA
      simp only [spec_deSorted.l1] at H
      by_cases c3:x15_2 < (l0.length:Int)
      ·rw [if_pos c3] at H
       have c3b0:decide (x15_2 < (l0.length:Int))=true:=decide_eq_true c3
       clear c3
       by_cases c4:0≤x15_2
       ·rw [if_pos c4] at H
        have c4b0:decide (0≤x15_2)=true:=decide_eq_true c4
        clear c4
        by_cases c5:x15_2 < (l0.length:Int)
        ·rw [if_pos c5] at H
         have c5b0:decide (x15_2 < (l0.length:Int))=true:=decide_eq_true c5
         clear c5
         by_cases c6:x4_1=(rd l0 x15_2)
         ·rw [if_pos c6] at H
          have c6b0:(x4_1 == (rd l0 x15_2))=true:=beq_iff_eq.mpr c6
          have c6b1:(x4_1 != (rd l0 x15_2))=false:=bne_eq_false_iff_eq.mpr c6
          clear c6
          by_cases c7:x3_2.length < 17592186044416
          ·rw [if_pos c7] at H
           have LMc7:=zz31 c7
           clear c7
           obtain ⟨y131,hy131⟩:∃ y_:List Int,y_=(x3_2 ++ [x4_1]):=⟨_,rfl⟩
           replace H:(spec_deSorted.l1 k2 l0 y131 x4_1 l0 (l0.length:Int) (wrap64 (x15_2+1)))=some r:=by first | (rw [hy131];with_reducible exact H) | (have H2_:=(Option.bind_some _ _).symm.trans H;rw [hy131];with_reducible exact H2_) | (have H2_:=(Option.bind_some _ _).symm.trans H;with_reducible exact H2_) | with_reducible exact H | (rw [hy131];exact H) | exact H
           have Ny131:=zz31 hy131
           clear hy131
           have H':=zz31 H
           clear H
           have p130:0≤(x15_2:Int):=zz29 (by first | (with_reducible assumption) | assumption)
           have q130:x15_2 < (l0.length:Int):=zz29 (by first | (with_reducible assumption) | assumption)
           obtain ⟨ad130,e130,hx130_0⟩:=Kd.at_int HR0.out x15_2 p130 q130
           cases e130
           try replace hx130_0:=(HB.out.cell (World.block_lt_of_cell? w _ hx130_0)).trans hx130_0
           replace p130:=eq_true p130
           replace q130:=eq_true q130
           go_wp2_with (first | ((with_reducible refine gate_builtin (b:=.append) (xs:=#[.tmp 22,.tmp 24]) rfl ?_);at_builtin;refine Kd.R_append (Kd.int .i64) (w0:=w) w.heap.size rfl (.tmp 22) (.tmp 24) 22 3 (.int .i64 0) 8 rfl Try.underlying22 info3 rfl (by decide) (by omega) u3 x3_2 x4_1 [.int .i64 x4_1] (fun _=>True) (fun _=>False) rfl rfl ?aP (fun _ hk=>hk.elim) ?aF ?aO ?aB ?aS ?aL ?_;(case aP=>exact rfl);(case aB=>exact (by repeat first | exact HB.out | apply zz2 | apply zz0 | apply zz1));(case aF=>exact (fun _ _=>trivial));(case aO=>exact (by (with_reducible repeat (first | apply zz12 | apply zz13 | apply zz14));exact HO_3.out));(case aS=>exact (zz5 (by repeat first | exact HB.out | apply zz2 | apply zz0 | apply zz1)));(case aL=>have:=LMc7.out;omega);intro v132 w8 ho hb hg hat;rw [← Ny131.out] at ho;have n0_:=zz31 (hb);have n1_:=zz31 (ho);clear HB;clear HO_3;have HB:=n0_;have HO133:=n1_;clear n0_ n1_;clear ho hb hg hat))
           go_roundg k2
           case measure=>have:=HK1.out;have:=HK2.out;omega
           case rel=>exact ⟨(y131),(wrap64 (x15_2+1)),(by first | rfl | (simp;done) | (simp [*];done)),H',⟨by have:=HK1.out;have:=HK2.out;omega⟩,⟨by (with_reducible repeat (first | apply zz12 | apply zz13 | apply zz14));exact HO133.out⟩,⟨by repeat first | exact HB.out | apply zz2 | apply zz0 | apply zz1⟩⟩
          ·rw [if_neg c7] at H
           exact absurd H (by simp)
         ·rw [if_neg c6] at H
          have c6b0:(x4_1 == (rd l0 x15_2))=false:=beq_eq_false_iff_ne.mpr c6
          have c6b1:(x4_1 != (rd l0 x15_2))=true:=bne_iff_ne.mpr c6
          have H':=zz31 H
          clear H
          have p130:0≤(x15_2:Int):=zz29 (by first | (with_reducible assumption) | assumption)
          have q130:x15_2 < (l0.length:Int):=zz29 (by first | (with_reducible assumption) | assumption)
          obtain ⟨ad130,e130,hx130_0⟩:=Kd.at_int HR0.out x15_2 p130 q130
          cases e130
          try replace hx130_0:=(HB.out.cell (World.block_lt_of_cell? w _ hx130_0)).trans hx130_0
          replace p130:=eq_true p130
          replace q130:=eq_true q130
          go_wp2
          go_roundg k2
          case measure=>have:=HK1.out;have:=HK2.out;omega
          case rel=>exact ⟨(x3_2),(wrap64 (x15_2+1)),(by first | rfl | (simp;done) | (simp [*];done)),H',⟨by have:=HK1.out;have:=HK2.out;omega⟩,⟨by (with_reducible repeat (first | apply zz12 | apply zz13 | apply zz14));exact HO_3.out⟩,⟨by repeat first | exact HB.out | apply zz2 | apply zz0 | apply zz1⟩⟩
        ·rw [if_neg c5] at H
         exact absurd H (by simp)
       ·rw [if_neg c4] at H
        exact absurd H (by simp)
      ·rw [if_neg c3] at H
       have c3b0:decide (x15_2 < (l0.length:Int))=false:=decide_eq_false c3
       clear c3
       have H':=zz31 H
       clear H
       go_wp2
       go_roundg k2
       case measure=>have:=HK1.out;have:=HK2.out;omega
       case rel=>exact ⟨(x3_2),(wrap64 (x4_1 - 1)),(by first | rfl | (simp;done) | (simp [*];done)),H',⟨by have:=HK1.out;have:=HK2.out;omega⟩,⟨by (with_reducible repeat (first | apply zz12 | apply zz13 | apply zz14));exact HO_3.out⟩,⟨by repeat first | exact HB.out | apply zz2 | apply zz0 | apply zz1⟩⟩
   ·rw [if_neg c2] at H
    have c2b0:decide (0≤x4_1)=false:=decide_eq_false c2
    clear c2
    obtain rfl:=Option.some.inj H
    go_wp2
    go_ret
    exact ⟨_,by first | rfl | (simp [errW_none,errW_some] <;> rfl) | (simp [*,errW_none,errW_some] <;> rfl),by (with_reducible repeat (first | apply zz12 | apply zz13 | apply zz14));exact HO_3.out,by repeat first | exact HB.out | apply zz2 | apply zz0 | apply zz1⟩

/-! ### spec_l1Least: function 96 -/
def spec_l1Least.f (a0:Int) (a1:Int):Option (Int):=if a0 < a1 then (some a0) else (some a1)
set_option maxHeartbeats 8000000 in
set_option maxRecDepth 100000 in
theorem spec_l1Least.calls (a0:Int) (a1:Int) (r:Int) (w:World) (h:spec_l1Least.f a0 a1=some r) :
  Calls Try.prog 96 #[.int .i64 a0,.int .i64 a1] w fun e w'=>e=.returned (.int .i64 r)∧Drawn0 w w':=by
 have H:(if a0 < a1 then (some a0) else (some a1))=some r:=h
 clear h
 by_cases c3:a0 < a1
 ·rw [if_pos c3] at H
  have c3b0:decide (a0 < a1)=true:=decide_eq_true c3
  clear c3
  obtain rfl:=Option.some.inj H
  go_enter Try.func96,Try.ntmps96
  go_wp2
  go_ret
  exact ⟨by first | rfl | (simp;done) | (simp [*];done),by repeat (first | exact Drawn0.refl _ | apply Drawn0.step)⟩
 ·rw [if_neg c3] at H
  have c3b0:decide (a0 < a1)=false:=decide_eq_false c3
  clear c3
  obtain rfl:=Option.some.inj H
  go_enter Try.func96,Try.ntmps96
  go_wp2
  go_ret
  exact ⟨by first | rfl | (simp;done) | (simp [*];done),by repeat (first | exact Drawn0.refl _ | apply Drawn0.step)⟩

/-! ### spec_deFails: function 72 -/
mutual
def spec_deFails.l0:Nat→List Int→Int→Int→Option (Int)
 | 0,_,_,_=>none
 | k+1,x3,x4,x5=>if x5≤(x3.length:Int) then (if 0≤(wrap64 (x5 - 1)) then (if (wrap64 (x5 - 1)) < (x3.length:Int) then (if 0≤x5 then ((some (x3.drop (x5:Int).toNat:List Int)).bind fun y138=>(spec_deFails.l1 k x3 (wrap64 (x4+(rd x3 (wrap64 (x5 - 1))))) x5 (wrap64 (x5 * (wrap64 (x5 - 1)))) y138 (y138.length:Int) 0)) else (none)) else (none)) else (none)) else (some 0)
def spec_deFails.l1:Nat→List Int→Int→Int→Int→List Int→Int→Int→Option (Int)
 | 0,_,_,_,_,_,_,_=>none
 | k+1,x3,x4,x5,x6,x30,x31,x32=>if x32 < x31 then (if 0≤x32 then (if x32 < (x30.length:Int) then ((spec_l1Least.f x5 (rd x30 x32)).bind fun t143=>(spec_deFails.l1 k x3 x4 x5 (wrap64 (x6+t143)) x30 x31 (wrap64 (x32+1)))) else (none)) else (none)) else (if x4 > x6 then (some x5) else (spec_deFails.l0 k x3 x4 (wrap64 (x5+1))))
end
def spec_deFails.f (k:Nat) (l0:List Int):Option (Int):=(spec_deSorted.f k l0).bind fun t134=>(spec_deFails.l0 k t134 0 1)
theorem spec_deFails.mono_l:∀ k,(∀ y0 y1 y2,LeO (spec_deFails.l0 k y0 y1 y2) (spec_deFails.l0 (k+1) y0 y1 y2))∧(∀ y0 y1 y2 y3 y4 y5 y6,LeO (spec_deFails.l1 k y0 y1 y2 y3 y4 y5 y6) (spec_deFails.l1 (k+1) y0 y1 y2 y3 y4 y5 y6))
 | 0=>⟨fun _ _ _ r h=>by simp [spec_deFails.l0] at h,fun _ _ _ _ _ _ _ r h=>by simp [spec_deFails.l1] at h⟩
 | k+1=>by
  obtain ⟨ih0,ih1⟩:=spec_deFails.mono_l k
  refine ⟨?_,?_⟩
  ·intro y0 y1 y2
   unfold spec_deFails.l0
   repeat' first
   | (with_reducible exact ih0 _ _ _)
   | (with_reducible exact ih1 _ _ _ _ _ _ _)
   | (with_reducible exact spec_deSorted.mono _ _)
   | (with_reducible exact LeO.refl _)
   | (with_reducible exact LeO.none _)
   | (with_reducible refine LeO.ite ?_ ?_)
   | (with_reducible refine LeO.bind ?_ (fun _=>?_))
   | exact ih0 _ _ _
   | exact ih1 _ _ _ _ _ _ _
   | exact spec_deSorted.mono _ _
   | exact LeO.none _
   | refine LeO.ite ?_ ?_
   | refine LeO.bind ?_ (fun _=>?_)
  ·intro y0 y1 y2 y3 y4 y5 y6
   unfold spec_deFails.l1
   repeat' first
   | (with_reducible exact ih0 _ _ _)
   | (with_reducible exact ih1 _ _ _ _ _ _ _)
   | (with_reducible exact spec_deSorted.mono _ _)
   | (with_reducible exact LeO.refl _)
   | (with_reducible exact LeO.none _)
   | (with_reducible refine LeO.ite ?_ ?_)
   | (with_reducible refine LeO.bind ?_ (fun _=>?_))
   | exact ih0 _ _ _
   | exact ih1 _ _ _ _ _ _ _
   | exact spec_deSorted.mono _ _
   | exact LeO.none _
   | refine LeO.ite ?_ ?_
   | refine LeO.bind ?_ (fun _=>?_)
theorem spec_deFails.mono:∀ a0 k,LeO (spec_deFails.f k a0) (spec_deFails.f (k+1) a0):=by
 intro a0 k
 obtain ⟨ih0,ih1⟩:=spec_deFails.mono_l k
 unfold spec_deFails.f
 repeat' first
   | (with_reducible exact ih0 _ _ _)
   | (with_reducible exact ih1 _ _ _ _ _ _ _)
   | (with_reducible exact spec_deSorted.mono _ _)
   | (with_reducible exact LeO.refl _)
   | (with_reducible exact LeO.none _)
   | (with_reducible refine LeO.ite ?_ ?_)
   | (with_reducible refine LeO.bind ?_ (fun _=>?_))
   | exact ih0 _ _ _
   | exact ih1 _ _ _ _ _ _ _
   | exact spec_deSorted.mono _ _
   | exact LeO.none _
   | refine LeO.ite ?_ ?_
   | refine LeO.bind ?_ (fun _=>?_)
set_option maxHeartbeats 8000000 in
set_option maxRecDepth 100000 in
theorem spec_deFails.calls (k:Nat) (A0:Option Addr) (c0:Nat) (l0:List Int) (r:Int) (w:World) (hr0:Kd.C (Kd.int .i64) w A0 l0.length l0) (hc0:l0.length≤c0) (h:spec_deFails.f k l0=some r) :
  Calls Try.prog 72 #[.slice A0 l0.length c0] w fun e w'=>e=.returned (.int .i64 r)∧Below w.heap.size w w':=by
 have HR0:=zz31 hr0
 have HC0:=zz31 hc0
 clear hr0 hc0
 have HB:=zz31 (Below.refl w.heap.size w)
 have H:((spec_deSorted.f k l0).bind fun t134=>(spec_deFails.l0 k t134 0 1))=some r:=h
 clear h
 replace H:=zz30.mp H
 obtain ⟨t134,A20,H⟩:=H
 replace H:(spec_deFails.l0 k t134 0 1)=some r:=H
 have A2:=zz31 A20
 clear A20
 have H':=zz31 H
 clear H
 go_enter Try.func72,Try.ntmps72
 go_wp2_with (first | ((with_reducible refine gate_callee (f:=70) rfl ?_);refine goesL_ (some 10) rfl rfl Try.func70 (by kernel_rfl) rfl #[.slice A0 l0.length c0] rfl (by (try simp only [zz26,zz27,zz28]);first | done | rfl | (simp only [zz24,zz25];rfl)) ?_;(with_reducible refine (spec_deSorted.calls k _ _ l0 t134 _ ?side1 ?side2 A2.out).mono ?_);(case side1=>repeat (first | exact HR0.out | (with_reducible refine zz18 ?_ _) | (with_reducible refine zz19 ?_ _) | (with_reducible refine zz20 ?_)));(case side2=>exact HC0.out);rintro e w3 ⟨v135,rfl,ho0,hb⟩;refine ⟨_,rfl,?_⟩;have n0_:=zz31 (Kd.R_lower ho0 (zz5 (by repeat first | exact HB.out | apply zz2 | apply zz0 | apply zz1)));have n1_:=zz31 (zz4 (by repeat first | exact HB.out | apply zz2 | apply zz0 | apply zz1) hb);clear HB;have HO136:=n0_;have HB:=n1_;clear n0_ n1_;(try clear hb);(try clear hb2);(try clear hk);(try clear hi);(try clear ho0)))
 go_loopg [4,5] k (fun kq v4 v5 w'=>∃ (x4_1:Int) (x5_1:Int),v4=.int .i64 x4_1∧v5=.int .i64 x5_1∧Aside0 (spec_deFails.l0 kq t134 x4_1 x5_1=some r)∧Aside0 (kq≤k)∧Aside0 (Kd.R (Kd.int .i64) 3 w' w.heap.size (fun _=>True) v135 t134)∧Aside0 (Below w.heap.size w w'))
 case atStart=>exact ⟨(0),(1),(by first | rfl | (simp;done) | (simp [*];done)),(by first | rfl | (simp;done) | (simp [*];done)),H',⟨Nat.le_refl _⟩,⟨by (with_reducible repeat (first | apply zz12 | apply zz13 | apply zz14));exact HO136.out⟩,⟨by repeat first | exact HB.out | apply zz2 | apply zz0 | apply zz1⟩⟩
 case round =>
  clear H'
  try clear p2
  obtain ⟨x4_1,x5_1,rfl,rfl,HA,HK1,HO_3,HB⟩:=hrel
  cases gk with
  | zero=>exact absurd HA.out (by simp [spec_deFails.l0])
  | succ k1 =>
   have H:=HA.out
   clear HA
   simp only [spec_deFails.l0] at H
   by_cases c4:x5_1≤(t134.length:Int)
   ·rw [if_pos c4] at H
    have c4b0:decide (x5_1≤(t134.length:Int))=true:=decide_eq_true c4
    clear c4
    obtain ⟨ji5,hji5⟩:∃ j_:Int,(wrap64 (x5_1 - 1))=j_:=⟨_,rfl⟩
    replace H:(if 0≤(ji5) then (if (ji5) < (t134.length:Int) then (if 0≤x5_1 then ((some (t134.drop (x5_1:Int).toNat:List Int)).bind fun y138=>(spec_deFails.l1 k1 t134 (wrap64 (x4_1+(rd t134 (ji5)))) x5_1 (wrap64 (x5_1 * (ji5))) y138 (y138.length:Int) 0)) else (none)) else (none)) else (none))=some r:=by first | (rw [hji5] at H;exact H) | (simp only [hji5] at H ⊢;exact H)
    have hji5w:(IntKind.i64.wrap (x5_1 - 1))=ji5:=(i64_w _).trans hji5
    by_cases c6:0≤(ji5)
    ·rw [if_pos c6] at H
     have c6b0:decide (0≤(ji5))=true:=decide_eq_true c6
     clear c6
     by_cases c7:(ji5) < (t134.length:Int)
     ·rw [if_pos c7] at H
      have c7b0:decide ((ji5) < (t134.length:Int))=true:=decide_eq_true c7
      clear c7
      by_cases c8:0≤x5_1
      ·rw [if_pos c8] at H
       have c8b0:=eq_true c8
       have c8b1:decide (0≤x5_1)=true:=decide_eq_true c8
       clear c8
       have c9b0:=eq_true (zz29 (by first | (with_reducible assumption) | assumption):x5_1≤(t134.length:Int))
       obtain ⟨y138,hy138⟩:∃ y_:List Int,y_=(t134.drop (x5_1:Int).toNat):=⟨_,rfl⟩
       replace H:(spec_deFails.l1 k1 t134 (wrap64 (x4_1+(rd t134 (ji5)))) x5_1 (wrap64 (x5_1 * (ji5))) y138 (y138.length:Int) 0)=some r:=by first | (rw [hy138];with_reducible exact H) | (have H2_:=(Option.bind_some _ _).symm.trans H;rw [hy138];with_reducible exact H2_) | (have H2_:=(Option.bind_some _ _).symm.trans H;with_reducible exact H2_) | with_reducible exact H | (rw [hy138];exact H) | exact H
       have Ny138:=zz31 hy138
       clear hy138
       have H':=zz31 H
       clear H
       obtain ⟨Ao10,co10,eo10⟩:=Kd.R_slice HO_3.out
       subst eo10
       have p137:0≤((ji5):Int):=zz29 (by first | (with_reducible assumption) | assumption)
       have q137:(ji5) < (t134.length:Int):=zz29 (by first | (with_reducible assumption) | assumption)
       obtain ⟨ad137,e137,hx137_0⟩:=Kd.at_int (Kd.R_reads' HO_3.out).2.2 (ji5) p137 q137
       cases e137
       replace p137:=eq_true p137
       replace q137:=eq_true q137
       have q11:(x5_1:Int)≤((t134.length:Int):Int):=zz29 (by first | (with_reducible assumption) | assumption)
       obtain ⟨i011,hi011,_,hsz11,_⟩:=info_parts info3
       have hroom11:t134.length≤co10:=(Kd.R_reads' HO_3.out).2.1
       have hC11:Kd.C (Kd.int .i64) _ (some ad137) t134.length t134:=(Kd.R_reads' HO_3.out).2.2
       have q011:(0:Int)≤(x5_1:Int):=zz29 (by first | (with_reducible assumption) | assumption)
       have hcut11:=cut_from (P:=Try.prog) 22 3 .i64 Try.underlying22 hi011 1 hsz11 (some ad137) t134.length co10 x5_1 q011 q11
       have hr11:=Kd.C_drop (m:=(x5_1:Int).toNat) (c:=co10) hC11 (by omega) hroom11
       obtain ⟨A11,hA11⟩:∃ A1,A1=(if co10=(x5_1:Int).toNat then (some ad137) else ((some ad137):Option Addr).map (·.add ((x5_1:Int).toNat * 1))):=⟨_,rfl⟩
       obtain ⟨c11,hc11⟩:∃ c1,c1=co10 - (x5_1:Int).toNat:=⟨_,rfl⟩
       have hy11:y138.length=t134.length - (x5_1:Int).toNat:=(by rw [Ny138.out,zz24] <;> omega)
       rw [show (t134).drop (x5_1:Int).toNat=y138 from Ny138.out.symm] at hr11
       replace hr11:Kd.C (Kd.int .i64) _ A11 y138.length y138:=(by rw [hA11];exact hr11)
       rw [← hy11,← hA11,← hc11] at hcut11
       have HR141:=zz31 hr11
       have HC141:=zz31 (show y138.length≤c11 from by rw [hy11,hc11];exact Nat.sub_le_sub_right hroom11 _)
       clear hr11 hC11 hroom11 hi011 hsz11 hc11
       have KY11:=zz31 hy11
       have KA11:=zz31 hA11
       clear hy11 hA11
       have KL11:=zz31 (show (x5_1:Int).toNat≤t134.length from by omega)
       replace q11:=eq_true q11
       go_wp2
       go_loopg [6,32] k1 (fun kq v6 v32 w'=>∃ (x6_2:Int) (x32_2:Int),v6=.int .i64 x6_2∧v32=.int .i64 x32_2∧Aside0 (spec_deFails.l1 kq t134 (wrap64 (x4_1+(rd t134 (ji5)))) x5_1 x6_2 y138 (y138.length:Int) x32_2=some r)∧Aside0 (kq≤k1)∧Aside0 (Kd.R (Kd.int .i64) 3 w' w.heap.size (fun _=>True) (.slice (some ad137) t134.length co10) t134)∧Aside0 (Kd.C (Kd.int .i64) w' A11 y138.length y138)∧Aside0 (Below w.heap.size w w'))
       case atStart=>exact ⟨(wrap64 (x5_1 * (ji5))),(0),(by first | rfl | (simp;done) | (simp only [← hji5] <;> (first | rfl | simp)) | (simp [*];done)),(by first | rfl | (simp;done) | (simp [*];done)),H',⟨Nat.le_refl _⟩,⟨by (with_reducible repeat (first | apply zz12 | apply zz13 | apply zz14));exact HO_3.out⟩,⟨by repeat (first | (with_reducible exact HR141.out) | (with_reducible refine zz18 ?_ _) | (with_reducible refine zz19 ?_ _) | (with_reducible refine zz20 ?_) | exact HR141.out)⟩,⟨by repeat first | exact HB.out | apply zz2 | apply zz0 | apply zz1⟩⟩
       case round =>
        clear H'
        try clear c1
        try clear p1
        try clear q1
        try clear hx1
        try clear p2
        try clear c4
        try clear c4b0
        try clear c6
        try clear c6b0
        try clear p6
        try clear c7
        try clear c7b0
        try clear c8
        try clear c8b0
        try clear c8b1
        try clear c9
        try clear c9b0
        try clear c11
        try clear q11
        try clear hx137_0
        try clear p137
        try clear p2
        try clear q011
        try clear q11
        try clear q137
        obtain ⟨x6_2,x32_2,rfl,rfl,HA,HK2,HO_3,HR141,HB⟩:=hrel
        cases gk with
        | zero=>exact absurd HA.out (by simp [spec_deFails.l1])
        | succ k2 =>
         have H:=HA.out
         clear HA
         simp only [spec_deFails.l1] at H
         by_cases c12:x32_2 < (y138.length:Int)
         ·rw [if_pos c12] at H
          have c12b0:decide (x32_2 < (y138.length:Int))=true:=decide_eq_true c12
          clear c12
          by_cases c13:0≤x32_2
          ·rw [if_pos c13] at H
           have c13b0:decide (0≤x32_2)=true:=decide_eq_true c13
           clear c13
           by_cases c14:x32_2 < (y138.length:Int)
           ·rw [if_pos c14] at H
            have c14b0:decide (x32_2 < (y138.length:Int))=true:=decide_eq_true c14
            clear c14
            replace H:=zz30.mp H
            obtain ⟨t143,A150,H⟩:=H
            replace H:(spec_deFails.l1 k2 t134 (wrap64 (x4_1+(rd t134 (ji5)))) x5_1 (wrap64 (x6_2+t143)) y138 (y138.length:Int) (wrap64 (x32_2+1)))=some r:=H
            have A15:=zz31 A150
            clear A150
            have H':=zz31 H
            clear H
            have p142:0≤(x32_2:Int):=zz29 (by first | (with_reducible assumption) | assumption)
            have q142:x32_2 < (y138.length:Int):=zz29 (by first | (with_reducible assumption) | assumption)
            obtain ⟨ad142,e142,hx142_0⟩:=Kd.at_int HR141.out x32_2 p142 q142
            cases e142
            try replace hx142_0:=(HB.out.cell (World.block_lt_of_cell? w _ hx142_0)).trans hx142_0
            replace p142:=eq_true p142
            replace q142:=eq_true q142
            go_wp2_with (first | ((with_reducible refine gate_callee (f:=96) rfl ?_);refine goesL_ (some 39) rfl rfl Try.func96 (by kernel_rfl) rfl #[.int .i64 x5_1,.int .i64 (rd y138 x32_2)] rfl (by (try simp only [zz26,zz27,zz28]);first | done | rfl | (simp only [zz24,zz25];rfl)) ?_;(with_reducible refine (spec_l1Least.calls x5_1 (rd y138 x32_2) t143 _ A15.out).mono ?_);rintro e w' ⟨rfl,⟨nd,rfl⟩⟩;refine ⟨_,rfl,?_⟩))
            go_roundg k2
            case measure=>have:=HK1.out;have:=HK2.out;omega
            case rel=>exact ⟨(wrap64 (x6_2+t143)),(wrap64 (x32_2+1)),(by first | rfl | (simp;done) | (simp [*];done)),(by first | rfl | (simp;done) | (simp [*];done)),H',⟨by have:=HK1.out;have:=HK2.out;omega⟩,⟨by (with_reducible repeat (first | apply zz12 | apply zz13 | apply zz14));exact HO_3.out⟩,⟨by repeat (first | (with_reducible exact HR141.out) | (with_reducible refine zz18 ?_ _) | (with_reducible refine zz19 ?_ _) | (with_reducible refine zz20 ?_) | exact HR141.out)⟩,⟨by repeat first | exact HB.out | apply zz2 | apply zz0 | apply zz1⟩⟩
           ·rw [if_neg c14] at H
            exact absurd H (by simp)
          ·rw [if_neg c13] at H
           exact absurd H (by simp)
         ·rw [if_neg c12] at H
          have c12b0:decide (x32_2 < (y138.length:Int))=false:=decide_eq_false c12
          clear c12
          by_cases c16:(wrap64 (x4_1+(rd t134 (ji5)))) > x6_2
          ·rw [if_pos c16] at H
           have c16b0:decide (x6_2 < (wrap64 (x4_1+(rd t134 (ji5)))))=true:=decide_eq_true c16
           clear c16
           obtain rfl:=Option.some.inj H
           go_wp2
           go_ret
           exact ⟨by first | rfl | (simp [errW_none,errW_some] <;> rfl) | (simp only [← hji5];first | rfl | (simp [errW_none,errW_some] <;> rfl)) | (simp [*,errW_none,errW_some] <;> rfl),by repeat first | exact HB.out | apply zz2 | apply zz0 | apply zz1⟩
          ·rw [if_neg c16] at H
           have c16b0:decide (x6_2 < (wrap64 (x4_1+(rd t134 (ji5)))))=false:=decide_eq_false c16
           clear c16
           have H':=zz31 H
           clear H
           go_wp2
           go_roundg k2
           case measure=>have:=HK1.out;have:=HK2.out;omega
           case rel=>exact ⟨((wrap64 (x4_1+(rd t134 (ji5))))),(wrap64 (x5_1+1)),(by first | rfl | (simp;done) | (simp only [← hji5] <;> (first | rfl | simp)) | (simp [*];done)),(by first | rfl | (simp;done) | (simp [*];done)),H',⟨by have:=HK1.out;have:=HK2.out;omega⟩,⟨by (with_reducible repeat (first | apply zz12 | apply zz13 | apply zz14));exact HO_3.out⟩,⟨by repeat first | exact HB.out | apply zz2 | apply zz0 | apply zz1⟩⟩
      ·rw [if_neg c8] at H
       exact absurd H (by simp)
     ·rw [if_neg c7] at H
      exact absurd H (by simp)
    ·rw [if_neg c6] at H
     exact absurd H (by simp)
   ·rw [if_neg c4] at H
    have c4b0:decide (x5_1≤(t134.length:Int))=false:=decide_eq_false c4
    clear c4
    obtain rfl:=Option.some.inj H
    obtain ⟨Ao17,co17,eo17⟩:=Kd.R_slice HO_3.out
    subst eo17
    go_wp2
    go_ret
    exact ⟨by first | rfl | (simp [errW_none,errW_some] <;> rfl) | (simp [*,errW_none,errW_some] <;> rfl),by repeat first | exact HB.out | apply zz2 | apply zz0 | apply zz1⟩

/-! ### spec_deCan: function 74 -/
def spec_deCan.f (k:Nat) (l0:List Int):Option (Bool):=(spec_deSum.f k l0).bind fun t144=>(if (Int.tmod t144 2)=0 then ((spec_deFails.f k l0).bind fun t145=>(some (t145 == 0))) else (some false))
theorem spec_deCan.mono:∀ a0 k,LeO (spec_deCan.f k a0) (spec_deCan.f (k+1) a0):=by
 intro a0 k
 unfold spec_deCan.f
 repeat' first
   | (with_reducible exact spec_deFails.mono _ _)
   | (with_reducible exact spec_deSum.mono _ _)
   | (with_reducible exact LeO.refl _)
   | (with_reducible exact LeO.none _)
   | (with_reducible refine LeO.ite ?_ ?_)
   | (with_reducible refine LeO.bind ?_ (fun _=>?_))
   | exact spec_deFails.mono _ _
   | exact spec_deSum.mono _ _
   | exact LeO.none _
   | refine LeO.ite ?_ ?_
   | refine LeO.bind ?_ (fun _=>?_)
set_option maxHeartbeats 8000000 in
set_option maxRecDepth 100000 in
theorem spec_deCan.calls (k:Nat) (A0:Option Addr) (c0:Nat) (l0:List Int) (r:Bool) (w:World) (hr0:Kd.C (Kd.int .i64) w A0 l0.length l0) (hc0:l0.length≤c0) (h:spec_deCan.f k l0=some r) :
  Calls Try.prog 74 #[.slice A0 l0.length c0] w fun e w'=>e=.returned (.bool r)∧Below w.heap.size w w':=by
 have HR0:=zz31 hr0
 have HC0:=zz31 hc0
 clear hr0 hc0
 have HB:=zz31 (Below.refl w.heap.size w)
 have H:((spec_deSum.f k l0).bind fun t144=>(if (Int.tmod t144 2)=0 then ((spec_deFails.f k l0).bind fun t145=>(some (t145 == 0))) else (some false)))=some r:=h
 clear h
 replace H:=zz30.mp H
 obtain ⟨t144,A20,H⟩:=H
 replace H:(if (Int.tmod t144 2)=0 then ((spec_deFails.f k l0).bind fun t145=>(some (t145 == 0))) else (some false))=some r:=H
 have A2:=zz31 A20
 clear A20
 by_cases c3:(Int.tmod t144 2)=0
 ·rw [if_pos c3] at H
  have c3b0:((Int.tmod t144 2) == 0)=true:=beq_iff_eq.mpr c3
  have c3b1:((Int.tmod t144 2) != 0)=false:=bne_eq_false_iff_eq.mpr c3
  clear c3
  replace H:=zz30.mp H
  obtain ⟨t145,A40,H⟩:=H
  replace H:(some (t145 == 0))=some r:=H
  have A4:=zz31 A40
  clear A40
  obtain rfl:=Option.some.inj H
  go_enter Try.func74,Try.ntmps74
  go_wp2_with (first | ((with_reducible refine gate_callee (f:=58) rfl ?_);refine goesL_ (some 4) rfl rfl Try.func58 (by kernel_rfl) rfl #[.slice A0 l0.length c0] rfl (by (try simp only [zz26,zz27,zz28]);first | done | rfl | (simp only [zz24,zz25];rfl)) ?_;(with_reducible refine (spec_deSum.calls k _ _ l0 t144 _ ?side1 ?side2 A2.out).mono ?_);(case side1=>repeat (first | exact HR0.out | (with_reducible refine zz18 ?_ _) | (with_reducible refine zz19 ?_ _) | (with_reducible refine zz20 ?_)));(case side2=>exact HC0.out);rintro e w' ⟨rfl,⟨nd,rfl⟩⟩;refine ⟨_,rfl,?_⟩) | (go_at_call 72;(with_reducible refine (spec_deFails.calls k _ _ l0 t145 _ ?side1 ?side2 A4.out).mono ?_);(case side1=>repeat (first | exact HR0.out | (with_reducible refine zz18 ?_ _) | (with_reducible refine zz19 ?_ _) | (with_reducible refine zz20 ?_)));(case side2=>exact HC0.out);rintro e w5 ⟨rfl,hb⟩;have n0_:=zz31 (zz4 (by repeat first | exact HB.out | apply zz2 | apply zz0 | apply zz1) hb);clear HB;have HB:=n0_;clear n0_;(try clear hb);(try clear hb2);(try clear hk);(try clear hi)))
  go_ret
  exact ⟨by first | rfl | (simp [errW_none,errW_some] <;> rfl) | (simp [*,errW_none,errW_some] <;> rfl),by repeat first | exact HB.out | apply zz2 | apply zz0 | apply zz1⟩
 ·rw [if_neg c3] at H
  have c3b0:((Int.tmod t144 2) == 0)=false:=beq_eq_false_iff_ne.mpr c3
  have c3b1:((Int.tmod t144 2) != 0)=true:=bne_iff_ne.mpr c3
  obtain rfl:=Option.some.inj H
  go_enter Try.func74,Try.ntmps74
  go_wp2_with (first | ((with_reducible refine gate_callee (f:=58) rfl ?_);refine goesL_ (some 4) rfl rfl Try.func58 (by kernel_rfl) rfl #[.slice A0 l0.length c0] rfl (by (try simp only [zz26,zz27,zz28]);first | done | rfl | (simp only [zz24,zz25];rfl)) ?_;(with_reducible refine (spec_deSum.calls k _ _ l0 t144 _ ?side1 ?side2 A2.out).mono ?_);(case side1=>repeat (first | exact HR0.out | (with_reducible refine zz18 ?_ _) | (with_reducible refine zz19 ?_ _) | (with_reducible refine zz20 ?_)));(case side2=>exact HC0.out);rintro e w' ⟨rfl,⟨nd,rfl⟩⟩;refine ⟨_,rfl,?_⟩))
  go_ret
  exact ⟨by first | rfl | (simp [errW_none,errW_some] <;> rfl) | (simp [*,errW_none,errW_some] <;> rfl),by repeat first | exact HB.out | apply zz2 | apply zz0 | apply zz1⟩

/-! ### spec_l1Own: function 59 -/
def spec_l1Own.f (l0:List Int):Option (List Int):=(some (([]:List Int):List Int)).bind fun y146=>(if y146.length+l0.length < 17592186044416 then (some (y146 ++ l0)) else (none))
set_option maxHeartbeats 8000000 in
set_option maxRecDepth 100000 in
theorem spec_l1Own.calls (A0:Option Addr) (c0:Nat) (l0:List Int) (r:List Int) (w:World) (hr0:Kd.C (Kd.int .i64) w A0 l0.length l0) (hc0:l0.length≤c0) (h:spec_l1Own.f l0=some r) :
  Calls Try.prog 59 #[.slice A0 l0.length c0] w fun e w'=>∃ v0_:Value,e=.returned (v0_)∧Kd.R (Kd.int .i64) 3 w' w.heap.size (fun _=>True) v0_ r∧Below w.heap.size w w':=by
 have HR0:=zz31 hr0
 have HC0:=zz31 hc0
 clear hr0 hc0
 have HB:=zz31 (Below.refl w.heap.size w)
 have H:((some (([]:List Int):List Int)).bind fun y146=>(if y146.length+l0.length < 17592186044416 then (some (y146 ++ l0)) else (none)))=some r:=h
 clear h
 obtain ⟨y146,hy146⟩:∃ y_:List Int,y_=(([]:List Int)):=⟨_,rfl⟩
 replace H:(if y146.length+l0.length < 17592186044416 then (some (y146 ++ l0)) else (none))=some r:=by first | (rw [hy146];with_reducible exact H) | (have H2_:=(Option.bind_some _ _).symm.trans H;rw [hy146];with_reducible exact H2_) | (have H2_:=(Option.bind_some _ _).symm.trans H;with_reducible exact H2_) | with_reducible exact H | (rw [hy146];exact H) | exact H
 have Ny146:=zz31 hy146
 clear hy146
 by_cases c2:y146.length+l0.length < 17592186044416
 ·rw [if_pos c2] at H
  have LMc2:=zz31 c2
  clear c2
  obtain ⟨y149,hy149⟩:∃ y_:List Int,y_=(y146 ++ l0):=⟨_,rfl⟩
  replace H:(some y149)=some r:=by first | (rw [hy149];with_reducible exact H) | (have H2_:=(Option.bind_some _ _).symm.trans H;rw [hy149];with_reducible exact H2_) | (have H2_:=(Option.bind_some _ _).symm.trans H;with_reducible exact H2_) | with_reducible exact H | (rw [hy149];exact H) | exact H
  have Ny149:=zz31 hy149
  clear hy149
  obtain rfl:=Option.some.inj H
  go_enter Try.func59,Try.ntmps59
  go_wp2_with (first | ((with_reducible refine gate_dst (N:=3) rfl ?_);refine Kd.R_lit (Kd.int .i64) _ 3 ?hg (N:=3) ?hd (xs:=([]:List Int)) (inner:=[]) (ok:=fun _=>True) (okp:=fun _=>True) ?hr ?hp (fun _ hk=>hk) trivial (Below.refl _ _) (Nat.le_refl _) (by simp) ?_;(case hd=>rfl);(case hg=>rfl);(case hr=>first | (go_simp;done) | (go_simp;rfl));(case hp=>exact (Reps.none _ _));intro v147 w3 ho4 hb hg_ hnew_;clear hg_ hnew_;(first | rw [← Ny146.out] at ho4 | (simp only [Int.reduceToNat] at ho4;rw [← Ny146.out] at ho4));have n0_:=zz31 (Kd.R_lower ho4 (zz5 (by repeat first | exact HB.out | apply zz2 | apply zz0 | apply zz1)));have n1_:=zz31 (zz4 (by repeat first | exact HB.out | apply zz2 | apply zz0 | apply zz1) hb);clear HB;have HO148:=n0_;have HB:=n1_;clear n0_ n1_;clear hb ho4) | ((with_reducible refine gate_builtin (b:=.append) (xs:=#[.tmp 3,.tmp 4]) rfl ?_);at_builtin;refine Kd.R_append_rows (Kd.int .i64) (w0:=w) w.heap.size rfl (.tmp 3) (.tmp 4) 22 3 (.int .i64 0) 8 rfl Try.underlying22 info3 rfl (by decide) (by omega) v147 y146 l0 _ _ _ (fun _=>True) (fun _=>False) rfl rfl ?aO ?aR (fun _ _ h=>h) (fun _ h=>h.elim) ?aF ?aB ?aS ?aL ?_;(case aR=>repeat (first | exact (Kd.C_below HR0.out HB.out) | (with_reducible refine zz18 ?_ _) | (with_reducible refine zz19 ?_ _) | (with_reducible refine zz20 ?_)));(case aB=>exact (by repeat first | exact HB.out | apply zz2 | apply zz0 | apply zz1));(case aF=>exact (fun _ _=>trivial));(case aO=>exact (by (with_reducible repeat (first | apply zz12 | apply zz13 | apply zz14));exact HO148.out));(case aS=>exact (zz5 (by repeat first | exact HB.out | apply zz2 | apply zz0 | apply zz1)));(case aL=>have:=LMc2.out;omega);intro v150 w5 ho hb hg hat;rw [← Ny149.out] at ho;have n0_:=zz31 (hb);have n1_:=zz31 (ho);clear HB;clear HO148;have HB:=n0_;have HO151:=n1_;clear n0_ n1_;clear ho hb hg hat))
  go_ret
  exact ⟨_,by first | rfl | (simp [errW_none,errW_some] <;> rfl) | (simp [*,errW_none,errW_some] <;> rfl),by (with_reducible repeat (first | apply zz12 | apply zz13 | apply zz14));exact HO151.out,by repeat first | exact HB.out | apply zz2 | apply zz0 | apply zz1⟩
 ·rw [if_neg c2] at H
  exact absurd H (by simp)

/-! ### spec_paTable: function 60 -/
mutual
def spec_paTable.l0:Nat→List (List Bool)→Int→Int→List (S80)→Option ((List (List Bool)))
 | 0,_,_,_,_=>none
 | k+1,x3,x4,x153000,x153001=>if x4 < x153000 then (if 0≤x153000 then (if (x153000:Int).toNat≤281474976710656 then (if x3.length < 5864062014805 then (spec_paTable.l0 k (x3 ++ [(List.replicate (x153000:Int).toNat false)]) (wrap64 (x4+1)) x153000 x153001) else (none)) else (none)) else (none)) else (spec_paTable.l1 k x3 x153001 (x153001.length:Int) 0)
def spec_paTable.l1:Nat→List (List Bool)→List (S80)→Int→Int→Option ((List (List Bool)))
 | 0,_,_,_,_=>none
 | k+1,x3,x20,x21,x22=>if x22 < x21 then (if 0≤x22 then (if x22 < (x20.length:Int) then (if 0≤((rd_T80 x20 x22).f0) then (if ((rd_T80 x20 x22).f0) < (x3.length:Int) then (if 0≤((rd_T80 x20 x22).f1) then (if ((rd_T80 x20 x22).f1) < ((rd_L3 x3 ((rd_T80 x20 x22).f0)).length:Int) then ((some (x3.set (((rd_T80 x20 x22).f0):Int).toNat ((rd_L3 x3 ((rd_T80 x20 x22).f0)).set (((rd_T80 x20 x22).f1):Int).toNat true):List (List Bool))).bind fun y164=>(if ((rd_T80 x20 x22).f1) < (x3.length:Int) then (if ((rd_T80 x20 x22).f0) < ((rd_L3 y164 ((rd_T80 x20 x22).f1)).length:Int) then (spec_paTable.l1 k (y164.set (((rd_T80 x20 x22).f1):Int).toNat ((rd_L3 y164 ((rd_T80 x20 x22).f1)).set (((rd_T80 x20 x22).f0):Int).toNat true)) x20 x21 (wrap64 (x22+1))) else (none)) else (none))) else (none)) else (none)) else (none)) else (none)) else (none)) else (none)) else (some x3)
end
def spec_paTable.f (k:Nat) (a0_0:Int) (l0_1:List (S80)):Option ((List (List Bool))):=spec_paTable.l0 k ([]:List (List Bool)) 0 a0_0 l0_1
theorem spec_paTable.mono_l:∀ k,(∀ y0 y1 y2 y3,LeO (spec_paTable.l0 k y0 y1 y2 y3) (spec_paTable.l0 (k+1) y0 y1 y2 y3))∧(∀ y0 y1 y2 y3,LeO (spec_paTable.l1 k y0 y1 y2 y3) (spec_paTable.l1 (k+1) y0 y1 y2 y3))
 | 0=>⟨fun _ _ _ _ r h=>by simp [spec_paTable.l0] at h,fun _ _ _ _ r h=>by simp [spec_paTable.l1] at h⟩
 | k+1=>by
  obtain ⟨ih0,ih1⟩:=spec_paTable.mono_l k
  refine ⟨?_,?_⟩
  ·intro y0 y1 y2 y3
   unfold spec_paTable.l0
   repeat' first
   | (with_reducible exact ih0 _ _ _ _)
   | (with_reducible exact ih1 _ _ _ _)
   | (with_reducible exact LeO.refl _)
   | (with_reducible exact LeO.none _)
   | (with_reducible refine LeO.ite ?_ ?_)
   | (with_reducible refine LeO.bind ?_ (fun _=>?_))
   | exact ih0 _ _ _ _
   | exact ih1 _ _ _ _
   | exact LeO.none _
   | refine LeO.ite ?_ ?_
   | refine LeO.bind ?_ (fun _=>?_)
  ·intro y0 y1 y2 y3
   unfold spec_paTable.l1
   repeat' first
   | (with_reducible exact ih0 _ _ _ _)
   | (with_reducible exact ih1 _ _ _ _)
   | (with_reducible exact LeO.refl _)
   | (with_reducible exact LeO.none _)
   | (with_reducible refine LeO.ite ?_ ?_)
   | (with_reducible refine LeO.bind ?_ (fun _=>?_))
   | exact ih0 _ _ _ _
   | exact ih1 _ _ _ _
   | exact LeO.none _
   | refine LeO.ite ?_ ?_
   | refine LeO.bind ?_ (fun _=>?_)
theorem spec_paTable.mono:∀ a0 a1 k,LeO (spec_paTable.f k a0 a1) (spec_paTable.f (k+1) a0 a1):=by
 intro a0 a1 k
 obtain ⟨ih0,ih1⟩:=spec_paTable.mono_l k
 unfold spec_paTable.f
 repeat' first
   | (with_reducible exact ih0 _ _ _ _)
   | (with_reducible exact ih1 _ _ _ _)
   | (with_reducible exact LeO.refl _)
   | (with_reducible exact LeO.none _)
   | (with_reducible refine LeO.ite ?_ ?_)
   | (with_reducible refine LeO.bind ?_ (fun _=>?_))
   | exact ih0 _ _ _ _
   | exact ih1 _ _ _ _
   | exact LeO.none _
   | refine LeO.ite ?_ ?_
   | refine LeO.bind ?_ (fun _=>?_)
def spec_paTable.T9:Bool × List (List Nat × List Nat):=(true,[([],[]),([],[]),([1],[1]),([0,2],[0,2]),([3],[3]),([],[]),([5],[5]),([4,6,0,1,2,3,4,5,6],[4,6]),([7,0,1,2,3,4,5,6],[7])])
def spec_paTable.B9:List Nat:=[0,0,2,7,15,0,32,127,255]
theorem spec_paTable.tab9:rtab .any (opsOf Try.f60 9)=spec_paTable.T9:=by kernel_rfl
theorem spec_paTable.bits9:waitsOk spec_paTable.T9.2 spec_paTable.B9=true:=by kernel_rfl
def spec_paTable.T10:Bool × List (List Nat × List Nat):=(true,[([],[]),([],[]),([1],[1]),([0,2],[0,2]),([3],[3]),([],[]),([5],[5]),([4,6,0,1,2,3,4,5,6],[4,6]),([7,0,1,2,3,4,5,6],[7])])
def spec_paTable.B10:List Nat:=[0,0,2,7,15,0,32,127,255]
theorem spec_paTable.tab10:rtab .any (opsOf Try.f60 10)=spec_paTable.T10:=by kernel_rfl
theorem spec_paTable.bits10:waitsOk spec_paTable.T10.2 spec_paTable.B10=true:=by kernel_rfl
set_option maxHeartbeats 8000000 in
set_option maxRecDepth 100000 in
theorem spec_paTable.calls (k:Nat) (a0_0:Int) (A0_1:Option Addr) (c0_1:Nat) (l0_1:List (S80)) (r:List (List Bool)) (w:World) (hr0_1:Kd.C k80 w A0_1 l0_1.length l0_1) (hc0_1:l0_1.length≤c0_1) (h:spec_paTable.f k a0_0 l0_1=some r) :
  Calls Try.prog 60 #[.agg #[.int .i64 a0_0,.slice A0_1 l0_1.length c0_1]] w fun e w'=>∃ v0_:Value,e=.returned (v0_)∧Kd.S (Kd.slice 4 Kd.bool) 60 w' w.heap.size (fun _=>True) v0_ r∧Below w.heap.size w w':=by
 have hu32:=Try.underlying32
 have hu80:=Try.underlying80
 have HR0_1:=zz31 hr0_1
 have HC0_1:=zz31 hc0_1
 clear hr0_1 hc0_1
 have HB:=zz31 (Below.refl w.heap.size w)
 have H:(spec_paTable.l0 k ([]:List (List Bool)) 0 a0_0 l0_1)=some r:=h
 clear h
 have H':=zz31 H
 clear H
 go_enter Try.func60,Try.ntmps60
 go_wp2_with (first | ((with_reducible refine gate_dst (N:=1) rfl ?_);refine box_event ?hg (N:=1) ?hd (cs:=#[.int .i64 a0_0,.slice A0_1 l0_1.length c0_1]) (t:=32) ?hr ?_;(case hd=>rfl);(case hg=>rfl);(case hr=>first | (go_simp;done) | (go_simp;rfl));intro gb152 hg w2 hbox hb;have n0_:=zz31 (zz4 (by repeat first | exact HB.out | apply zz2 | apply zz0 | apply zz1) hb);have n1_:=zz31 (hbox);have n2_:=zz31 ((by rw [hg];exact (zz5 (by repeat first | exact HB.out | apply zz2 | apply zz0 | apply zz1)):w.heap.size≤gb152));have n3_:=zz31 ((by rw [hg];exact (zz5 (by repeat first | exact HB.out | apply zz2 | apply zz0 | apply zz1)):w.heap.size≤gb152));clear HB;have HB:=n0_;have BK152:=n1_;have GW152:=n2_;have GE152:=n3_;clear n0_ n1_ n2_ n3_;clear hb hbox hg))
 go_loopg [3,4] k (fun kq v3 v4 w'=>∃ (x3_1:List (List Bool)) (x4_1:Int),v4=.int .i64 x4_1∧Aside0 (spec_paTable.l0 kq x3_1 x4_1 a0_0 l0_1=some r)∧Aside0 (kq≤k)∧Aside0 (Kd.S (Kd.slice 4 Kd.bool) 60 w' w.heap.size (fun _=>True) v3 x3_1)∧Aside0 (w'.heap[gb152]?=some (.cells #[.int .i64 a0_0,(.slice A0_1 l0_1.length c0_1)] 32 (0,0)))∧Aside0 (Below w.heap.size w w'))
 case atStart=>exact ⟨(([]:List (List Bool))),(0),(by first | rfl | (simp;done) | (simp [*];done)),H',⟨Nat.le_refl _⟩,⟨by first | exact Kd.S_nil _ _ _ _ _ | exact Kd.N_nil _ _ _ _ _ | exact Kd.V_nil _ _ _ _ _ | exact Kd.Q_nil _ _ _ _ _ | exact Kd.R_nil _ _ _ _ _⟩,⟨by (with_reducible repeat (first | refine zz6 ?_ _ | refine zz7 ?_ | refine zz8 ?_ _));exact BK152.out⟩,⟨by repeat first | exact HB.out | apply zz2 | apply zz0 | apply zz1 | refine zz3 ?_ GE152.out⟩⟩
 case round =>
  clear H'
  try clear p2
  obtain ⟨x3_1,x4_1,rfl,HA,HK1,HO_3,BK152,HB⟩:=hrel
  cases gk with
  | zero=>exact absurd HA.out (by simp [spec_paTable.l0])
  | succ k1 =>
   have H:=HA.out
   clear HA
   simp only [spec_paTable.l0] at H
   by_cases c3:x4_1 < a0_0
   ·rw [if_pos c3] at H
    have c3b0:decide (x4_1 < a0_0)=true:=decide_eq_true c3
    clear c3
    by_cases c4:0≤a0_0
    ·rw [if_pos c4] at H
     have c4b0:=eq_true c4
     have c4b1:decide (0≤a0_0)=true:=decide_eq_true c4
     clear c4
     by_cases c5:(a0_0:Int).toNat≤281474976710656
     ·rw [if_pos c5] at H
      have c5b0:=eq_true c5
      have c5b1:decide ((a0_0:Int).toNat≤281474976710656)=true:=decide_eq_true c5
      clear c5
      obtain ⟨y153,hy153⟩:∃ y_:List Bool,y_=(List.replicate (a0_0:Int).toNat false):=⟨_,rfl⟩
      replace H:(if x3_1.length < 5864062014805 then (spec_paTable.l0 k1 (x3_1 ++ [y153]) (wrap64 (x4_1+1)) a0_0 l0_1) else (none))=some r:=by first | (rw [hy153];with_reducible exact H) | (have H2_:=(Option.bind_some _ _).symm.trans H;rw [hy153];with_reducible exact H2_) | (have H2_:=(Option.bind_some _ _).symm.trans H;with_reducible exact H2_) | with_reducible exact H | (rw [hy153];exact H) | exact H
      have Ny153:=zz31 hy153
      clear hy153
      by_cases c6:x3_1.length < 5864062014805
      ·rw [if_pos c6] at H
       have LMc6:=zz31 c6
       clear c6
       obtain ⟨y156,hy156⟩:∃ y_:List (List Bool),y_=(x3_1 ++ [y153]):=⟨_,rfl⟩
       replace H:(spec_paTable.l0 k1 y156 (wrap64 (x4_1+1)) a0_0 l0_1)=some r:=by first | (rw [hy156];with_reducible exact H) | (have H2_:=(Option.bind_some _ _).symm.trans H;rw [hy156];with_reducible exact H2_) | (have H2_:=(Option.bind_some _ _).symm.trans H;with_reducible exact H2_) | with_reducible exact H | (rw [hy156];exact H) | exact H
       have Ny156:=zz31 hy156
       clear hy156
       have H':=zz31 H
       clear H
       have hcz7_0:wr.cell? ⟨gb152,0,none⟩=some (.int .i64 a0_0):=(zz9 BK152.out 0).trans rfl
       have hcz7_1:wr.cell? ⟨gb152,1,none⟩=some (.slice A0_1 l0_1.length c0_1):=(zz9 BK152.out 1).trans rfl
       have hfz7_0:=zz10 BK152.out 0
       have hfz7_1:=zz10 BK152.out 1
       go_wp2_with (first | ((with_reducible refine gate_dst (N:=16) rfl ?_);refine Kd.R_make Kd.bool _ 4 rfl (N:=16) rfl 60 _ _ rfl a0_0 rfl rfl Try.underlying60 (.bool false) 1 info4 rfl (by decide) (by omega) false (ok:=fun _=>True) (okp:=fun _=>True) rfl (fun _ hk=>hk) trivial (zz29 (by first | (with_reducible assumption) | assumption)) (Nat.le_trans (Nat.mul_le_mul_right _ (zz29 (by first | (with_reducible assumption) | assumption):a0_0.toNat≤281474976710656)) (by omega)) (Below.refl _ _) (Nat.le_refl _) ?_;intro v154 w8 ho9 hb hg_ hnew_;clear hg_ hnew_;(first | rw [← Ny153.out] at ho9 | (simp only [Int.reduceToNat] at ho9;rw [← Ny153.out] at ho9));have n0_:=zz31 (Kd.S_elder' (by (with_reducible repeat (first | apply zz15 | apply zz16 | apply zz17));exact HO_3.out) (Kd.R_base ho9) hb);have n1_:=zz31 (Kd.R_lower ho9 (zz5 (by repeat first | exact HB.out | apply zz2 | apply zz0 | apply zz1 | refine zz3 ?_ GE152.out)));have n2_:=zz31 (zz11 (g:=gb152) (o:=.cells #[.int .i64 a0_0,.slice A0_1 l0_1.length c0_1] 32 (0,0)) (by (with_reducible repeat (first | refine zz6 ?_ _ | refine zz7 ?_ | refine zz8 ?_ _));exact BK152.out) hb);have n3_:=zz31 (zz4 (by repeat first | exact HB.out | apply zz2 | apply zz0 | apply zz1 | refine zz3 ?_ GE152.out) hb);clear HO_3;clear BK152;clear HB;have HO_3:=n0_;have HO155:=n1_;have BK152:=n2_;have HB:=n3_;clear n0_ n1_ n2_ n3_;clear hb ho9;obtain ⟨Ao11,co11,eo11⟩:=Kd.R_slice HO155.out;subst eo11) | ((with_reducible refine gate_builtin (b:=.append) (xs:=#[.tmp 13,.tmp 17]) rfl ?_);at_builtin;refine Kd.S_append (Kd.slice 4 Kd.bool) (w0:=w) w.heap.size rfl (.tmp 13) (.tmp 17) 58 60 (.slice none 0 0) 24 rfl Try.underlying58 info60 rfl (by decide) (by omega) u3 x3_1 y153 [.slice Ao11 y153.length co11] (fun _=>True) (fun k_=>some k_=(.slice Ao11 y153.length co11:Value).ownBlock) rfl rfl ?aP (fun k_ hk_=>((Kd.R_mono (ok':=fun k_=>((fun _=>True)) k_∧some k_ ≠ (u3:Value).ownBlock) (Kd.R_apart' (HO155.out) (Kd.S_typed HO_3.out) (by decide)) (fun k_ hk=>⟨trivial,hk.2⟩))).1 k_ hk_.symm) ?aF ?aO ?aB ?aS ?aL ?_;(case aP=>exact Kd.M_row (Kd.R_mono (Kd.R_tight rfl (Kd.R_mono (ok':=fun k_=>((fun _=>True)) k_∧some k_ ≠ (u3:Value).ownBlock) (Kd.R_apart' (HO155.out) (Kd.S_typed HO_3.out) (by decide)) (fun k_ hk=>⟨trivial,hk.2⟩))) (fun _ h_=>h_)));(case aB=>exact (by repeat first | exact HB.out | apply zz2 | apply zz0 | apply zz1 | refine zz3 ?_ GE152.out));(case aF=>exact (fun _ _=>trivial));(case aO=>exact (by (with_reducible repeat (first | apply zz15 | apply zz16 | apply zz17));exact Kd.S_mono HO_3.out (fun k_ hk=>⟨trivial,fun e_=>hk.2 e_⟩)));(case aS=>exact (zz5 (by repeat first | exact HB.out | apply zz2 | apply zz0 | apply zz1 | refine zz3 ?_ GE152.out)));(case aL=>have:=LMc6.out;omega);intro v157 w10 ho hb hg hat;rw [← Ny156.out] at ho;have n0_:=zz31 (blk_grown (g:=gb152) (o:=.cells #[.int .i64 a0_0,.slice A0_1 l0_1.length c0_1] 32 (0,0)) (by (with_reducible repeat (first | refine zz6 ?_ _ | refine zz7 ?_ | refine zz8 ?_ _));exact BK152.out) hg (Kd.S_ne HO_3.out BK152.out (by decide)));have n1_:=zz31 (hb);have n2_:=zz31 (ho);clear BK152;clear HB;clear HO_3;clear HO155;have BK152:=n0_;have HB:=n1_;have HO158:=n2_;clear n0_ n1_ n2_;clear ho hb hg hat))
       go_roundg k1
       case measure=>have:=HK1.out;omega
       case rel=>exact ⟨(y156),(wrap64 (x4_1+1)),(by first | rfl | (simp;done) | (simp [*];done)),H',⟨by have:=HK1.out;omega⟩,⟨by (with_reducible repeat (first | apply zz15 | apply zz16 | apply zz17));exact HO158.out⟩,⟨by (with_reducible repeat (first | refine zz6 ?_ _ | refine zz7 ?_ | refine zz8 ?_ _));exact BK152.out⟩,⟨by repeat first | exact HB.out | apply zz2 | apply zz0 | apply zz1 | refine zz3 ?_ GE152.out⟩⟩
      ·rw [if_neg c6] at H
       exact absurd H (by simp)
     ·rw [if_neg c5] at H
      exact absurd H (by simp)
    ·rw [if_neg c4] at H
     exact absurd H (by simp)
   ·rw [if_neg c3] at H
    have c3b0:decide (x4_1 < a0_0)=false:=decide_eq_false c3
    clear c3
    have H':=zz31 H
    clear H
    have hcz12_0:wr.cell? ⟨gb152,0,none⟩=some (.int .i64 a0_0):=(zz9 BK152.out 0).trans rfl
    have hcz12_1:wr.cell? ⟨gb152,1,none⟩=some (.slice A0_1 l0_1.length c0_1):=(zz9 BK152.out 1).trans rfl
    have hfz12_0:=zz10 BK152.out 0
    have hfz12_1:=zz10 BK152.out 1
    go_wp2
    go_loopg [22] k1 (fun kq v22 w'=>∃ (x3_2:List (List Bool)) (x22_2:Int),v22=.int .i64 x22_2∧Aside0 (spec_paTable.l1 kq x3_2 l0_1 (l0_1.length:Int) x22_2=some r)∧Aside0 (kq≤k1)∧Aside0 (Kd.S (Kd.slice 4 Kd.bool) 60 w' w.heap.size (fun _=>True) u3 x3_2)∧Aside0 (w'.heap[gb152]?=some (.cells #[.int .i64 a0_0,(.slice A0_1 l0_1.length c0_1)] 32 (0,0)))∧Aside0 (Below w.heap.size w w'))
    case atStart=>exact ⟨(x3_1),(0),(by first | rfl | (simp;done) | (simp [*];done)),H',⟨Nat.le_refl _⟩,⟨by (with_reducible repeat (first | apply zz15 | apply zz16 | apply zz17));exact HO_3.out⟩,⟨by (with_reducible repeat (first | refine zz6 ?_ _ | refine zz7 ?_ | refine zz8 ?_ _));exact BK152.out⟩,⟨by repeat first | exact HB.out | apply zz2 | apply zz0 | apply zz1 | refine zz3 ?_ GE152.out⟩⟩
    case round =>
     clear H'
     try clear p2
     try clear c3
     try clear c3b0
     try clear c4
     try clear c4b0
     try clear c4b1
     try clear c5
     try clear c5b0
     try clear c5b1
     try clear c6
     try clear p6
     try clear hcz12_0
     try clear hcz12_1
     try clear hcz7_0
     try clear hcz7_1
     try clear hfz12_0
     try clear hfz12_1
     try clear hfz7_0
     try clear hfz7_1
     try clear p2
     obtain ⟨x3_2,x22_2,rfl,HA,HK2,HO_3,BK152,HB⟩:=hrel
     cases gk with
     | zero=>exact absurd HA.out (by simp [spec_paTable.l1])
     | succ k2 =>
      have H:=HA.out
      clear HA
      simp only [spec_paTable.l1] at H
      by_cases c13:x22_2 < (l0_1.length:Int)
      ·rw [if_pos c13] at H
       have c13b0:decide (x22_2 < (l0_1.length:Int))=true:=decide_eq_true c13
       clear c13
       by_cases c14:0≤x22_2
       ·rw [if_pos c14] at H
        have c14b0:decide (0≤x22_2)=true:=decide_eq_true c14
        clear c14
        by_cases c15:x22_2 < (l0_1.length:Int)
        ·rw [if_pos c15] at H
         have c15b0:decide (x22_2 < (l0_1.length:Int))=true:=decide_eq_true c15
         clear c15
         by_cases c16:0≤((rd_T80 l0_1 x22_2).f0)
         ·rw [if_pos c16] at H
          have c16b0:decide (0≤((rd_T80 l0_1 x22_2).f0))=true:=decide_eq_true c16
          clear c16
          by_cases c17:((rd_T80 l0_1 x22_2).f0) < (x3_2.length:Int)
          ·rw [if_pos c17] at H
           have c17b0:decide (((rd_T80 l0_1 x22_2).f0) < (x3_2.length:Int))=true:=decide_eq_true c17
           clear c17
           by_cases c18:0≤((rd_T80 l0_1 x22_2).f1)
           ·rw [if_pos c18] at H
            have c18b0:decide (0≤((rd_T80 l0_1 x22_2).f1))=true:=decide_eq_true c18
            clear c18
            by_cases c19:((rd_T80 l0_1 x22_2).f1) < ((rd_L3 x3_2 ((rd_T80 l0_1 x22_2).f0)).length:Int)
            ·rw [if_pos c19] at H
             have c19b0:decide (((rd_T80 l0_1 x22_2).f1) < ((rd_L3 x3_2 ((rd_T80 l0_1 x22_2).f0)).length:Int))=true:=decide_eq_true c19
             clear c19
             obtain ⟨y162,hy162⟩:∃ y_:List Bool,y_=((rd_L3 x3_2 ((rd_T80 l0_1 x22_2).f0)).set (((rd_T80 l0_1 x22_2).f1):Int).toNat true):=⟨_,rfl⟩
             replace H:((some (x3_2.set (((rd_T80 l0_1 x22_2).f0):Int).toNat y162:List (List Bool))).bind fun y164=>(if ((rd_T80 l0_1 x22_2).f1) < (x3_2.length:Int) then (if ((rd_T80 l0_1 x22_2).f0) < ((rd_L3 y164 ((rd_T80 l0_1 x22_2).f1)).length:Int) then (spec_paTable.l1 k2 (y164.set (((rd_T80 l0_1 x22_2).f1):Int).toNat ((rd_L3 y164 ((rd_T80 l0_1 x22_2).f1)).set (((rd_T80 l0_1 x22_2).f0):Int).toNat true)) l0_1 (l0_1.length:Int) (wrap64 (x22_2+1))) else (none)) else (none)))=some r:=by first | (rw [hy162];with_reducible exact H) | (have H2_:=(Option.bind_some _ _).symm.trans H;rw [hy162];with_reducible exact H2_) | (have H2_:=(Option.bind_some _ _).symm.trans H;with_reducible exact H2_) | with_reducible exact H | (rw [hy162];exact H) | exact H
             have Ny162:=zz31 hy162
             clear hy162
             obtain ⟨y164,hy164⟩:∃ y_:List (List Bool),y_=(x3_2.set (((rd_T80 l0_1 x22_2).f0):Int).toNat y162):=⟨_,rfl⟩
             replace H:(if ((rd_T80 l0_1 x22_2).f1) < (x3_2.length:Int) then (if ((rd_T80 l0_1 x22_2).f0) < ((rd_L3 y164 ((rd_T80 l0_1 x22_2).f1)).length:Int) then (spec_paTable.l1 k2 (y164.set (((rd_T80 l0_1 x22_2).f1):Int).toNat ((rd_L3 y164 ((rd_T80 l0_1 x22_2).f1)).set (((rd_T80 l0_1 x22_2).f0):Int).toNat true)) l0_1 (l0_1.length:Int) (wrap64 (x22_2+1))) else (none)) else (none))=some r:=by first | (rw [hy164];with_reducible exact H) | (have H2_:=(Option.bind_some _ _).symm.trans H;rw [hy164];with_reducible exact H2_) | (have H2_:=(Option.bind_some _ _).symm.trans H;with_reducible exact H2_) | with_reducible exact H | (rw [hy164];exact H) | exact H
             have Ny164:=zz31 hy164
             clear hy164
             by_cases c21:((rd_T80 l0_1 x22_2).f1) < (x3_2.length:Int)
             ·rw [if_pos c21] at H
              have c21b0:decide (((rd_T80 l0_1 x22_2).f1) < (x3_2.length:Int))=true:=decide_eq_true c21
              clear c21
              by_cases c22:((rd_T80 l0_1 x22_2).f0) < ((rd_L3 y164 ((rd_T80 l0_1 x22_2).f1)).length:Int)
              ·rw [if_pos c22] at H
               have c22b0:decide (((rd_T80 l0_1 x22_2).f0) < ((rd_L3 y164 ((rd_T80 l0_1 x22_2).f1)).length:Int))=true:=decide_eq_true c22
               clear c22
               obtain ⟨y166,hy166⟩:∃ y_:List Bool,y_=((rd_L3 y164 ((rd_T80 l0_1 x22_2).f1)).set (((rd_T80 l0_1 x22_2).f0):Int).toNat true):=⟨_,rfl⟩
               replace H:(spec_paTable.l1 k2 (y164.set (((rd_T80 l0_1 x22_2).f1):Int).toNat y166) l0_1 (l0_1.length:Int) (wrap64 (x22_2+1)))=some r:=by first | (rw [hy166];with_reducible exact H) | (have H2_:=(Option.bind_some _ _).symm.trans H;rw [hy166];with_reducible exact H2_) | (have H2_:=(Option.bind_some _ _).symm.trans H;with_reducible exact H2_) | with_reducible exact H | (rw [hy166];exact H) | exact H
               have Ny166:=zz31 hy166
               clear hy166
               obtain ⟨y168,hy168⟩:∃ y_:List (List Bool),y_=(y164.set (((rd_T80 l0_1 x22_2).f1):Int).toNat y166):=⟨_,rfl⟩
               replace H:(spec_paTable.l1 k2 y168 l0_1 (l0_1.length:Int) (wrap64 (x22_2+1)))=some r:=by first | (rw [hy168];with_reducible exact H) | (have H2_:=(Option.bind_some _ _).symm.trans H;rw [hy168];with_reducible exact H2_) | (have H2_:=(Option.bind_some _ _).symm.trans H;with_reducible exact H2_) | with_reducible exact H | (rw [hy168];exact H) | exact H
               have Ny168:=zz31 hy168
               clear hy168
               have H':=zz31 H
               clear H
               have p159:0≤(x22_2:Int):=zz29 (by first | (with_reducible assumption) | assumption)
               have q159:x22_2 < (l0_1.length:Int):=zz29 (by first | (with_reducible assumption) | assumption)
               obtain ⟨ad159,e159,hx159_0,hx159_1⟩:=at_T80 HR0_1.out x22_2 p159 q159
               cases e159
               try replace hx159_0:=(HB.out.cell (World.block_lt_of_cell? w _ hx159_0)).trans hx159_0
               try replace hx159_1:=(HB.out.cell (World.block_lt_of_cell? w _ hx159_1)).trans hx159_1
               replace p159:=eq_true p159
               replace q159:=eq_true q159
               try go_wp2_with (first | ((with_reducible refine gate_dst (N:=6) rfl ?_);refine box_event ?hg (N:=6) ?hd (cs:=#[.int .i64 0,.int .i64 0]) (t:=80) ?hr ?_;(case hd=>rfl);(case hg=>rfl);(case hr=>first | (go_simp;done) | (go_simp;rfl));intro gb160 hg w24 hbox hb;have n0_:=zz31 (Kd.S_below (by (with_reducible repeat (first | apply zz15 | apply zz16 | apply zz17));exact HO_3.out) hb);have n1_:=zz31 (zz11 (g:=gb152) (o:=.cells #[.int .i64 a0_0,.slice (some ad159) l0_1.length c0_1] 32 (0,0)) (by (with_reducible repeat (first | refine zz6 ?_ _ | refine zz7 ?_ | refine zz8 ?_ _));exact BK152.out) hb);have n2_:=zz31 (zz4 (by repeat first | exact HB.out | apply zz2 | apply zz0 | apply zz1 | refine zz3 ?_ GE152.out) hb);have n3_:=zz31 (hbox);have n4_:=zz31 ((by rw [hg];exact (zz5 (by repeat first | exact HB.out | apply zz2 | apply zz0 | apply zz1 | refine zz3 ?_ GE152.out)):w.heap.size≤gb160));have n5_:=zz31 ((by rw [hg];exact (zz5 (by repeat first | exact HB.out | apply zz2 | apply zz0 | apply zz1 | refine zz3 ?_ GE152.out)):w.heap.size≤gb160));have n6_:=zz31 ((by rw [hg];exact Nat.ne_of_lt (blk_lt (g:=gb152) (o:=.cells #[.int .i64 a0_0,.slice (some ad159) l0_1.length c0_1] 32 (0,0)) (by (with_reducible repeat (first | refine zz6 ?_ _ | refine zz7 ?_ | refine zz8 ?_ _));exact BK152.out)):gb152 ≠ gb160));have n7_:=zz31 ((by rw [hg];exact Nat.ne_of_gt (blk_lt (g:=gb152) (o:=.cells #[.int .i64 a0_0,.slice (some ad159) l0_1.length c0_1] 32 (0,0)) (by (with_reducible repeat (first | refine zz6 ?_ _ | refine zz7 ?_ | refine zz8 ?_ _));exact BK152.out)):gb160 ≠ gb152));clear HO_3;clear BK152;clear HB;have HO_3:=n0_;have BK152:=n1_;have HB:=n2_;have BK160:=n3_;have GW160:=n4_;have GE160:=n5_;have NB152_160:=n6_;have NB160_152:=n7_;clear n0_ n1_ n2_ n3_ n4_ n5_ n6_ n7_;clear hb hbox hg;have hnb25:=NB160_152.out;have hnc25:=NB152_160.out;have hcz26_0:w24.cell? ⟨gb160,0,none⟩=some (.int .i64 0):=(zz9 BK160.out 0).trans rfl;have hcz26_1:w24.cell? ⟨gb160,1,none⟩=some (.int .i64 0):=(zz9 BK160.out 1).trans rfl;have hfz26_0:=zz10 BK160.out 0;have hfz26_1:=zz10 BK160.out 1))
               have n0_:Aside0 (Kd.S (Kd.slice 4 Kd.bool) 60 ((w24.setCell ⟨gb160,0,none⟩ (.int .i64 ((rd_T80 l0_1 x22_2).f0))).setCell ⟨gb160,1,none⟩ (.int .i64 ((rd_T80 l0_1 x22_2).f1))) w.heap.size (fun _=>True) u3 x3_2):=⟨by (with_reducible repeat (first | apply zz15 | apply zz16 | apply zz17));exact Kd.S_mono (Kd.S_far (p:=⟨gb160,1,none⟩) (Kd.S_far (p:=⟨gb160,0,none⟩) (Kd.S_types HO_3.out BK160.out (by decide)) (fun _ hk=>hk.2) (.int .i64 ((rd_T80 l0_1 x22_2).f0))) (fun _ hk=>hk.2) (.int .i64 ((rd_T80 l0_1 x22_2).f1))) (fun _ hk=>trivial)⟩
               have n1_:Aside0 (((w24.setCell ⟨gb160,0,none⟩ (.int .i64 ((rd_T80 l0_1 x22_2).f0))).setCell ⟨gb160,1,none⟩ (.int .i64 ((rd_T80 l0_1 x22_2).f1))).heap[gb152]?=some (.cells #[.int .i64 a0_0,.slice (some ad159) l0_1.length c0_1] 32 (0,0))):=⟨by (with_reducible repeat (first | refine zz6 ?_ _ | refine zz7 ?_ | refine zz8 ?_ _));refine blk_far ?_ NB152_160.out _;(with_reducible repeat (first | refine zz6 ?_ _ | refine zz7 ?_ | refine zz8 ?_ _));refine blk_far ?_ NB152_160.out _;(with_reducible repeat (first | refine zz6 ?_ _ | refine zz7 ?_ | refine zz8 ?_ _));exact BK152.out⟩
               have n2_:Aside0 (((w24.setCell ⟨gb160,0,none⟩ (.int .i64 ((rd_T80 l0_1 x22_2).f0))).setCell ⟨gb160,1,none⟩ (.int .i64 ((rd_T80 l0_1 x22_2).f1))).heap[gb160]?=some (.cells #[.int .i64 ((rd_T80 l0_1 x22_2).f0),.int .i64 ((rd_T80 l0_1 x22_2).f1)] 80 (0,0))):=⟨by (with_reducible repeat (first | refine zz6 ?_ _ | refine zz7 ?_ | refine zz8 ?_ _));refine blk_put (cs:=#[.int .i64 ((rd_T80 l0_1 x22_2).f0),.int .i64 0]) ?_ 1 _ rfl;(with_reducible repeat (first | refine zz6 ?_ _ | refine zz7 ?_ | refine zz8 ?_ _));refine blk_put (cs:=#[.int .i64 0,.int .i64 0]) ?_ 0 _ rfl;(with_reducible repeat (first | refine zz6 ?_ _ | refine zz7 ?_ | refine zz8 ?_ _));exact BK160.out⟩
               have n3_:Aside0 (Below w.heap.size w ((w24.setCell ⟨gb160,0,none⟩ (.int .i64 ((rd_T80 l0_1 x22_2).f0))).setCell ⟨gb160,1,none⟩ (.int .i64 ((rd_T80 l0_1 x22_2).f1)))):=⟨by repeat first | exact HB.out | apply zz2 | apply zz0 | apply zz1 | refine zz3 ?_ GE152.out | refine zz3 ?_ GE160.out⟩
               (try clear HO_3)
               (try clear BK152)
               (try clear BK160)
               (try clear HB)
               generalize ((w24.setCell ⟨gb160,0,none⟩ (.int .i64 ((rd_T80 l0_1 x22_2).f0))).setCell ⟨gb160,1,none⟩ (.int .i64 ((rd_T80 l0_1 x22_2).f1)))=w27 at n0_ n1_ n2_ n3_ ⊢
               have HO_3:=n0_
               have BK152:=n1_
               have BK160:=n2_
               have HB:=n3_
               clear n0_ n1_ n2_ n3_
               have n0_:=zz31 (zz17 HO_3.out)
               have n1_:=zz31 (zz7 BK152.out)
               have n2_:=zz31 (zz7 BK160.out)
               have n3_:=zz31 (zz1 HB.out)
               clear HO_3
               clear BK152
               clear BK160
               clear HB
               have HO_3:=n0_
               have BK152:=n1_
               have BK160:=n2_
               have HB:=n3_
               clear n0_ n1_ n2_ n3_
               obtain ⟨Ao29,co29,eo29⟩:=Kd.S_slice HO_3.out
               (first | subst eo29 | (injection eo29 with f1_ f2_ f3_;have f4_:=f1_.symm;have f5_:=f3_.symm;clear f1_ f2_ f3_;subst f4_;subst f5_))
               have p161:0≤(((rd_T80 l0_1 x22_2).f0):Int):=zz29 (by first | (with_reducible assumption) | assumption)
               have q161:((rd_T80 l0_1 x22_2).f0) < (x3_2.length:Int):=zz29 (by first | (with_reducible assumption) | assumption)
               obtain ⟨ad161,A161_0,c161_0,e161,hx161_0,hl161_0,hi161_0⟩:=at_L3 (Kd.S_reads' HO_3.out).2.2 ((rd_T80 l0_1 x22_2).f0) p161 q161
               cases e161
               obtain ⟨ce161,hce161,hMe161,hcc161⟩:=Kd.S_get HO_3.out [] ((rd_T80 l0_1 x22_2).f0) p161 (by first | exact q161 | exact zz29 (by first | (with_reducible assumption) | assumption) | (have e_:=(Kd.S_reads' HO_3.out).1;omega))
               obtain ⟨ve161_0,rfl,ge161_0⟩:=hMe161
               have hv161_0:=hcc161 0 _ rfl
               rw [Nat.add_zero,show ((Kd.slice 4 Kd.bool)).sz=1 from rfl,Nat.mul_one] at hv161_0
               replace hv161_0:=Option.some.inj (hv161_0.symm.trans hx161_0)
               rw [hv161_0] at ge161_0
               have HL161_0:=zz31 (show Kd.R Kd.bool 4 _ _ _ _ (rd_L3 x3_2 ((rd_T80 l0_1 x22_2).f0)) from ge161_0)
               clear hv161_0 ge161_0
               have HX161_0:=zz31 hx161_0
               clear hcc161 hce161
               have HR161_0:=zz31 hi161_0
               have HC161_0:=zz31 hl161_0
               clear hi161_0 hl161_0
               replace p161:=eq_true p161
               replace q161:=eq_true q161
               have p20:0≤(((rd_T80 l0_1 x22_2).f1):Int):=zz29 (by first | (with_reducible assumption) | assumption)
               have q20:(((rd_T80 l0_1 x22_2).f1):Int) < (((rd_L3 x3_2 ((rd_T80 l0_1 x22_2).f0)).length:Int):Int):=zz29 (by first | (with_reducible assumption) | assumption)
               obtain ⟨go20,co20,eo20,gb20,gl20,cl20,HG20⟩:=Kd.R_form HL161_0.out (by omega)
               (first | cases eo20 | (injection eo20 with ea_ en_ ec_;(first | subst ea_ | (injection ea_ with ea_;subst ea_));subst ec_;clear en_))
               have GB20:=zz31 gb20
               have GG20:=zz31 HG20
               clear gb20 gl20 HG20
               obtain ⟨hx20_0,hf20_0⟩:=Kd.R_celln false HL161_0.out (((rd_T80 l0_1 x22_2).f1):Int) p20 q20
               replace p20:=eq_true p20
               replace q20:=eq_true q20
               have hq30:(((rd_T80 l0_1 x22_2).f0):Int) < (x3_2.length:Int):=(by have h_:(((rd_T80 l0_1 x22_2).f0):Int) < ((x3_2.length:Int):Int):=zz29 (by first | (with_reducible assumption) | assumption);first | exact h_ | (have e_:=(Kd.S_reads' HO_3.out).1;omega) | simpa only [List.length_set,List.length_set] using h_)
               obtain ⟨oki30,ce30,hcl30,hM30,hcc30,hok30,hbk30⟩:=Kd.S_borrow HO_3.out [] (((rd_T80 l0_1 x22_2).f0):Int) (zz29 (by first | (with_reducible assumption) | assumption)) (by first | exact hq30 | (have e_:=(Kd.S_reads' HO_3.out).1;omega))
               obtain ⟨ve30_0,rfl,ge30_0⟩:=hM30
               have hv30:=hcc30 0 _ rfl
               rw [Nat.add_zero,show ((Kd.slice 4 Kd.bool)).sz=1 from rfl,Nat.mul_one] at hv30
               replace hv30:=Option.some.inj (hv30.symm.trans HX161_0.out)
               subst hv30
               clear hcc30 hcl30
               replace ge30_0:=(show Kd.R Kd.bool 4 _ _ _ _ (rd_L3 x3_2 ((rd_T80 l0_1 x22_2).f0)) from ge30_0)
               have HP30:=Kd.R_putg ge30_0 (((rd_T80 l0_1 x22_2).f1):Int) true
               rw [← Ny162.out] at HP30
               have HS30:=hbk30 HP30.2 (fun k_ e_=>by injection e_ with e_;subst e_;exact ge30_0.1 _ rfl) (x':=y162) (Kd.M_row HP30.1)
               rw [← Ny164.out] at HS30
               have HQ30:=zz31 HS30
               clear HP30 HS30 hbk30 hok30
               refine start_ (n:=9) (S:=fun w'=>w'.cell? ⟨gb160,0,none⟩=some (.int .i64 ((rd_T80 l0_1 x22_2).f0))∧w'.cell? ⟨gb160,1,none⟩=some (.int .i64 ((rd_T80 l0_1 x22_2).f1))∧w'.cell? (ad161.add (((rd_T80 l0_1 x22_2).f0)).toNat)=some (.slice (some ⟨go20,0,none⟩) (rd_L3 x3_2 ((rd_T80 l0_1 x22_2).f0)).length c161_0)) (ds:=[8]) #[F,F,F,F,F,F,F,F,F] (by kernel_rfl) rfl rfl ⟨(zz9 BK160.out 0).trans rfl,(zz9 BK160.out 1).trans rfl,hx161_0⟩ (fun hHeld=>?_);refine with_tabW spec_paTable.tab9 spec_paTable.bits9 (fun HT_ HW_=>?_)
               generalize w27.drew=w28 at HO_3 BK152 BK160 HB GG20 HL161_0 HQ30 HR161_0 HX161_0 hf20_0 hx161_0 hx20_0 hHeld ⊢
               refine pure_ (i:=0) (N:=some 26) (v:=?_) (a':=?_) #[T,F,F,F,F,F,F,F,F] rfl rfl (any_of HT_.out (by kernel_rfl)) (fun _ _ _ h=>h) (Or.inl ⟨by rfl,?_⟩) ?_ ?_
               rotate_left
               ·intro w'
                go_simp
                with_reducible rfl
               rotate_left
               ·simp only [Act.put,zz21,zz22,zz23,i64_w,i32_w]
                rfl
               refine pure_ (i:=1) (N:=some 27) (v:=?_) (a':=?_) #[T,T,F,F,F,F,F,F,F] rfl rfl (any_of HT_.out (by kernel_rfl)) (fun _ _ _ h=>h) (Or.inl ⟨by rfl,?_⟩) ?_ ?_
               rotate_left
               ·intro w'
                go_simp
                with_reducible rfl
               rotate_left
               ·simp only [Act.put,zz21,zz22,zz23,i64_w,i32_w]
                rfl
               refine pure_ (i:=5) (N:=some 31) (v:=?_) (a':=?_) #[T,T,F,F,F,T,F,F,F] rfl rfl (any_of HT_.out (by kernel_rfl)) (fun _ _ _ h=>h) (Or.inl ⟨by rfl,?_⟩) ?_ ?_
               rotate_left
               ·intro w'
                go_simp
                with_reducible rfl
               rotate_left
               ·simp only [Act.put,zz21,zz22,zz23,i64_w,i32_w]
                rfl
               refine take_ (i:=2) (N:=some 28) (v:=?_) (a':=?_) #[T,T,T,F,F,T,F,F,F] rfl rfl (take_ofW HT_.out HW_.out (by kernel_rfl)) (fun _ _ _ h=>h) (Or.inl ⟨by rfl,?_⟩) hHeld ?_ ?_
               rotate_left
               ·rintro w' ⟨s0,s1,s2⟩
                go_simp
                with_reducible rfl
               rotate_left
               ·simp only [Act.put,zz21,zz22,zz23,i64_w,i32_w]
                rfl
               refine pure_ (i:=3) (N:=some 29) (v:=?_) (a':=?_) #[T,T,T,T,F,T,F,F,F] rfl rfl (any_of HT_.out (by kernel_rfl)) (fun _ _ _ h=>h) (Or.inl ⟨by rfl,?_⟩) ?_ ?_
               rotate_left
               ·intro w'
                go_simp
                with_reducible rfl
               rotate_left
               ·simp only [Act.put,zz21,zz22,zz23,i64_w,i32_w]
                rfl
               refine take_ (i:=4) (N:=some 30) (v:=?_) (a':=?_) #[T,T,T,T,T,T,F,F,F] rfl rfl (take_ofW HT_.out HW_.out (by kernel_rfl)) (fun _ _ _ h=>h) (Or.inl ⟨by rfl,?_⟩) hHeld ?_ ?_
               rotate_left
               ·rintro w' ⟨s0,s1,s2⟩
                go_simp
                with_reducible rfl
               rotate_left
               ·simp only [Act.put,zz21,zz22,zz23,i64_w,i32_w]
                rfl
               refine take_ (i:=6) (N:=some 32) (v:=?_) (a':=?_) #[T,T,T,T,T,T,T,F,F] rfl rfl (take_ofW HT_.out HW_.out (by kernel_rfl)) (fun _ _ _ h=>h) (Or.inl ⟨by rfl,?_⟩) hHeld ?_ ?_
               rotate_left
               ·rintro w' ⟨s0,s1,s2⟩
                go_simp
                with_reducible rfl
               rotate_left
               ·simp only [Act.put,zz21,zz22,zz23,i64_w,i32_w]
                rfl
               refine pure_ (i:=7) (N:=some 33) (v:=?_) (a':=?_) #[T,T,T,T,T,T,T,T,F] rfl rfl (any_of HT_.out (by kernel_rfl)) (fun _ _ _ h=>h) (Or.inl ⟨by rfl,?_⟩) ?_ ?_
               rotate_left
               ·intro w'
                go_simp
                with_reducible rfl
               rotate_left
               ·simp only [Act.put,zz21,zz22,zz23,i64_w,i32_w]
                rfl
               refine last_ (i:=8) (N:=none) #[T,T,T,T,T,T,T,T,T] rfl rfl (one_of HT_.out (by kernel_rfl)) (by decide) (fun K hK=>?_)
               refine skip_ (w1:=?_) (by rfl) rfl ?_ ?_
               rotate_left
               ·go_simp
                rfl
               refine hK.out _ _ ?_
               clear hK K
               refine done_ (done_of HT_.out (by kernel_rfl)) ?_
               try go_wp2
               have n0_:Aside0 (Kd.S (Kd.slice 4 Kd.bool) 60 (w28.setCell ⟨go20,(((rd_T80 l0_1 x22_2).f1):Int).toNat,none⟩ (.bool true)) w.heap.size (fun _=>True) (.slice (some ad161) x3_2.length co29) y164):=⟨by (with_reducible repeat (first | apply zz15 | apply zz16 | apply zz17));exact HQ30.out⟩
               have n1_:Aside0 ((w28.setCell ⟨go20,(((rd_T80 l0_1 x22_2).f1):Int).toNat,none⟩ (.bool true)).heap[gb152]?=some (.cells #[.int .i64 a0_0,.slice (some ad159) l0_1.length c0_1] 32 (0,0))):=⟨by (with_reducible repeat (first | refine zz6 ?_ _ | refine zz7 ?_ | refine zz8 ?_ _));refine blk_far ?_ (by have h_:=Kd.R_ne HL161_0.out BK152.out (by decide);intro e_;exact h_ (by rw [e_];rfl)) _;(with_reducible repeat (first | refine zz6 ?_ _ | refine zz7 ?_ | refine zz8 ?_ _));exact BK152.out⟩
               have n2_:Aside0 ((w28.setCell ⟨go20,(((rd_T80 l0_1 x22_2).f1):Int).toNat,none⟩ (.bool true)).heap[gb160]?=some (.cells #[.int .i64 ((rd_T80 l0_1 x22_2).f0),.int .i64 ((rd_T80 l0_1 x22_2).f1)] 80 (0,0))):=⟨by (with_reducible repeat (first | refine zz6 ?_ _ | refine zz7 ?_ | refine zz8 ?_ _));refine blk_far ?_ (by have h_:=Kd.R_ne HL161_0.out BK160.out (by decide);intro e_;exact h_ (by rw [e_];rfl)) _;(with_reducible repeat (first | refine zz6 ?_ _ | refine zz7 ?_ | refine zz8 ?_ _));exact BK160.out⟩
               have n3_:Aside0 (Below w.heap.size w (w28.setCell ⟨go20,(((rd_T80 l0_1 x22_2).f1):Int).toNat,none⟩ (.bool true))):=⟨by repeat first | exact HB.out | apply zz2 | apply zz0 | apply zz1 | refine zz3 ?_ GB20.out | refine zz3 ?_ GE152.out | refine zz3 ?_ GE160.out⟩
               (try clear HO_3)
               (try clear BK152)
               (try clear BK160)
               (try clear HB)
               generalize (w28.setCell ⟨go20,(((rd_T80 l0_1 x22_2).f1):Int).toNat,none⟩ (.bool true))=w32 at n0_ n1_ n2_ n3_ ⊢
               have HO_3:=n0_
               have BK152:=n1_
               have BK160:=n2_
               have HB:=n3_
               clear n0_ n1_ n2_ n3_
               have n0_:=zz31 (zz17 HO_3.out)
               have n1_:=zz31 (zz7 BK152.out)
               have n2_:=zz31 (zz7 BK160.out)
               have n3_:=zz31 (zz1 HB.out)
               clear HO_3
               clear BK152
               clear BK160
               clear HB
               have HO_3:=n0_
               have BK152:=n1_
               have BK160:=n2_
               have HB:=n3_
               clear n0_ n1_ n2_ n3_
               have p165:0≤(((rd_T80 l0_1 x22_2).f1):Int):=zz29 (by first | (with_reducible assumption) | assumption)
               have q165:((rd_T80 l0_1 x22_2).f1) < (y164.length:Int):=(by have h_:(((rd_T80 l0_1 x22_2).f1):Int) < ((x3_2.length:Int):Int):=zz29 (by first | (with_reducible assumption) | assumption);first | (have e_:=(Kd.S_reads' HO_3.out).1;omega) | simpa only [Ny164.out,List.length_set] using h_)
               have ql165:((((rd_T80 l0_1 x22_2).f1):Int) < ((x3_2.length:Int):Int))=True:=eq_true (zz29 (by first | (with_reducible assumption) | assumption))
               obtain ⟨ad165,A165_0,c165_0,e165,hx165_0,hl165_0,hi165_0⟩:=at_L3 (Kd.S_reads' HO_3.out).2.2 ((rd_T80 l0_1 x22_2).f1) p165 q165
               obtain rfl:ad161=ad165:=(by injection e165)
               obtain ⟨ce165,hce165,hMe165,hcc165⟩:=Kd.S_get HO_3.out [] ((rd_T80 l0_1 x22_2).f1) p165 (by first | exact q165 | exact zz29 (by first | (with_reducible assumption) | assumption) | (have e_:=(Kd.S_reads' HO_3.out).1;omega))
               obtain ⟨ve165_0,rfl,ge165_0⟩:=hMe165
               have hv165_0:=hcc165 0 _ rfl
               rw [Nat.add_zero,show ((Kd.slice 4 Kd.bool)).sz=1 from rfl,Nat.mul_one] at hv165_0
               replace hv165_0:=Option.some.inj (hv165_0.symm.trans hx165_0)
               rw [hv165_0] at ge165_0
               have HL165_0:=zz31 (show Kd.R Kd.bool 4 _ _ _ _ (rd_L3 y164 ((rd_T80 l0_1 x22_2).f1)) from ge165_0)
               clear hv165_0 ge165_0
               have HX165_0:=zz31 hx165_0
               clear hcc165 hce165
               have HR165_0:=zz31 hi165_0
               have HC165_0:=zz31 hl165_0
               clear hi165_0 hl165_0
               replace p165:=eq_true p165
               replace q165:=eq_true q165
               have p23:0≤(((rd_T80 l0_1 x22_2).f0):Int):=zz29 (by first | (with_reducible assumption) | assumption)
               have q23:(((rd_T80 l0_1 x22_2).f0):Int) < (((rd_L3 y164 ((rd_T80 l0_1 x22_2).f1)).length:Int):Int):=zz29 (by first | (with_reducible assumption) | assumption)
               obtain ⟨go23,co23,eo23,gb23,gl23,cl23,HG23⟩:=Kd.R_form HL165_0.out (by omega)
               (first | cases eo23 | (injection eo23 with ea_ en_ ec_;(first | subst ea_ | (injection ea_ with ea_;subst ea_));subst ec_;clear en_))
               have GB23:=zz31 gb23
               have GG23:=zz31 HG23
               clear gb23 gl23 HG23
               obtain ⟨hx23_0,hf23_0⟩:=Kd.R_celln false HL165_0.out (((rd_T80 l0_1 x22_2).f0):Int) p23 q23
               replace p23:=eq_true p23
               replace q23:=eq_true q23
               have hq34:(((rd_T80 l0_1 x22_2).f1):Int) < (y164.length:Int):=(by have h_:(((rd_T80 l0_1 x22_2).f1):Int) < ((x3_2.length:Int):Int):=zz29 (by first | (with_reducible assumption) | assumption);first | exact h_ | (have e_:=(Kd.S_reads' HO_3.out).1;omega) | simpa only [Ny164.out,List.length_set] using h_)
               obtain ⟨oki34,ce34,hcl34,hM34,hcc34,hok34,hbk34⟩:=Kd.S_borrow HO_3.out [] (((rd_T80 l0_1 x22_2).f1):Int) (zz29 (by first | (with_reducible assumption) | assumption)) (by first | exact hq34 | (have e_:=(Kd.S_reads' HO_3.out).1;omega))
               obtain ⟨ve34_0,rfl,ge34_0⟩:=hM34
               have hv34:=hcc34 0 _ rfl
               rw [Nat.add_zero,show ((Kd.slice 4 Kd.bool)).sz=1 from rfl,Nat.mul_one] at hv34
               replace hv34:=Option.some.inj (hv34.symm.trans HX165_0.out)
               subst hv34
               clear hcc34 hcl34
               replace ge34_0:=(show Kd.R Kd.bool 4 _ _ _ _ (rd_L3 y164 ((rd_T80 l0_1 x22_2).f1)) from ge34_0)
               have HP34:=Kd.R_putg ge34_0 (((rd_T80 l0_1 x22_2).f0):Int) true
               rw [← Ny166.out] at HP34
               have HS34:=hbk34 HP34.2 (fun k_ e_=>by injection e_ with e_;subst e_;exact ge34_0.1 _ rfl) (x':=y166) (Kd.M_row HP34.1)
               rw [← Ny168.out] at HS34
               have HQ34:=zz31 HS34
               clear HP34 HS34 hbk34 hok34
               refine start_ (n:=9) (S:=fun w'=>w'.cell? ⟨gb160,0,none⟩=some (.int .i64 ((rd_T80 l0_1 x22_2).f0))∧w'.cell? ⟨gb160,1,none⟩=some (.int .i64 ((rd_T80 l0_1 x22_2).f1))∧w'.cell? (ad161.add (((rd_T80 l0_1 x22_2).f1)).toNat)=some (.slice (some ⟨go23,0,none⟩) (rd_L3 y164 ((rd_T80 l0_1 x22_2).f1)).length c165_0)) (ds:=[8]) #[F,F,F,F,F,F,F,F,F] (by kernel_rfl) rfl rfl ⟨(zz9 BK160.out 0).trans rfl,(zz9 BK160.out 1).trans rfl,hx165_0⟩ (fun hHeld=>?_);refine with_tabW spec_paTable.tab10 spec_paTable.bits10 (fun HT_ HW_=>?_)
               generalize w32.drew=w33 at HO_3 BK152 BK160 HB GG23 HL165_0 HQ30 HQ34 HR165_0 HX165_0 hf23_0 hx165_0 hx23_0 hHeld ⊢
               refine pure_ (i:=0) (N:=some 34) (v:=?_) (a':=?_) #[T,F,F,F,F,F,F,F,F] rfl rfl (any_of HT_.out (by kernel_rfl)) (fun _ _ _ h=>h) (Or.inl ⟨by rfl,?_⟩) ?_ ?_
               rotate_left
               ·intro w'
                go_simp
                with_reducible rfl
               rotate_left
               ·simp only [Act.put,zz21,zz22,zz23,i64_w,i32_w]
                rfl
               refine pure_ (i:=1) (N:=some 35) (v:=?_) (a':=?_) #[T,T,F,F,F,F,F,F,F] rfl rfl (any_of HT_.out (by kernel_rfl)) (fun _ _ _ h=>h) (Or.inl ⟨by rfl,?_⟩) ?_ ?_
               rotate_left
               ·intro w'
                go_simp
                with_reducible rfl
               rotate_left
               ·simp only [Act.put,zz21,zz22,zz23,i64_w,i32_w]
                rfl
               refine pure_ (i:=5) (N:=some 39) (v:=?_) (a':=?_) #[T,T,F,F,F,T,F,F,F] rfl rfl (any_of HT_.out (by kernel_rfl)) (fun _ _ _ h=>h) (Or.inl ⟨by rfl,?_⟩) ?_ ?_
               rotate_left
               ·intro w'
                go_simp
                with_reducible rfl
               rotate_left
               ·simp only [Act.put,zz21,zz22,zz23,i64_w,i32_w]
                rfl
               refine take_ (i:=2) (N:=some 36) (v:=?_) (a':=?_) #[T,T,T,F,F,T,F,F,F] rfl rfl (take_ofW HT_.out HW_.out (by kernel_rfl)) (fun _ _ _ h=>h) (Or.inl ⟨by rfl,?_⟩) hHeld ?_ ?_
               rotate_left
               ·rintro w' ⟨s0,s1,s2⟩
                go_simp
                with_reducible rfl
               rotate_left
               ·simp only [Act.put,zz21,zz22,zz23,i64_w,i32_w]
                rfl
               refine pure_ (i:=3) (N:=some 37) (v:=?_) (a':=?_) #[T,T,T,T,F,T,F,F,F] rfl rfl (any_of HT_.out (by kernel_rfl)) (fun _ _ _ h=>h) (Or.inl ⟨by rfl,?_⟩) ?_ ?_
               rotate_left
               ·intro w'
                go_simp
                with_reducible rfl
               rotate_left
               ·simp only [Act.put,zz21,zz22,zz23,i64_w,i32_w]
                rfl
               refine take_ (i:=4) (N:=some 38) (v:=?_) (a':=?_) #[T,T,T,T,T,T,F,F,F] rfl rfl (take_ofW HT_.out HW_.out (by kernel_rfl)) (fun _ _ _ h=>h) (Or.inl ⟨by rfl,?_⟩) hHeld ?_ ?_
               rotate_left
               ·rintro w' ⟨s0,s1,s2⟩
                go_simp
                with_reducible rfl
               rotate_left
               ·simp only [Act.put,zz21,zz22,zz23,i64_w,i32_w]
                rfl
               refine take_ (i:=6) (N:=some 40) (v:=?_) (a':=?_) #[T,T,T,T,T,T,T,F,F] rfl rfl (take_ofW HT_.out HW_.out (by kernel_rfl)) (fun _ _ _ h=>h) (Or.inl ⟨by rfl,?_⟩) hHeld ?_ ?_
               rotate_left
               ·rintro w' ⟨s0,s1,s2⟩
                go_simp
                with_reducible rfl
               rotate_left
               ·simp only [Act.put,zz21,zz22,zz23,i64_w,i32_w]
                rfl
               refine pure_ (i:=7) (N:=some 41) (v:=?_) (a':=?_) #[T,T,T,T,T,T,T,T,F] rfl rfl (any_of HT_.out (by kernel_rfl)) (fun _ _ _ h=>h) (Or.inl ⟨by rfl,?_⟩) ?_ ?_
               rotate_left
               ·intro w'
                go_simp
                with_reducible rfl
               rotate_left
               ·simp only [Act.put,zz21,zz22,zz23,i64_w,i32_w]
                rfl
               refine last_ (i:=8) (N:=none) #[T,T,T,T,T,T,T,T,T] rfl rfl (one_of HT_.out (by kernel_rfl)) (by decide) (fun K hK=>?_)
               refine skip_ (w1:=?_) (by rfl) rfl ?_ ?_
               rotate_left
               ·go_simp
                rfl
               refine hK.out _ _ ?_
               clear hK K
               refine done_ (done_of HT_.out (by kernel_rfl)) ?_
               try go_wp2
               go_roundg k2
               case measure=>have:=HK1.out;have:=HK2.out;omega
               case rel=>exact ⟨(y168),(wrap64 (x22_2+1)),(by first | rfl | (simp;done) | (simp [*];done)),H',⟨by have:=HK1.out;have:=HK2.out;omega⟩,⟨by (with_reducible repeat (first | apply zz15 | apply zz16 | apply zz17));exact HQ34.out⟩,⟨by (with_reducible repeat (first | refine zz6 ?_ _ | refine zz7 ?_ | refine zz8 ?_ _));refine blk_far ?_ (by have h_:=Kd.R_ne HL165_0.out BK152.out (by decide);intro e_;exact h_ (by rw [e_];rfl)) _;(with_reducible repeat (first | refine zz6 ?_ _ | refine zz7 ?_ | refine zz8 ?_ _));exact BK152.out⟩,⟨by repeat first | exact HB.out | apply zz2 | apply zz0 | apply zz1 | refine zz3 ?_ GB23.out | refine zz3 ?_ GE152.out | refine zz3 ?_ GE160.out⟩⟩
              ·rw [if_neg c22] at H
               exact absurd H (by simp)
             ·rw [if_neg c21] at H
              exact absurd H (by simp)
            ·rw [if_neg c19] at H
             exact absurd H (by simp)
           ·rw [if_neg c18] at H
            exact absurd H (by simp)
          ·rw [if_neg c17] at H
           exact absurd H (by simp)
         ·rw [if_neg c16] at H
          exact absurd H (by simp)
        ·rw [if_neg c15] at H
         exact absurd H (by simp)
       ·rw [if_neg c14] at H
        exact absurd H (by simp)
      ·rw [if_neg c13] at H
       have c13b0:decide (x22_2 < (l0_1.length:Int))=false:=decide_eq_false c13
       clear c13
       obtain rfl:=Option.some.inj H
       go_wp2
       go_ret
       exact ⟨_,by first | rfl | (simp [errW_none,errW_some] <;> rfl) | (simp [*,errW_none,errW_some] <;> rfl),by (with_reducible repeat (first | apply zz15 | apply zz16 | apply zz17));exact HO_3.out,by repeat first | exact HB.out | apply zz2 | apply zz0 | apply zz1 | refine zz3 ?_ GE152.out⟩

/-! ### spec_paOf: function 61 -/
mutual
def spec_paOf.l0:Nat→List (List Bool)→Int→Int→Int→List (S80)→Option (Int × (List (S80)))
 | 0,_,_,_,_,_=>none
 | k+1,x0,x10,x11,x171000,x171001=>if x11 < x10 then (spec_paOf.l1 k x0 x11 (wrap64 (x11+1)) x10 x11 x171000 x171001) else (some (x171000,x171001))
def spec_paOf.l1:Nat→List (List Bool)→Int→Int→Int→Int→Int→List (S80)→Option (Int × (List (S80)))
 | 0,_,_,_,_,_,_,_=>none
 | k+1,x0,x4,x5,x10,x11,x171000,x171001=>if x5 < (x0.length:Int) then (if 0≤x4 then (if x4 < (x0.length:Int) then (if 0≤x5 then (if x5 < ((rd_L3 x0 x4).length:Int) then (if rdOf false (rd_L3 x0 x4) x5=true then (if x171001.length < 8796093022208 then (spec_paOf.l1 k x0 x4 (wrap64 (x5+1)) x10 x11 x171000 (x171001 ++ [(⟨x4,x5⟩:S80)])) else (none)) else (spec_paOf.l1 k x0 x4 (wrap64 (x5+1)) x10 x11 x171000 x171001)) else (none)) else (none)) else (none)) else (none)) else (spec_paOf.l0 k x0 x10 (wrap64 (x11+1)) x171000 x171001)
end
def spec_paOf.f (k:Nat) (l0:List (List Bool)):Option (Int × (List (S80))):=spec_paOf.l0 k l0 (l0.length:Int) 0 (l0.length:Int) ([]:List (S80))
theorem spec_paOf.mono_l:∀ k,(∀ y0 y1 y2 y3 y4,LeO (spec_paOf.l0 k y0 y1 y2 y3 y4) (spec_paOf.l0 (k+1) y0 y1 y2 y3 y4))∧(∀ y0 y1 y2 y3 y4 y5 y6,LeO (spec_paOf.l1 k y0 y1 y2 y3 y4 y5 y6) (spec_paOf.l1 (k+1) y0 y1 y2 y3 y4 y5 y6))
 | 0=>⟨fun _ _ _ _ _ r h=>by simp [spec_paOf.l0] at h,fun _ _ _ _ _ _ _ r h=>by simp [spec_paOf.l1] at h⟩
 | k+1=>by
  obtain ⟨ih0,ih1⟩:=spec_paOf.mono_l k
  refine ⟨?_,?_⟩
  ·intro y0 y1 y2 y3 y4
   unfold spec_paOf.l0
   repeat' first
   | (with_reducible exact ih0 _ _ _ _ _)
   | (with_reducible exact ih1 _ _ _ _ _ _ _)
   | (with_reducible exact LeO.refl _)
   | (with_reducible exact LeO.none _)
   | (with_reducible refine LeO.ite ?_ ?_)
   | (with_reducible refine LeO.bind ?_ (fun _=>?_))
   | exact ih0 _ _ _ _ _
   | exact ih1 _ _ _ _ _ _ _
   | exact LeO.none _
   | refine LeO.ite ?_ ?_
   | refine LeO.bind ?_ (fun _=>?_)
  ·intro y0 y1 y2 y3 y4 y5 y6
   unfold spec_paOf.l1
   repeat' first
   | (with_reducible exact ih0 _ _ _ _ _)
   | (with_reducible exact ih1 _ _ _ _ _ _ _)
   | (with_reducible exact LeO.refl _)
   | (with_reducible exact LeO.none _)
   | (with_reducible refine LeO.ite ?_ ?_)
   | (with_reducible refine LeO.bind ?_ (fun _=>?_))
   | exact ih0 _ _ _ _ _
   | exact ih1 _ _ _ _ _ _ _
   | exact LeO.none _
   | refine LeO.ite ?_ ?_
   | refine LeO.bind ?_ (fun _=>?_)
theorem spec_paOf.mono:∀ a0 k,LeO (spec_paOf.f k a0) (spec_paOf.f (k+1) a0):=by
 intro a0 k
 obtain ⟨ih0,ih1⟩:=spec_paOf.mono_l k
 unfold spec_paOf.f
 repeat' first
   | (with_reducible exact ih0 _ _ _ _ _)
   | (with_reducible exact ih1 _ _ _ _ _ _ _)
   | (with_reducible exact LeO.refl _)
   | (with_reducible exact LeO.none _)
   | (with_reducible refine LeO.ite ?_ ?_)
   | (with_reducible refine LeO.bind ?_ (fun _=>?_))
   | exact ih0 _ _ _ _ _
   | exact ih1 _ _ _ _ _ _ _
   | exact LeO.none _
   | refine LeO.ite ?_ ?_
   | refine LeO.bind ?_ (fun _=>?_)
set_option maxHeartbeats 8000000 in
set_option maxRecDepth 100000 in
theorem spec_paOf.calls (k:Nat) (A0:Option Addr) (c0:Nat) (l0:List (List Bool)) (r1:Int) (r2:List (S80)) (w:World) (hr0:Kd.C (Kd.slice 4 Kd.bool) w A0 l0.length l0) (hc0:l0.length≤c0) (h:spec_paOf.f k l0=some (r1,r2)) :
  Calls Try.prog 61 #[.slice A0 l0.length c0] w fun e w'=>∃ v1_:Value,e=.returned (.agg #[.int .i64 r1,v1_])∧Kd.R k80 80 w' w.heap.size (fun _=>True) v1_ r2∧Below w.heap.size w w':=by
 have hu32:=Try.underlying32
 have hu80:=Try.underlying80
 have HR0:=zz31 hr0
 have HC0:=zz31 hc0
 clear hr0 hc0
 have HB:=zz31 (Below.refl w.heap.size w)
 have H:(spec_paOf.l0 k l0 (l0.length:Int) 0 (l0.length:Int) ([]:List (S80)))=some (r1,r2):=h
 clear h
 have H':=zz31 H
 clear H
 go_enter Try.func61,Try.ntmps61
 go_wp2_with (first | ((with_reducible refine gate_dst (N:=2) rfl ?_);refine box_event ?hg (N:=2) ?hd (cs:=#[.int .i64 0,.slice none 0 0]) (t:=32) ?hr ?_;(case hd=>rfl);(case hg=>rfl);(case hr=>first | (go_simp;done) | (go_simp;rfl));intro gb169 hg w2 hbox hb;have n0_:=zz31 (zz4 (by repeat first | exact HB.out | apply zz2 | apply zz0 | apply zz1) hb);have n1_:=zz31 (hbox);have n2_:=zz31 ((by rw [hg];exact (zz5 (by repeat first | exact HB.out | apply zz2 | apply zz0 | apply zz1)):w.heap.size≤gb169));have n3_:=zz31 ((by rw [hg];exact (zz5 (by repeat first | exact HB.out | apply zz2 | apply zz0 | apply zz1)):w.heap.size≤gb169));clear HB;have HB:=n0_;have BK169:=n1_;have GW169:=n2_;have GE169:=n3_;clear n0_ n1_ n2_ n3_;clear hb hbox hg) | ((with_reducible refine gate_dst (N:=3) rfl ?_);refine box_event ?hg (N:=3) ?hd (cs:=#[.int .i64 0,.slice none 0 0]) (t:=32) ?hr ?_;(case hd=>rfl);(case hg=>rfl);(case hr=>first | (go_simp;done) | (go_simp;rfl));intro gb170 hg w3 hbox hb;have n0_:=zz31 (zz11 (g:=gb169) (o:=.cells #[.int .i64 0,.slice none 0 0] 32 (0,0)) (by (with_reducible repeat (first | refine zz6 ?_ _ | refine zz7 ?_ | refine zz8 ?_ _));exact BK169.out) hb);have n1_:=zz31 (zz4 (by repeat first | exact HB.out | apply zz2 | apply zz0 | apply zz1 | refine zz3 ?_ GE169.out) hb);have n2_:=zz31 (hbox);have n3_:=zz31 ((by rw [hg];exact (zz5 (by repeat first | exact HB.out | apply zz2 | apply zz0 | apply zz1 | refine zz3 ?_ GE169.out)):w.heap.size≤gb170));have n4_:=zz31 ((by rw [hg];exact (zz5 (by repeat first | exact HB.out | apply zz2 | apply zz0 | apply zz1 | refine zz3 ?_ GE169.out)):w.heap.size≤gb170));have n5_:=zz31 ((by rw [hg];exact Nat.ne_of_lt (blk_lt (g:=gb169) (o:=.cells #[.int .i64 0,.slice none 0 0] 32 (0,0)) (by (with_reducible repeat (first | refine zz6 ?_ _ | refine zz7 ?_ | refine zz8 ?_ _));exact BK169.out)):gb169 ≠ gb170));have n6_:=zz31 ((by rw [hg];exact Nat.ne_of_gt (blk_lt (g:=gb169) (o:=.cells #[.int .i64 0,.slice none 0 0] 32 (0,0)) (by (with_reducible repeat (first | refine zz6 ?_ _ | refine zz7 ?_ | refine zz8 ?_ _));exact BK169.out)):gb170 ≠ gb169));clear BK169;clear HB;have BK169:=n0_;have HB:=n1_;have BK170:=n2_;have GW170:=n3_;have GE170:=n4_;have NB169_170:=n5_;have NB170_169:=n6_;clear n0_ n1_ n2_ n3_ n4_ n5_ n6_;clear hb hbox hg;have hnb4:=NB170_169.out;have hnc4:=NB169_170.out;have hcz5_0:w3.cell? ⟨gb170,0,none⟩=some (.int .i64 0):=(zz9 BK170.out 0).trans rfl;have hcz5_1:w3.cell? ⟨gb170,1,none⟩=some (.slice none 0 0):=(zz9 BK170.out 1).trans rfl;have hfz5_0:=zz10 BK170.out 0;have hfz5_1:=zz10 BK170.out 1))
 go_loopg [11] k (fun kq v11 w'=>∃ (x11_1:Int) (x171001_1:List (S80)) (u171001:Value),v11=.int .i64 x11_1∧Aside0 (spec_paOf.l0 kq l0 (l0.length:Int) x11_1 (l0.length:Int) x171001_1=some (r1,r2))∧Aside0 (kq≤k)∧Aside0 (Kd.R k80 80 w' w.heap.size (fun _=>True) u171001 x171001_1)∧Aside0 (w'.heap[gb169]?=some (.cells #[.int .i64 0,(.slice none 0 0)] 32 (0,0)))∧Aside0 (w'.heap[gb170]?=some (.cells #[.int .i64 (l0.length:Int),u171001] 32 (0,0)))∧Aside0 (Below w.heap.size w w'))
 case atStart=>exact ⟨(0),(([]:List (S80))),(.slice none 0 0),(by first | rfl | (simp;done) | (simp [*];done)),H',⟨Nat.le_refl _⟩,⟨by first | exact Kd.R_nil _ _ _ _ _ | exact Kd.N_nil _ _ _ _ _ | exact Kd.V_nil _ _ _ _ _ | exact Kd.Q_nil _ _ _ _ _ | exact Kd.S_nil _ _ _ _ _⟩,⟨by (with_reducible repeat (first | refine zz6 ?_ _ | refine zz7 ?_ | refine zz8 ?_ _));refine blk_far ?_ NB169_170.out _;(with_reducible repeat (first | refine zz6 ?_ _ | refine zz7 ?_ | refine zz8 ?_ _));refine blk_far ?_ NB169_170.out _;(with_reducible repeat (first | refine zz6 ?_ _ | refine zz7 ?_ | refine zz8 ?_ _));exact BK169.out⟩,⟨by (with_reducible repeat (first | refine zz6 ?_ _ | refine zz7 ?_ | refine zz8 ?_ _));refine blk_put (cs:=#[.int .i64 (l0.length:Int),.slice none 0 0]) ?_ 1 _ rfl;(with_reducible repeat (first | refine zz6 ?_ _ | refine zz7 ?_ | refine zz8 ?_ _));refine blk_put (cs:=#[.int .i64 0,.slice none 0 0]) ?_ 0 _ rfl;(with_reducible repeat (first | refine zz6 ?_ _ | refine zz7 ?_ | refine zz8 ?_ _));exact BK170.out⟩,⟨by repeat first | exact HB.out | apply zz2 | apply zz0 | apply zz1 | refine zz3 ?_ GE169.out | refine zz3 ?_ GE170.out⟩⟩
 case round =>
  clear H'
  try clear p2
  try clear c4
  try clear hcz5_0
  try clear hcz5_1
  try clear hfz5_0
  try clear hfz5_1
  obtain ⟨x11_1,x171001_1,u171001,rfl,HA,HK1,HO_171001,BK169,BK170,HB⟩:=hrel
  cases gk with
  | zero=>exact absurd HA.out (by simp [spec_paOf.l0])
  | succ k1 =>
   have H:=HA.out
   clear HA
   simp only [spec_paOf.l0] at H
   by_cases c6:x11_1 < (l0.length:Int)
   ·rw [if_pos c6] at H
    have c6b0:decide (x11_1 < (l0.length:Int))=true:=decide_eq_true c6
    clear c6
    have H':=zz31 H
    clear H
    go_wp2
    go_loopg [5] k1 (fun kq v5 w'=>∃ (x5_2:Int) (x171001_2:List (S80)) (u171001:Value),v5=.int .i64 x5_2∧Aside0 (spec_paOf.l1 kq l0 x11_1 x5_2 (l0.length:Int) x11_1 (l0.length:Int) x171001_2=some (r1,r2))∧Aside0 (kq≤k1)∧Aside0 (Kd.R k80 80 w' w.heap.size (fun _=>True) u171001 x171001_2)∧Aside0 (w'.heap[gb169]?=some (.cells #[.int .i64 0,(.slice none 0 0)] 32 (0,0)))∧Aside0 (w'.heap[gb170]?=some (.cells #[.int .i64 (l0.length:Int),u171001] 32 (0,0)))∧Aside0 (Below w.heap.size w w'))
    case atStart=>exact ⟨(wrap64 (x11_1+1)),(x171001_1),(u171001),(by first | rfl | (simp;done) | (simp [*];done)),H',⟨Nat.le_refl _⟩,⟨by (with_reducible repeat (first | apply zz12 | apply zz13 | apply zz14));exact HO_171001.out⟩,⟨by (with_reducible repeat (first | refine zz6 ?_ _ | refine zz7 ?_ | refine zz8 ?_ _));exact BK169.out⟩,⟨by (with_reducible repeat (first | refine zz6 ?_ _ | refine zz7 ?_ | refine zz8 ?_ _));exact BK170.out⟩,⟨by repeat first | exact HB.out | apply zz2 | apply zz0 | apply zz1 | refine zz3 ?_ GE169.out | refine zz3 ?_ GE170.out⟩⟩
    case round =>
     clear H'
     try clear p2
     try clear c4
     try clear c6
     try clear c6b0
     try clear p6
     try clear hcz5_0
     try clear hcz5_1
     try clear hfz5_0
     try clear hfz5_1
     try clear p2
     obtain ⟨x5_2,x171001_2,u171001,rfl,HA,HK2,HO_171001,BK169,BK170,HB⟩:=hrel
     cases gk with
     | zero=>exact absurd HA.out (by simp [spec_paOf.l1])
     | succ k2 =>
      have H:=HA.out
      clear HA
      simp only [spec_paOf.l1] at H
      by_cases c7:x5_2 < (l0.length:Int)
      ·rw [if_pos c7] at H
       have c7b0:decide (x5_2 < (l0.length:Int))=true:=decide_eq_true c7
       clear c7
       by_cases c8:0≤x11_1
       ·rw [if_pos c8] at H
        have c8b0:decide (0≤x11_1)=true:=decide_eq_true c8
        clear c8
        by_cases c9:x11_1 < (l0.length:Int)
        ·rw [if_pos c9] at H
         have c9b0:decide (x11_1 < (l0.length:Int))=true:=decide_eq_true c9
         clear c9
         by_cases c10:0≤x5_2
         ·rw [if_pos c10] at H
          have c10b0:decide (0≤x5_2)=true:=decide_eq_true c10
          clear c10
          by_cases c11:x5_2 < ((rd_L3 l0 x11_1).length:Int)
          ·rw [if_pos c11] at H
           have c11b0:decide (x5_2 < ((rd_L3 l0 x11_1).length:Int))=true:=decide_eq_true c11
           clear c11
           obtain ⟨bq12,hbq12⟩:∃ b_:Bool,b_=(rdOf false (rd_L3 l0 x11_1) x5_2):=⟨_,rfl⟩
           replace H:(if bq12=true then (if x171001_2.length < 8796093022208 then (spec_paOf.l1 k2 l0 x11_1 (wrap64 (x5_2+1)) (l0.length:Int) x11_1 (l0.length:Int) (x171001_2 ++ [(⟨x11_1,x5_2⟩:S80)])) else (none)) else (spec_paOf.l1 k2 l0 x11_1 (wrap64 (x5_2+1)) (l0.length:Int) x11_1 (l0.length:Int) x171001_2))=some (r1,r2):=by rw [← hbq12] at H;exact H
           have Nbq12:=zz31 hbq12
           clear hbq12
           by_cases c13:bq12=true
           ·subst c13
            have H1:(if x171001_2.length < 8796093022208 then (spec_paOf.l1 k2 l0 x11_1 (wrap64 (x5_2+1)) (l0.length:Int) x11_1 (l0.length:Int) (x171001_2 ++ [(⟨x11_1,x5_2⟩:S80)])) else (none))=some (r1,r2):=by rw [if_pos rfl] at H;exact H
            clear H
            have H:=H1
            clear H1
            by_cases c14:x171001_2.length < 8796093022208
            ·rw [if_pos c14] at H
             have LMc14:=zz31 c14
             clear c14
             obtain ⟨y173,hy173⟩:∃ y_:List (S80),y_=(x171001_2 ++ [(⟨x11_1,x5_2⟩:S80)]):=⟨_,rfl⟩
             replace H:(spec_paOf.l1 k2 l0 x11_1 (wrap64 (x5_2+1)) (l0.length:Int) x11_1 (l0.length:Int) y173)=some (r1,r2):=by first | (rw [hy173];with_reducible exact H) | (have H2_:=(Option.bind_some _ _).symm.trans H;rw [hy173];with_reducible exact H2_) | (have H2_:=(Option.bind_some _ _).symm.trans H;with_reducible exact H2_) | with_reducible exact H | (rw [hy173];exact H) | exact H
             have Ny173:=zz31 hy173
             clear hy173
             have H':=zz31 H
             clear H
             have p171:0≤(x11_1:Int):=zz29 (by first | (with_reducible assumption) | assumption)
             have q171:x11_1 < (l0.length:Int):=zz29 (by first | (with_reducible assumption) | assumption)
             obtain ⟨ad171,A171_0,c171_0,e171,hx171_0,hl171_0,hi171_0⟩:=at_L3 HR0.out x11_1 p171 q171
             cases e171
             try replace hx171_0:=(HB.out.cell (World.block_lt_of_cell? w _ hx171_0)).trans hx171_0
             have HR171_0:=zz31 hi171_0
             have HC171_0:=zz31 hl171_0
             clear hi171_0 hl171_0
             replace p171:=eq_true p171
             replace q171:=eq_true q171
             have p172:0≤(x5_2:Int):=zz29 (by first | (with_reducible assumption) | assumption)
             have q172:x5_2 < ((rd_L3 l0 x11_1).length:Int):=zz29 (by first | (with_reducible assumption) | assumption)
             obtain ⟨ad172,e172,hx172_0⟩:=Kd.at_bool HR171_0.out x5_2 p172 q172
             (try rw [← Nbq12.out] at hx172_0)
             cases e172
             try replace hx172_0:=(HB.out.cell (World.block_lt_of_cell? w _ hx172_0)).trans hx172_0
             replace p172:=eq_true p172
             replace q172:=eq_true q172
             have hnb15:=NB170_169.out
             have hnc15:=NB169_170.out
             have hcz16_0:wr.cell? ⟨gb170,0,none⟩=some (.int .i64 (l0.length:Int)):=(zz9 BK170.out 0).trans rfl
             have hcz16_1:wr.cell? ⟨gb170,1,none⟩=some (u171001):=(zz9 BK170.out 1).trans rfl
             have hfz16_0:=zz10 BK170.out 0
             have hfz16_1:=zz10 BK170.out 1
             go_wp2_with (first | ((with_reducible refine gate_builtin (b:=.append) (xs:=#[.tmp 30,.tmp 34]) rfl ?_);at_builtin;refine Kd.R_append k80 (w0:=w) w.heap.size rfl (.tmp 30) (.tmp 34) 30 80 (.agg #[(.int .i64 0),(.int .i64 0)]) 16 rfl Try.underlying30 info80 rfl (by decide) (by omega) u171001 x171001_2 (⟨x11_1,x5_2⟩:S80) [.int .i64 x11_1,.int .i64 x5_2] (fun _=>True) (fun _=>False) rfl rfl ?aP (fun _ hk=>hk.elim) ?aF ?aO ?aB ?aS ?aL ?_;(case aP=>exact k80_mkM _ _ _ (⟨x11_1,x5_2⟩:S80));(case aB=>exact (by repeat first | exact HB.out | apply zz2 | apply zz0 | apply zz1 | refine zz3 ?_ GE169.out | refine zz3 ?_ GE170.out));(case aF=>exact (fun _ _=>trivial));(case aO=>exact (by (with_reducible repeat (first | apply zz12 | apply zz13 | apply zz14));exact HO_171001.out));(case aS=>exact (zz5 (by repeat first | exact HB.out | apply zz2 | apply zz0 | apply zz1 | refine zz3 ?_ GE169.out | refine zz3 ?_ GE170.out)));(case aL=>have:=LMc14.out;omega);intro v174 w17 ho hb hg hat;rw [← Ny173.out] at ho;have n0_:=zz31 (blk_grown (g:=gb169) (o:=.cells #[.int .i64 0,.slice none 0 0] 32 (0,0)) (by (with_reducible repeat (first | refine zz6 ?_ _ | refine zz7 ?_ | refine zz8 ?_ _));exact BK169.out) hg (Kd.R_ne HO_171001.out BK169.out (by decide)));have n1_:=zz31 (blk_grown (g:=gb170) (o:=.cells #[.int .i64 (l0.length:Int),u171001] 32 (0,0)) (by (with_reducible repeat (first | refine zz6 ?_ _ | refine zz7 ?_ | refine zz8 ?_ _));exact BK170.out) hg (Kd.R_ne HO_171001.out BK170.out (by decide)));have n2_:=zz31 (hb);have n3_:=zz31 (ho);clear BK169;clear BK170;clear HB;clear HO_171001;have BK169:=n0_;have BK170:=n1_;have HB:=n2_;have HO175:=n3_;clear n0_ n1_ n2_ n3_;clear ho hb hg hat;obtain ⟨Ao18,co18,eo18⟩:=Kd.R_slice HO175.out;subst eo18;have hcz19_0:w17.cell? ⟨gb170,0,none⟩=some (.int .i64 (l0.length:Int)):=(zz9 BK170.out 0).trans rfl;have hcz19_1:w17.cell? ⟨gb170,1,none⟩=some (u171001):=(zz9 BK170.out 1).trans rfl;have hfz19_0:=zz10 BK170.out 0;have hfz19_1:=zz10 BK170.out 1))
             go_roundg k2
             case measure=>have:=HK1.out;have:=HK2.out;omega
             case rel=>exact ⟨(wrap64 (x5_2+1)),(y173),(.slice Ao18 y173.length co18),(by first | rfl | (simp;done) | (simp [*];done)),H',⟨by have:=HK1.out;have:=HK2.out;omega⟩,⟨by (with_reducible repeat (first | apply zz12 | apply zz13 | apply zz14));exact Kd.R_mono (Kd.R_far (p:=⟨gb170,1,none⟩) (Kd.R_types HO175.out BK170.out (by decide)) (fun _ hk=>hk.2) (.slice Ao18 y173.length co18)) (fun _ hk=>trivial)⟩,⟨by (with_reducible repeat (first | refine zz6 ?_ _ | refine zz7 ?_ | refine zz8 ?_ _));refine blk_far ?_ NB169_170.out _;(with_reducible repeat (first | refine zz6 ?_ _ | refine zz7 ?_ | refine zz8 ?_ _));exact BK169.out⟩,⟨by (with_reducible repeat (first | refine zz6 ?_ _ | refine zz7 ?_ | refine zz8 ?_ _));refine blk_put (cs:=#[.int .i64 (l0.length:Int),u171001]) ?_ 1 _ rfl;(with_reducible repeat (first | refine zz6 ?_ _ | refine zz7 ?_ | refine zz8 ?_ _));exact BK170.out⟩,⟨by repeat first | exact HB.out | apply zz2 | apply zz0 | apply zz1 | refine zz3 ?_ GE169.out | refine zz3 ?_ GE170.out⟩⟩
            ·rw [if_neg c14] at H
             exact absurd H (by simp)
           ·replace c13:=Bool.eq_false_iff.mpr c13
            subst c13
            have H1:(spec_paOf.l1 k2 l0 x11_1 (wrap64 (x5_2+1)) (l0.length:Int) x11_1 (l0.length:Int) x171001_2)=some (r1,r2):=by rw [if_neg (show ¬ (false=true) by decide)] at H;exact H
            clear H
            have H:=H1
            clear H1
            have H':=zz31 H
            clear H
            have p171:0≤(x11_1:Int):=zz29 (by first | (with_reducible assumption) | assumption)
            have q171:x11_1 < (l0.length:Int):=zz29 (by first | (with_reducible assumption) | assumption)
            obtain ⟨ad171,A171_0,c171_0,e171,hx171_0,hl171_0,hi171_0⟩:=at_L3 HR0.out x11_1 p171 q171
            cases e171
            try replace hx171_0:=(HB.out.cell (World.block_lt_of_cell? w _ hx171_0)).trans hx171_0
            have HR171_0:=zz31 hi171_0
            have HC171_0:=zz31 hl171_0
            clear hi171_0 hl171_0
            replace p171:=eq_true p171
            replace q171:=eq_true q171
            have p172:0≤(x5_2:Int):=zz29 (by first | (with_reducible assumption) | assumption)
            have q172:x5_2 < ((rd_L3 l0 x11_1).length:Int):=zz29 (by first | (with_reducible assumption) | assumption)
            obtain ⟨ad172,e172,hx172_0⟩:=Kd.at_bool HR171_0.out x5_2 p172 q172
            (try rw [← Nbq12.out] at hx172_0)
            cases e172
            try replace hx172_0:=(HB.out.cell (World.block_lt_of_cell? w _ hx172_0)).trans hx172_0
            replace p172:=eq_true p172
            replace q172:=eq_true q172
            go_wp2
            go_roundg k2
            case measure=>have:=HK1.out;have:=HK2.out;omega
            case rel=>exact ⟨(wrap64 (x5_2+1)),(x171001_2),(u171001),(by first | rfl | (simp;done) | (simp [*];done)),H',⟨by have:=HK1.out;have:=HK2.out;omega⟩,⟨by (with_reducible repeat (first | apply zz12 | apply zz13 | apply zz14));exact HO_171001.out⟩,⟨by (with_reducible repeat (first | refine zz6 ?_ _ | refine zz7 ?_ | refine zz8 ?_ _));exact BK169.out⟩,⟨by (with_reducible repeat (first | refine zz6 ?_ _ | refine zz7 ?_ | refine zz8 ?_ _));exact BK170.out⟩,⟨by repeat first | exact HB.out | apply zz2 | apply zz0 | apply zz1 | refine zz3 ?_ GE169.out | refine zz3 ?_ GE170.out⟩⟩
          ·rw [if_neg c11] at H
           exact absurd H (by simp)
         ·rw [if_neg c10] at H
          exact absurd H (by simp)
        ·rw [if_neg c9] at H
         exact absurd H (by simp)
       ·rw [if_neg c8] at H
        exact absurd H (by simp)
      ·rw [if_neg c7] at H
       have c7b0:decide (x5_2 < (l0.length:Int))=false:=decide_eq_false c7
       clear c7
       have H':=zz31 H
       clear H
       go_wp2
       go_roundg k2
       case measure=>have:=HK1.out;have:=HK2.out;omega
       case rel=>exact ⟨(wrap64 (x11_1+1)),(x171001_2),(u171001),(by first | rfl | (simp;done) | (simp [*];done)),H',⟨by have:=HK1.out;have:=HK2.out;omega⟩,⟨by (with_reducible repeat (first | apply zz12 | apply zz13 | apply zz14));exact HO_171001.out⟩,⟨by (with_reducible repeat (first | refine zz6 ?_ _ | refine zz7 ?_ | refine zz8 ?_ _));exact BK169.out⟩,⟨by (with_reducible repeat (first | refine zz6 ?_ _ | refine zz7 ?_ | refine zz8 ?_ _));exact BK170.out⟩,⟨by repeat first | exact HB.out | apply zz2 | apply zz0 | apply zz1 | refine zz3 ?_ GE169.out | refine zz3 ?_ GE170.out⟩⟩
   ·rw [if_neg c6] at H
    have c6b0:decide (x11_1 < (l0.length:Int))=false:=decide_eq_false c6
    clear c6
    simp only [Option.some.injEq,Prod.mk.injEq] at H
    obtain ⟨rfl,rfl⟩:=H
    have hnb20:=NB170_169.out
    have hnc20:=NB169_170.out
    have hcz21_0:wr.cell? ⟨gb170,0,none⟩=some (.int .i64 (l0.length:Int)):=(zz9 BK170.out 0).trans rfl
    have hcz21_1:wr.cell? ⟨gb170,1,none⟩=some (u171001):=(zz9 BK170.out 1).trans rfl
    have hfz21_0:=zz10 BK170.out 0
    have hfz21_1:=zz10 BK170.out 1
    have hcz22_0:wr.cell? ⟨gb169,0,none⟩=some (.int .i64 0):=(zz9 BK169.out 0).trans rfl
    have hcz22_1:wr.cell? ⟨gb169,1,none⟩=some (.slice none 0 0):=(zz9 BK169.out 1).trans rfl
    have hfz22_0:=zz10 BK169.out 0
    have hfz22_1:=zz10 BK169.out 1
    obtain ⟨Ao23,co23,eo23⟩:=Kd.R_slice HO_171001.out
    subst eo23
    go_wp2
    refine bodyPost_ret (results_cell_row rfl _ _ gb169 32 #[.int .i64 (l0.length:Int),.slice Ao23 x171001_1.length co23] (0,0) _ rfl (by (with_reducible repeat (first | refine zz6 ?_ _ | refine zz7 ?_ | refine zz8 ?_ _));refine blk_put (cs:=#[.int .i64 (l0.length:Int),.slice none 0 0]) ?_ 1 _ rfl;(with_reducible repeat (first | refine zz6 ?_ _ | refine zz7 ?_ | refine zz8 ?_ _));refine blk_put (cs:=#[.int .i64 0,.slice none 0 0]) ?_ 0 _ rfl;(with_reducible repeat (first | refine zz6 ?_ _ | refine zz7 ?_ | refine zz8 ?_ _));exact BK169.out) Try.underlying32 rfl (by kernel_rfl)) rfl ?_
    exact ⟨_,by first | rfl | (simp [errW_none,errW_some] <;> rfl) | (simp [*,errW_none,errW_some] <;> rfl),by (with_reducible repeat (first | apply zz12 | apply zz13 | apply zz14));exact Kd.R_mono (Kd.R_far (p:=⟨gb169,1,none⟩) (Kd.R_far (p:=⟨gb169,0,none⟩) (Kd.R_types HO_171001.out BK169.out (by decide)) (fun _ hk=>hk.2) (.int .i64 (l0.length:Int))) (fun _ hk=>hk.2) (.slice Ao23 x171001_1.length co23)) (fun _ hk=>trivial),by repeat first | exact HB.out | apply zz2 | apply zz0 | apply zz1 | refine zz3 ?_ GE169.out | refine zz3 ?_ GE170.out⟩

end Go.Proofs.Ytjipjcdeoajnjaa.P
