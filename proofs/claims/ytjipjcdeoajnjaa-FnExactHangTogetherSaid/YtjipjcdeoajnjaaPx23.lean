-- PRINTED by print.py (a twelfth state) out of the translation. Not trusted: Lean checks it.
import Derived.Test.YtjipjcdeoajnjaaPx0
import Derived.Test.YtjipjcdeoajnjaaPx16
import Derived.Test.YtjipjcdeoajnjaaPx19
namespace Go.Proofs.Ytjipjcdeoajnjaa.P
open Go.RowKit Go.Proofs.YtjipjcdeoajnjaaW.PrintWords Go.Proofs.YtjipjcdeoajnjaaW.PrintLast Go.Proofs.YtjipjcdeoajnjaaW.PrintMore
attribute [local go_sem] max2_int min2_int max_two min_two max_three min_three max_four min_four   -- for this text's walks alone
set_option linter.unusedVariables false
set_option linter.unusedSimpArgs false

/-! ### impl_failsAt: function 73 -/
mutual
def impl_failsAt.l0:Nat→List Int→Int→Option (Int)
 | 0,_,_=>none
 | k+1,x3,x4=>if x4≤(x3.length:Int) then (if 0≤x4 then ((some (x3.drop (x4:Int).toNat:List Int)).bind fun y322=>(impl_failsAt.l1 k x3 x4 (wrap64 (x4 * (wrap64 (x4 - 1)))) y322 (y322.length:Int) 0)) else (none)) else (some 0)
def impl_failsAt.l1:Nat→List Int→Int→Int→List Int→Int→Int→Option (Int)
 | 0,_,_,_,_,_,_=>none
 | k+1,x3,x4,x5,x22,x23,x24=>if x24 < x23 then (if 0≤x24 then (if x24 < (x22.length:Int) then (impl_failsAt.l1 k x3 x4 (wrap64 (x5+(mn x4 (rd x22 x24)))) x22 x23 (wrap64 (x24+1))) else (none)) else (none)) else (if 0≤x4 then (if x4≤(x3.length:Int) then ((impl_sum.f k (x3.take (x4:Int).toNat)).bind fun t331=>(if t331 > x5 then (some x4) else (impl_failsAt.l0 k x3 (wrap64 (x4+1))))) else (none)) else (none))
end
def impl_failsAt.f (k:Nat) (l0:List Int):Option (Int):=(impl_falling.f k l0).bind fun t319=>(impl_failsAt.l0 k t319 1)
theorem impl_failsAt.mono_l:∀ k,(∀ y0 y1,LeO (impl_failsAt.l0 k y0 y1) (impl_failsAt.l0 (k+1) y0 y1))∧(∀ y0 y1 y2 y3 y4 y5,LeO (impl_failsAt.l1 k y0 y1 y2 y3 y4 y5) (impl_failsAt.l1 (k+1) y0 y1 y2 y3 y4 y5))
 | 0=>⟨fun _ _ r h=>by simp [impl_failsAt.l0] at h,fun _ _ _ _ _ _ r h=>by simp [impl_failsAt.l1] at h⟩
 | k+1=>by
  obtain ⟨ih0,ih1⟩:=impl_failsAt.mono_l k
  refine ⟨?_,?_⟩
  ·intro y0 y1
   unfold impl_failsAt.l0
   repeat' first
   | (with_reducible exact ih0 _ _)
   | (with_reducible exact ih1 _ _ _ _ _ _)
   | (with_reducible exact impl_falling.mono _ _)
   | (with_reducible exact impl_sum.mono _ _)
   | (with_reducible exact LeO.refl _)
   | (with_reducible exact LeO.none _)
   | (with_reducible refine LeO.ite ?_ ?_)
   | (with_reducible refine LeO.bind ?_ (fun _=>?_))
   | exact ih0 _ _
   | exact ih1 _ _ _ _ _ _
   | exact impl_falling.mono _ _
   | exact impl_sum.mono _ _
   | exact LeO.none _
   | refine LeO.ite ?_ ?_
   | refine LeO.bind ?_ (fun _=>?_)
  ·intro y0 y1 y2 y3 y4 y5
   unfold impl_failsAt.l1
   repeat' first
   | (with_reducible exact ih0 _ _)
   | (with_reducible exact ih1 _ _ _ _ _ _)
   | (with_reducible exact impl_falling.mono _ _)
   | (with_reducible exact impl_sum.mono _ _)
   | (with_reducible exact LeO.refl _)
   | (with_reducible exact LeO.none _)
   | (with_reducible refine LeO.ite ?_ ?_)
   | (with_reducible refine LeO.bind ?_ (fun _=>?_))
   | exact ih0 _ _
   | exact ih1 _ _ _ _ _ _
   | exact impl_falling.mono _ _
   | exact impl_sum.mono _ _
   | exact LeO.none _
   | refine LeO.ite ?_ ?_
   | refine LeO.bind ?_ (fun _=>?_)
theorem impl_failsAt.mono:∀ a0 k,LeO (impl_failsAt.f k a0) (impl_failsAt.f (k+1) a0):=by
 intro a0 k
 obtain ⟨ih0,ih1⟩:=impl_failsAt.mono_l k
 unfold impl_failsAt.f
 repeat' first
   | (with_reducible exact ih0 _ _)
   | (with_reducible exact ih1 _ _ _ _ _ _)
   | (with_reducible exact impl_falling.mono _ _)
   | (with_reducible exact impl_sum.mono _ _)
   | (with_reducible exact LeO.refl _)
   | (with_reducible exact LeO.none _)
   | (with_reducible refine LeO.ite ?_ ?_)
   | (with_reducible refine LeO.bind ?_ (fun _=>?_))
   | exact ih0 _ _
   | exact ih1 _ _ _ _ _ _
   | exact impl_falling.mono _ _
   | exact impl_sum.mono _ _
   | exact LeO.none _
   | refine LeO.ite ?_ ?_
   | refine LeO.bind ?_ (fun _=>?_)
set_option maxHeartbeats 8000000 in
set_option maxRecDepth 100000 in
theorem impl_failsAt.calls (k:Nat) (A0:Option Addr) (c0:Nat) (l0:List Int) (r:Int) (w:World) (hr0:Kd.C (Kd.int .i64) w A0 l0.length l0) (hc0:l0.length≤c0) (h:impl_failsAt.f k l0=some r) :
  Calls Try.prog 73 #[.slice A0 l0.length c0] w fun e w'=>e=.returned (.int .i64 r)∧Below w.heap.size w w':=by
 have HR0:=zz31 hr0
 have HC0:=zz31 hc0
 clear hr0 hc0
 have HB:=zz31 (Below.refl w.heap.size w)
 have H:((impl_falling.f k l0).bind fun t319=>(impl_failsAt.l0 k t319 1))=some r:=h
 clear h
 replace H:=zz30.mp H
 obtain ⟨t319,A20,H⟩:=H
 replace H:(impl_failsAt.l0 k t319 1)=some r:=H
 have A2:=zz31 A20
 clear A20
 have H':=zz31 H
 clear H
 go_enter Try.func73,Try.ntmps73
 go_wp2_with (first | ((with_reducible refine gate_callee (f:=71) rfl ?_);refine goesL_ (some 9) rfl rfl Try.func71 (by kernel_rfl) rfl #[.slice A0 l0.length c0] rfl (by (try simp only [zz26,zz27,zz28]);first | done | rfl | (simp only [zz24,zz25];rfl)) ?_;(with_reducible refine (impl_falling.calls k _ _ l0 t319 _ ?side1 ?side2 A2.out).mono ?_);(case side1=>repeat (first | exact HR0.out | (with_reducible refine zz18 ?_ _) | (with_reducible refine zz19 ?_ _) | (with_reducible refine zz20 ?_)));(case side2=>exact HC0.out);rintro e w3 ⟨v320,rfl,ho0,hb⟩;refine ⟨_,rfl,?_⟩;have n0_:=zz31 (Kd.R_lower ho0 (zz5 (by repeat first | exact HB.out | apply zz2 | apply zz0 | apply zz1)));have n1_:=zz31 (zz4 (by repeat first | exact HB.out | apply zz2 | apply zz0 | apply zz1) hb);clear HB;have HO321:=n0_;have HB:=n1_;clear n0_ n1_;(try clear hb);(try clear hb2);(try clear hk);(try clear hi);(try clear ho0)))
 go_loopg [4] k (fun kq v4 w'=>∃ (x4_1:Int),v4=.int .i64 x4_1∧Aside0 (impl_failsAt.l0 kq t319 x4_1=some r)∧Aside0 (kq≤k)∧Aside0 (Kd.R (Kd.int .i64) 3 w' w.heap.size (fun _=>True) v320 t319)∧Aside0 (Below w.heap.size w w'))
 case atStart=>exact ⟨(1),(by first | rfl | (simp;done) | (simp [*];done)),H',⟨Nat.le_refl _⟩,⟨by (with_reducible repeat (first | apply zz12 | apply zz13 | apply zz14));exact HO321.out⟩,⟨by repeat first | exact HB.out | apply zz2 | apply zz0 | apply zz1⟩⟩
 case round =>
  clear H'
  try clear p2
  obtain ⟨x4_1,rfl,HA,HK1,HO_3,HB⟩:=hrel
  cases gk with
  | zero=>exact absurd HA.out (by simp [impl_failsAt.l0])
  | succ k1 =>
   have H:=HA.out
   clear HA
   simp only [impl_failsAt.l0] at H
   by_cases c4:x4_1≤(t319.length:Int)
   ·rw [if_pos c4] at H
    have c4b0:decide (x4_1≤(t319.length:Int))=true:=decide_eq_true c4
    clear c4
    by_cases c5:0≤x4_1
    ·rw [if_pos c5] at H
     have c5b0:=eq_true c5
     have c5b1:decide (0≤x4_1)=true:=decide_eq_true c5
     clear c5
     have c6b0:=eq_true (zz29 (by first | (with_reducible assumption) | assumption):x4_1≤(t319.length:Int))
     obtain ⟨y322,hy322⟩:∃ y_:List Int,y_=(t319.drop (x4_1:Int).toNat):=⟨_,rfl⟩
     replace H:(impl_failsAt.l1 k1 t319 x4_1 (wrap64 (x4_1 * (wrap64 (x4_1 - 1)))) y322 (y322.length:Int) 0)=some r:=by first | (rw [hy322];with_reducible exact H) | (have H2_:=(Option.bind_some _ _).symm.trans H;rw [hy322];with_reducible exact H2_) | (have H2_:=(Option.bind_some _ _).symm.trans H;with_reducible exact H2_) | with_reducible exact H | (rw [hy322];exact H) | exact H
     have Ny322:=zz31 hy322
     clear hy322
     have H':=zz31 H
     clear H
     obtain ⟨Ao7,co7,eo7⟩:=Kd.R_slice HO_3.out
     subst eo7
     have q8:(x4_1:Int)≤((t319.length:Int):Int):=zz29 (by first | (with_reducible assumption) | assumption)
     obtain ⟨i08,hi08,_,hsz8,_⟩:=info_parts info3
     have hroom8:t319.length≤co7:=(Kd.R_reads' HO_3.out).2.1
     have hC8:Kd.C (Kd.int .i64) _ Ao7 t319.length t319:=(Kd.R_reads' HO_3.out).2.2
     have q08:(0:Int)≤(x4_1:Int):=zz29 (by first | (with_reducible assumption) | assumption)
     have hcut8:=cut_from (P:=Try.prog) 22 3 .i64 Try.underlying22 hi08 1 hsz8 Ao7 t319.length co7 x4_1 q08 q8
     have hr8:=Kd.C_drop (m:=(x4_1:Int).toNat) (c:=co7) hC8 (by omega) hroom8
     obtain ⟨A8,hA8⟩:∃ A1,A1=(if co7=(x4_1:Int).toNat then Ao7 else (Ao7:Option Addr).map (·.add ((x4_1:Int).toNat * 1))):=⟨_,rfl⟩
     obtain ⟨c8,hc8⟩:∃ c1,c1=co7 - (x4_1:Int).toNat:=⟨_,rfl⟩
     have hy8:y322.length=t319.length - (x4_1:Int).toNat:=(by rw [Ny322.out,zz24] <;> omega)
     rw [show (t319).drop (x4_1:Int).toNat=y322 from Ny322.out.symm] at hr8
     replace hr8:Kd.C (Kd.int .i64) _ A8 y322.length y322:=(by rw [hA8];exact hr8)
     rw [← hy8,← hA8,← hc8] at hcut8
     have HR325:=zz31 hr8
     have HC325:=zz31 (show y322.length≤c8 from by rw [hy8,hc8];exact Nat.sub_le_sub_right hroom8 _)
     clear hr8 hC8 hroom8 hi08 hsz8 hc8
     have KY8:=zz31 hy8
     have KA8:=zz31 hA8
     clear hy8 hA8
     have KL8:=zz31 (show (x4_1:Int).toNat≤t319.length from by omega)
     replace q8:=eq_true q8
     go_wp2
     go_loopg [5,24] k1 (fun kq v5 v24 w'=>∃ (x5_2:Int) (x24_2:Int),v5=.int .i64 x5_2∧v24=.int .i64 x24_2∧Aside0 (impl_failsAt.l1 kq t319 x4_1 x5_2 y322 (y322.length:Int) x24_2=some r)∧Aside0 (kq≤k1)∧Aside0 (Kd.R (Kd.int .i64) 3 w' w.heap.size (fun _=>True) (.slice Ao7 t319.length co7) t319)∧Aside0 (Kd.C (Kd.int .i64) w' A8 y322.length y322)∧Aside0 (Below w.heap.size w w'))
     case atStart=>exact ⟨(wrap64 (x4_1 * (wrap64 (x4_1 - 1)))),(0),(by first | rfl | (simp;done) | (simp [*];done)),(by first | rfl | (simp;done) | (simp [*];done)),H',⟨Nat.le_refl _⟩,⟨by (with_reducible repeat (first | apply zz12 | apply zz13 | apply zz14));exact HO_3.out⟩,⟨by repeat (first | (with_reducible exact HR325.out) | (with_reducible refine zz18 ?_ _) | (with_reducible refine zz19 ?_ _) | (with_reducible refine zz20 ?_) | exact HR325.out)⟩,⟨by repeat first | exact HB.out | apply zz2 | apply zz0 | apply zz1⟩⟩
     case round =>
      clear H'
      try clear c1
      try clear p2
      try clear c4
      try clear c4b0
      try clear c5
      try clear c5b0
      try clear c5b1
      try clear c6
      try clear c6b0
      try clear p6
      try clear c7
      try clear c8
      try clear q8
      try clear p2
      try clear q08
      try clear q8
      obtain ⟨x5_2,x24_2,rfl,rfl,HA,HK2,HO_3,HR325,HB⟩:=hrel
      cases gk with
      | zero=>exact absurd HA.out (by simp [impl_failsAt.l1])
      | succ k2 =>
       have H:=HA.out
       clear HA
       simp only [impl_failsAt.l1] at H
       by_cases c9:x24_2 < (y322.length:Int)
       ·rw [if_pos c9] at H
        have c9b0:decide (x24_2 < (y322.length:Int))=true:=decide_eq_true c9
        clear c9
        by_cases c10:0≤x24_2
        ·rw [if_pos c10] at H
         have c10b0:decide (0≤x24_2)=true:=decide_eq_true c10
         clear c10
         by_cases c11:x24_2 < (y322.length:Int)
         ·rw [if_pos c11] at H
          have c11b0:decide (x24_2 < (y322.length:Int))=true:=decide_eq_true c11
          clear c11
          obtain ⟨ji12,hji12⟩:∃ j_:Int,(mn x4_1 (rd y322 x24_2))=j_:=⟨_,rfl⟩
          replace H:(impl_failsAt.l1 k2 t319 x4_1 (wrap64 (x5_2+(ji12))) y322 (y322.length:Int) (wrap64 (x24_2+1)))=some r:=by first | (rw [hji12] at H;exact H) | (simp only [hji12] at H ⊢;exact H)
          have hji12_:(if (rd y322 x24_2) < x4_1 then (rd y322 x24_2) else x4_1)=ji12:=hji12
          have H':=zz31 H
          clear H
          have p326:0≤(x24_2:Int):=zz29 (by first | (with_reducible assumption) | assumption)
          have q326:x24_2 < (y322.length:Int):=zz29 (by first | (with_reducible assumption) | assumption)
          obtain ⟨ad326,e326,hx326_0⟩:=Kd.at_int HR325.out x24_2 p326 q326
          cases e326
          try replace hx326_0:=(HB.out.cell (World.block_lt_of_cell? w _ hx326_0)).trans hx326_0
          replace p326:=eq_true p326
          replace q326:=eq_true q326
          go_wp2
          go_roundg k2
          case measure=>have:=HK1.out;have:=HK2.out;omega
          case rel=>exact ⟨(wrap64 (x5_2+(ji12))),(wrap64 (x24_2+1)),(by first | rfl | (simp;done) | (simp only [← hji12] <;> (first | rfl | simp)) | (simp [*];done)),(by first | rfl | (simp;done) | (simp [*];done)),H',⟨by have:=HK1.out;have:=HK2.out;omega⟩,⟨by (with_reducible repeat (first | apply zz12 | apply zz13 | apply zz14));exact HO_3.out⟩,⟨by repeat (first | (with_reducible exact HR325.out) | (with_reducible refine zz18 ?_ _) | (with_reducible refine zz19 ?_ _) | (with_reducible refine zz20 ?_) | exact HR325.out)⟩,⟨by repeat first | exact HB.out | apply zz2 | apply zz0 | apply zz1⟩⟩
         ·rw [if_neg c11] at H
          exact absurd H (by simp)
        ·rw [if_neg c10] at H
         exact absurd H (by simp)
       ·rw [if_neg c9] at H
        have c9b0:decide (x24_2 < (y322.length:Int))=false:=decide_eq_false c9
        clear c9
        by_cases c13:0≤x4_1
        ·rw [if_pos c13] at H
         have c13b0:=eq_true c13
         have c13b1:decide (0≤x4_1)=true:=decide_eq_true c13
         clear c13
         by_cases c14:x4_1≤(t319.length:Int)
         ·rw [if_pos c14] at H
          have c14b0:=eq_true c14
          have c14b1:decide (x4_1≤(t319.length:Int))=true:=decide_eq_true c14
          clear c14
          obtain ⟨y327,hy327⟩:∃ y_:List Int,y_=(t319.take (x4_1:Int).toNat):=⟨_,rfl⟩
          replace H:((impl_sum.f k2 y327).bind fun t331=>(if t331 > x5_2 then (some x4_1) else (impl_failsAt.l0 k2 t319 (wrap64 (x4_1+1)))))=some r:=by first | (rw [hy327];with_reducible exact H) | (have H2_:=(Option.bind_some _ _).symm.trans H;rw [hy327];with_reducible exact H2_) | (have H2_:=(Option.bind_some _ _).symm.trans H;with_reducible exact H2_) | with_reducible exact H | (rw [hy327];exact H) | exact H
          have Ny327:=zz31 hy327
          clear hy327
          replace H:=zz30.mp H
          obtain ⟨t331,A150,H⟩:=H
          replace H:(if t331 > x5_2 then (some x4_1) else (impl_failsAt.l0 k2 t319 (wrap64 (x4_1+1))))=some r:=H
          have A15:=zz31 A150
          clear A150
          by_cases c16:t331 > x5_2
          ·rw [if_pos c16] at H
           have c16b0:decide (x5_2 < t331)=true:=decide_eq_true c16
           clear c16
           obtain rfl:=Option.some.inj H
           have q17:(x4_1:Int)≤((t319.length:Int):Int):=zz29 (by first | (with_reducible assumption) | assumption)
           obtain ⟨i017,hi017,_,hsz17,_⟩:=info_parts info3
           have hroom17:t319.length≤co7:=(Kd.R_reads' HO_3.out).2.1
           have hC17:Kd.C (Kd.int .i64) _ Ao7 t319.length t319:=(Kd.R_reads' HO_3.out).2.2
           have hcut17:=cut_to (P:=Try.prog) 22 3 .i64 Try.underlying22 hi017 Ao7 t319.length co7 x4_1 (zz29 (by first | (with_reducible assumption) | assumption)) q17 hroom17
           have hr17:=Kd.C_take (m:=(x4_1:Int).toNat) hC17 (by omega)
           have hy17:y327.length=(x4_1:Int).toNat:=(by rw [Ny327.out,zz25];omega)
           rw [← Ny327.out] at hr17
           rw [← hy17] at hcut17
           have HR330:=zz31 hr17
           have HC330:=zz31 (show y327.length≤co7 from by omega)
           clear hr17 hC17 hroom17 hi017 hsz17
           have KY17:=zz31 hy17
           clear hy17
           have KL17:=zz31 (show (x4_1:Int).toNat≤t319.length from by omega)
           replace q17:=eq_true q17
           go_wp2_with (first | ((with_reducible refine gate_callee (f:=64) rfl ?_);refine goesL_ (some 37) rfl rfl Try.func64 (by kernel_rfl) rfl #[.slice Ao7 y327.length co7] rfl (by (try simp only [zz26,zz27,zz28]);first | done | rfl | (simp only [zz24,zz25];rfl)) ?_;(with_reducible refine (impl_sum.calls k2 _ _ y327 t331 _ ?side1 ?side2 A15.out).mono ?_);(case side1=>repeat (first | exact (by repeat (first | (with_reducible exact HR330.out) | (with_reducible refine zz18 ?_ _) | (with_reducible refine zz19 ?_ _) | (with_reducible refine zz20 ?_) | exact HR330.out)) | (with_reducible refine zz18 ?_ _) | (with_reducible refine zz19 ?_ _) | (with_reducible refine zz20 ?_)));(case side2=>exact HC330.out);rintro e w' ⟨rfl,⟨nd,rfl⟩⟩;refine ⟨_,rfl,?_⟩))
           go_ret
           exact ⟨by first | rfl | (simp [errW_none,errW_some] <;> rfl) | (simp [*,errW_none,errW_some] <;> rfl),by repeat first | exact HB.out | apply zz2 | apply zz0 | apply zz1⟩
          ·rw [if_neg c16] at H
           have c16b0:decide (x5_2 < t331)=false:=decide_eq_false c16
           clear c16
           have H':=zz31 H
           clear H
           have q18:(x4_1:Int)≤((t319.length:Int):Int):=zz29 (by first | (with_reducible assumption) | assumption)
           obtain ⟨i018,hi018,_,hsz18,_⟩:=info_parts info3
           have hroom18:t319.length≤co7:=(Kd.R_reads' HO_3.out).2.1
           have hC18:Kd.C (Kd.int .i64) _ Ao7 t319.length t319:=(Kd.R_reads' HO_3.out).2.2
           have hcut18:=cut_to (P:=Try.prog) 22 3 .i64 Try.underlying22 hi018 Ao7 t319.length co7 x4_1 (zz29 (by first | (with_reducible assumption) | assumption)) q18 hroom18
           have hr18:=Kd.C_take (m:=(x4_1:Int).toNat) hC18 (by omega)
           have hy18:y327.length=(x4_1:Int).toNat:=(by rw [Ny327.out,zz25];omega)
           rw [← Ny327.out] at hr18
           rw [← hy18] at hcut18
           have HR330:=zz31 hr18
           have HC330:=zz31 (show y327.length≤co7 from by omega)
           clear hr18 hC18 hroom18 hi018 hsz18
           have KY18:=zz31 hy18
           clear hy18
           have KL18:=zz31 (show (x4_1:Int).toNat≤t319.length from by omega)
           replace q18:=eq_true q18
           go_wp2_with (first | ((with_reducible refine gate_callee (f:=64) rfl ?_);refine goesL_ (some 37) rfl rfl Try.func64 (by kernel_rfl) rfl #[.slice Ao7 y327.length co7] rfl (by (try simp only [zz26,zz27,zz28]);first | done | rfl | (simp only [zz24,zz25];rfl)) ?_;(with_reducible refine (impl_sum.calls k2 _ _ y327 t331 _ ?side1 ?side2 A15.out).mono ?_);(case side1=>repeat (first | exact (by repeat (first | (with_reducible exact HR330.out) | (with_reducible refine zz18 ?_ _) | (with_reducible refine zz19 ?_ _) | (with_reducible refine zz20 ?_) | exact HR330.out)) | (with_reducible refine zz18 ?_ _) | (with_reducible refine zz19 ?_ _) | (with_reducible refine zz20 ?_)));(case side2=>exact HC330.out);rintro e w' ⟨rfl,⟨nd,rfl⟩⟩;refine ⟨_,rfl,?_⟩))
           go_roundg k2
           case measure=>have:=HK1.out;have:=HK2.out;omega
           case rel=>exact ⟨(wrap64 (x4_1+1)),(by first | rfl | (simp;done) | (simp [*];done)),H',⟨by have:=HK1.out;have:=HK2.out;omega⟩,⟨by (with_reducible repeat (first | apply zz12 | apply zz13 | apply zz14));exact HO_3.out⟩,⟨by repeat first | exact HB.out | apply zz2 | apply zz0 | apply zz1⟩⟩
         ·rw [if_neg c14] at H
          exact absurd H (by simp)
        ·rw [if_neg c13] at H
         exact absurd H (by simp)
    ·rw [if_neg c5] at H
     exact absurd H (by simp)
   ·rw [if_neg c4] at H
    have c4b0:decide (x4_1≤(t319.length:Int))=false:=decide_eq_false c4
    clear c4
    obtain rfl:=Option.some.inj H
    obtain ⟨Ao19,co19,eo19⟩:=Kd.R_slice HO_3.out
    subst eo19
    go_wp2
    go_ret
    exact ⟨by first | rfl | (simp [errW_none,errW_some] <;> rfl) | (simp [*,errW_none,errW_some] <;> rfl),by repeat first | exact HB.out | apply zz2 | apply zz0 | apply zz1⟩

end Go.Proofs.Ytjipjcdeoajnjaa.P
