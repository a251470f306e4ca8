-- PRINTED by print.py (a twelfth state) out of the translation. Not trusted: Lean checks it.
import Derived.Test.YtjipjcdeoajnjaaPx0
import Derived.Test.YtjipjcdeoajnjaaPx17
namespace Go.Proofs.Ytjipjcdeoajnjaa.P
open Go.RowKit Go.Proofs.YtjipjcdeoajnjaaW.PrintWords Go.Proofs.YtjipjcdeoajnjaaW.PrintLast Go.Proofs.YtjipjcdeoajnjaaW.PrintMore
attribute [local go_sem] max2_int min2_int max_two min_two max_three min_three max_four min_four   -- for this text's walks alone
set_option linter.unusedVariables false
set_option linter.unusedSimpArgs false

/-! ### spec_l1Least: function 96 -/
def spec_l1Least.f (a0:Int) (a1:Int):Option (Int):=if a0 < a1 then (some a0) else (some a1)
set_option maxHeartbeats 8000000 in
set_option maxRecDepth 100000 in
theorem spec_l1Least.calls (a0:Int) (a1:Int) (r:Int) (w:World) (h:spec_l1Least.f a0 a1=some r) :
  Calls Try.prog 96 #[.int .i64 a0,.int .i64 a1] w fun e w'=>e=.returned (.int .i64 r)∧Drawn0 w w':=by
 have H:(if a0 < a1 then (some a0) else (some a1))=some r:=h
 clear h
 by_cases c3:a0 < a1
 ·rw [if_pos c3] at H
  have c3b0:decide (a0 < a1)=true:=decide_eq_true c3
  clear c3
  obtain rfl:=Option.some.inj H
  go_enter Try.func96,Try.ntmps96
  go_wp2
  go_ret
  exact ⟨by first | rfl | (simp;done) | (simp [*];done),by repeat (first | exact Drawn0.refl _ | apply Drawn0.step)⟩
 ·rw [if_neg c3] at H
  have c3b0:decide (a0 < a1)=false:=decide_eq_false c3
  clear c3
  obtain rfl:=Option.some.inj H
  go_enter Try.func96,Try.ntmps96
  go_wp2
  go_ret
  exact ⟨by first | rfl | (simp;done) | (simp [*];done),by repeat (first | exact Drawn0.refl _ | apply Drawn0.step)⟩

/-! ### spec_deFails: function 72 -/
mutual
def spec_deFails.l0:Nat→List Int→Int→Int→Option (Int)
 | 0,_,_,_=>none
 | k+1,x3,x4,x5=>if x5≤(x3.length:Int) then (if 0≤(wrap64 (x5 - 1)) then (if (wrap64 (x5 - 1)) < (x3.length:Int) then (if 0≤x5 then ((some (x3.drop (x5:Int).toNat:List Int)).bind fun y310=>(spec_deFails.l1 k x3 (wrap64 (x4+(rd x3 (wrap64 (x5 - 1))))) x5 (wrap64 (x5 * (wrap64 (x5 - 1)))) y310 (y310.length:Int) 0)) else (none)) else (none)) else (none)) else (some 0)
def spec_deFails.l1:Nat→List Int→Int→Int→Int→List Int→Int→Int→Option (Int)
 | 0,_,_,_,_,_,_,_=>none
 | k+1,x3,x4,x5,x6,x30,x31,x32=>if x32 < x31 then (if 0≤x32 then (if x32 < (x30.length:Int) then ((spec_l1Least.f x5 (rd x30 x32)).bind fun t315=>(spec_deFails.l1 k x3 x4 x5 (wrap64 (x6+t315)) x30 x31 (wrap64 (x32+1)))) else (none)) else (none)) else (if x4 > x6 then (some x5) else (spec_deFails.l0 k x3 x4 (wrap64 (x5+1))))
end
def spec_deFails.f (k:Nat) (l0:List Int):Option (Int):=(spec_deSorted.f k l0).bind fun t306=>(spec_deFails.l0 k t306 0 1)
theorem spec_deFails.mono_l:∀ k,(∀ y0 y1 y2,LeO (spec_deFails.l0 k y0 y1 y2) (spec_deFails.l0 (k+1) y0 y1 y2))∧(∀ y0 y1 y2 y3 y4 y5 y6,LeO (spec_deFails.l1 k y0 y1 y2 y3 y4 y5 y6) (spec_deFails.l1 (k+1) y0 y1 y2 y3 y4 y5 y6))
 | 0=>⟨fun _ _ _ r h=>by simp [spec_deFails.l0] at h,fun _ _ _ _ _ _ _ r h=>by simp [spec_deFails.l1] at h⟩
 | k+1=>by
  obtain ⟨ih0,ih1⟩:=spec_deFails.mono_l k
  refine ⟨?_,?_⟩
  ·intro y0 y1 y2
   unfold spec_deFails.l0
   repeat' first
   | (with_reducible exact ih0 _ _ _)
   | (with_reducible exact ih1 _ _ _ _ _ _ _)
   | (with_reducible exact spec_deSorted.mono _ _)
   | (with_reducible exact LeO.refl _)
   | (with_reducible exact LeO.none _)
   | (with_reducible refine LeO.ite ?_ ?_)
   | (with_reducible refine LeO.bind ?_ (fun _=>?_))
   | exact ih0 _ _ _
   | exact ih1 _ _ _ _ _ _ _
   | exact spec_deSorted.mono _ _
   | exact LeO.none _
   | refine LeO.ite ?_ ?_
   | refine LeO.bind ?_ (fun _=>?_)
  ·intro y0 y1 y2 y3 y4 y5 y6
   unfold spec_deFails.l1
   repeat' first
   | (with_reducible exact ih0 _ _ _)
   | (with_reducible exact ih1 _ _ _ _ _ _ _)
   | (with_reducible exact spec_deSorted.mono _ _)
   | (with_reducible exact LeO.refl _)
   | (with_reducible exact LeO.none _)
   | (with_reducible refine LeO.ite ?_ ?_)
   | (with_reducible refine LeO.bind ?_ (fun _=>?_))
   | exact ih0 _ _ _
   | exact ih1 _ _ _ _ _ _ _
   | exact spec_deSorted.mono _ _
   | exact LeO.none _
   | refine LeO.ite ?_ ?_
   | refine LeO.bind ?_ (fun _=>?_)
theorem spec_deFails.mono:∀ a0 k,LeO (spec_deFails.f k a0) (spec_deFails.f (k+1) a0):=by
 intro a0 k
 obtain ⟨ih0,ih1⟩:=spec_deFails.mono_l k
 unfold spec_deFails.f
 repeat' first
   | (with_reducible exact ih0 _ _ _)
   | (with_reducible exact ih1 _ _ _ _ _ _ _)
   | (with_reducible exact spec_deSorted.mono _ _)
   | (with_reducible exact LeO.refl _)
   | (with_reducible exact LeO.none _)
   | (with_reducible refine LeO.ite ?_ ?_)
   | (with_reducible refine LeO.bind ?_ (fun _=>?_))
   | exact ih0 _ _ _
   | exact ih1 _ _ _ _ _ _ _
   | exact spec_deSorted.mono _ _
   | exact LeO.none _
   | refine LeO.ite ?_ ?_
   | refine LeO.bind ?_ (fun _=>?_)
set_option maxHeartbeats 8000000 in
set_option maxRecDepth 100000 in
theorem spec_deFails.calls (k:Nat) (A0:Option Addr) (c0:Nat) (l0:List Int) (r:Int) (w:World) (hr0:Kd.C (Kd.int .i64) w A0 l0.length l0) (hc0:l0.length≤c0) (h:spec_deFails.f k l0=some r) :
  Calls Try.prog 72 #[.slice A0 l0.length c0] w fun e w'=>e=.returned (.int .i64 r)∧Below w.heap.size w w':=by
 have HR0:=zz31 hr0
 have HC0:=zz31 hc0
 clear hr0 hc0
 have HB:=zz31 (Below.refl w.heap.size w)
 have H:((spec_deSorted.f k l0).bind fun t306=>(spec_deFails.l0 k t306 0 1))=some r:=h
 clear h
 replace H:=zz30.mp H
 obtain ⟨t306,A20,H⟩:=H
 replace H:(spec_deFails.l0 k t306 0 1)=some r:=H
 have A2:=zz31 A20
 clear A20
 have H':=zz31 H
 clear H
 go_enter Try.func72,Try.ntmps72
 go_wp2_with (first | ((with_reducible refine gate_callee (f:=70) rfl ?_);refine goesL_ (some 10) rfl rfl Try.func70 (by kernel_rfl) rfl #[.slice A0 l0.length c0] rfl (by (try simp only [zz26,zz27,zz28]);first | done | rfl | (simp only [zz24,zz25];rfl)) ?_;(with_reducible refine (spec_deSorted.calls k _ _ l0 t306 _ ?side1 ?side2 A2.out).mono ?_);(case side1=>repeat (first | exact HR0.out | (with_reducible refine zz18 ?_ _) | (with_reducible refine zz19 ?_ _) | (with_reducible refine zz20 ?_)));(case side2=>exact HC0.out);rintro e w3 ⟨v307,rfl,ho0,hb⟩;refine ⟨_,rfl,?_⟩;have n0_:=zz31 (Kd.R_lower ho0 (zz5 (by repeat first | exact HB.out | apply zz2 | apply zz0 | apply zz1)));have n1_:=zz31 (zz4 (by repeat first | exact HB.out | apply zz2 | apply zz0 | apply zz1) hb);clear HB;have HO308:=n0_;have HB:=n1_;clear n0_ n1_;(try clear hb);(try clear hb2);(try clear hk);(try clear hi);(try clear ho0)))
 go_loopg [4,5] k (fun kq v4 v5 w'=>∃ (x4_1:Int) (x5_1:Int),v4=.int .i64 x4_1∧v5=.int .i64 x5_1∧Aside0 (spec_deFails.l0 kq t306 x4_1 x5_1=some r)∧Aside0 (kq≤k)∧Aside0 (Kd.R (Kd.int .i64) 3 w' w.heap.size (fun _=>True) v307 t306)∧Aside0 (Below w.heap.size w w'))
 case atStart=>exact ⟨(0),(1),(by first | rfl | (simp;done) | (simp [*];done)),(by first | rfl | (simp;done) | (simp [*];done)),H',⟨Nat.le_refl _⟩,⟨by (with_reducible repeat (first | apply zz12 | apply zz13 | apply zz14));exact HO308.out⟩,⟨by repeat first | exact HB.out | apply zz2 | apply zz0 | apply zz1⟩⟩
 case round =>
  clear H'
  try clear p2
  obtain ⟨x4_1,x5_1,rfl,rfl,HA,HK1,HO_3,HB⟩:=hrel
  cases gk with
  | zero=>exact absurd HA.out (by simp [spec_deFails.l0])
  | succ k1 =>
   have H:=HA.out
   clear HA
   simp only [spec_deFails.l0] at H
   by_cases c4:x5_1≤(t306.length:Int)
   ·rw [if_pos c4] at H
    have c4b0:decide (x5_1≤(t306.length:Int))=true:=decide_eq_true c4
    clear c4
    obtain ⟨ji5,hji5⟩:∃ j_:Int,(wrap64 (x5_1 - 1))=j_:=⟨_,rfl⟩
    replace H:(if 0≤(ji5) then (if (ji5) < (t306.length:Int) then (if 0≤x5_1 then ((some (t306.drop (x5_1:Int).toNat:List Int)).bind fun y310=>(spec_deFails.l1 k1 t306 (wrap64 (x4_1+(rd t306 (ji5)))) x5_1 (wrap64 (x5_1 * (ji5))) y310 (y310.length:Int) 0)) else (none)) else (none)) else (none))=some r:=by first | (rw [hji5] at H;exact H) | (simp only [hji5] at H ⊢;exact H)
    have hji5w:(IntKind.i64.wrap (x5_1 - 1))=ji5:=(i64_w _).trans hji5
    by_cases c6:0≤(ji5)
    ·rw [if_pos c6] at H
     have c6b0:decide (0≤(ji5))=true:=decide_eq_true c6
     clear c6
     by_cases c7:(ji5) < (t306.length:Int)
     ·rw [if_pos c7] at H
      have c7b0:decide ((ji5) < (t306.length:Int))=true:=decide_eq_true c7
      clear c7
      by_cases c8:0≤x5_1
      ·rw [if_pos c8] at H
       have c8b0:=eq_true c8
       have c8b1:decide (0≤x5_1)=true:=decide_eq_true c8
       clear c8
       have c9b0:=eq_true (zz29 (by first | (with_reducible assumption) | assumption):x5_1≤(t306.length:Int))
       obtain ⟨y310,hy310⟩:∃ y_:List Int,y_=(t306.drop (x5_1:Int).toNat):=⟨_,rfl⟩
       replace H:(spec_deFails.l1 k1 t306 (wrap64 (x4_1+(rd t306 (ji5)))) x5_1 (wrap64 (x5_1 * (ji5))) y310 (y310.length:Int) 0)=some r:=by first | (rw [hy310];with_reducible exact H) | (have H2_:=(Option.bind_some _ _).symm.trans H;rw [hy310];with_reducible exact H2_) | (have H2_:=(Option.bind_some _ _).symm.trans H;with_reducible exact H2_) | with_reducible exact H | (rw [hy310];exact H) | exact H
       have Ny310:=zz31 hy310
       clear hy310
       have H':=zz31 H
       clear H
       obtain ⟨Ao10,co10,eo10⟩:=Kd.R_slice HO_3.out
       subst eo10
       have p309:0≤((ji5):Int):=zz29 (by first | (with_reducible assumption) | assumption)
       have q309:(ji5) < (t306.length:Int):=zz29 (by first | (with_reducible assumption) | assumption)
       obtain ⟨ad309,e309,hx309_0⟩:=Kd.at_int (Kd.R_reads' HO_3.out).2.2 (ji5) p309 q309
       cases e309
       replace p309:=eq_true p309
       replace q309:=eq_true q309
       have q11:(x5_1:Int)≤((t306.length:Int):Int):=zz29 (by first | (with_reducible assumption) | assumption)
       obtain ⟨i011,hi011,_,hsz11,_⟩:=info_parts info3
       have hroom11:t306.length≤co10:=(Kd.R_reads' HO_3.out).2.1
       have hC11:Kd.C (Kd.int .i64) _ (some ad309) t306.length t306:=(Kd.R_reads' HO_3.out).2.2
       have q011:(0:Int)≤(x5_1:Int):=zz29 (by first | (with_reducible assumption) | assumption)
       have hcut11:=cut_from (P:=Try.prog) 22 3 .i64 Try.underlying22 hi011 1 hsz11 (some ad309) t306.length co10 x5_1 q011 q11
       have hr11:=Kd.C_drop (m:=(x5_1:Int).toNat) (c:=co10) hC11 (by omega) hroom11
       obtain ⟨A11,hA11⟩:∃ A1,A1=(if co10=(x5_1:Int).toNat then (some ad309) else ((some ad309):Option Addr).map (·.add ((x5_1:Int).toNat * 1))):=⟨_,rfl⟩
       obtain ⟨c11,hc11⟩:∃ c1,c1=co10 - (x5_1:Int).toNat:=⟨_,rfl⟩
       have hy11:y310.length=t306.length - (x5_1:Int).toNat:=(by rw [Ny310.out,zz24] <;> omega)
       rw [show (t306).drop (x5_1:Int).toNat=y310 from Ny310.out.symm] at hr11
       replace hr11:Kd.C (Kd.int .i64) _ A11 y310.length y310:=(by rw [hA11];exact hr11)
       rw [← hy11,← hA11,← hc11] at hcut11
       have HR313:=zz31 hr11
       have HC313:=zz31 (show y310.length≤c11 from by rw [hy11,hc11];exact Nat.sub_le_sub_right hroom11 _)
       clear hr11 hC11 hroom11 hi011 hsz11 hc11
       have KY11:=zz31 hy11
       have KA11:=zz31 hA11
       clear hy11 hA11
       have KL11:=zz31 (show (x5_1:Int).toNat≤t306.length from by omega)
       replace q11:=eq_true q11
       go_wp2
       go_loopg [6,32] k1 (fun kq v6 v32 w'=>∃ (x6_2:Int) (x32_2:Int),v6=.int .i64 x6_2∧v32=.int .i64 x32_2∧Aside0 (spec_deFails.l1 kq t306 (wrap64 (x4_1+(rd t306 (ji5)))) x5_1 x6_2 y310 (y310.length:Int) x32_2=some r)∧Aside0 (kq≤k1)∧Aside0 (Kd.R (Kd.int .i64) 3 w' w.heap.size (fun _=>True) (.slice (some ad309) t306.length co10) t306)∧Aside0 (Kd.C (Kd.int .i64) w' A11 y310.length y310)∧Aside0 (Below w.heap.size w w'))
       case atStart=>exact ⟨(wrap64 (x5_1 * (ji5))),(0),(by first | rfl | (simp;done) | (simp only [← hji5] <;> (first | rfl | simp)) | (simp [*];done)),(by first | rfl | (simp;done) | (simp [*];done)),H',⟨Nat.le_refl _⟩,⟨by (with_reducible repeat (first | apply zz12 | apply zz13 | apply zz14));exact HO_3.out⟩,⟨by repeat (first | (with_reducible exact HR313.out) | (with_reducible refine zz18 ?_ _) | (with_reducible refine zz19 ?_ _) | (with_reducible refine zz20 ?_) | exact HR313.out)⟩,⟨by repeat first | exact HB.out | apply zz2 | apply zz0 | apply zz1⟩⟩
       case round =>
        clear H'
        try clear c1
        try clear q1
        try clear p2
        try clear p3
        try clear q3
        try clear hx3
        try clear c4
        try clear c4b0
        try clear c6
        try clear c6b0
        try clear p6
        try clear c7
        try clear c7b0
        try clear c8
        try clear c8b0
        try clear c8b1
        try clear c9
        try clear c9b0
        try clear c11
        try clear q11
        try clear hx309_0
        try clear p2
        try clear p309
        try clear q011
        try clear q11
        try clear q309
        obtain ⟨x6_2,x32_2,rfl,rfl,HA,HK2,HO_3,HR313,HB⟩:=hrel
        cases gk with
        | zero=>exact absurd HA.out (by simp [spec_deFails.l1])
        | succ k2 =>
         have H:=HA.out
         clear HA
         simp only [spec_deFails.l1] at H
         by_cases c12:x32_2 < (y310.length:Int)
         ·rw [if_pos c12] at H
          have c12b0:decide (x32_2 < (y310.length:Int))=true:=decide_eq_true c12
          clear c12
          by_cases c13:0≤x32_2
          ·rw [if_pos c13] at H
           have c13b0:decide (0≤x32_2)=true:=decide_eq_true c13
           clear c13
           by_cases c14:x32_2 < (y310.length:Int)
           ·rw [if_pos c14] at H
            have c14b0:decide (x32_2 < (y310.length:Int))=true:=decide_eq_true c14
            clear c14
            replace H:=zz30.mp H
            obtain ⟨t315,A150,H⟩:=H
            replace H:(spec_deFails.l1 k2 t306 (wrap64 (x4_1+(rd t306 (ji5)))) x5_1 (wrap64 (x6_2+t315)) y310 (y310.length:Int) (wrap64 (x32_2+1)))=some r:=H
            have A15:=zz31 A150
            clear A150
            have H':=zz31 H
            clear H
            have p314:0≤(x32_2:Int):=zz29 (by first | (with_reducible assumption) | assumption)
            have q314:x32_2 < (y310.length:Int):=zz29 (by first | (with_reducible assumption) | assumption)
            obtain ⟨ad314,e314,hx314_0⟩:=Kd.at_int HR313.out x32_2 p314 q314
            cases e314
            try replace hx314_0:=(HB.out.cell (World.block_lt_of_cell? w _ hx314_0)).trans hx314_0
            replace p314:=eq_true p314
            replace q314:=eq_true q314
            go_wp2_with (first | ((with_reducible refine gate_callee (f:=96) rfl ?_);refine goesL_ (some 39) rfl rfl Try.func96 (by kernel_rfl) rfl #[.int .i64 x5_1,.int .i64 (rd y310 x32_2)] rfl (by (try simp only [zz26,zz27,zz28]);first | done | rfl | (simp only [zz24,zz25];rfl)) ?_;(with_reducible refine (spec_l1Least.calls x5_1 (rd y310 x32_2) t315 _ A15.out).mono ?_);rintro e w' ⟨rfl,⟨nd,rfl⟩⟩;refine ⟨_,rfl,?_⟩))
            go_roundg k2
            case measure=>have:=HK1.out;have:=HK2.out;omega
            case rel=>exact ⟨(wrap64 (x6_2+t315)),(wrap64 (x32_2+1)),(by first | rfl | (simp;done) | (simp [*];done)),(by first | rfl | (simp;done) | (simp [*];done)),H',⟨by have:=HK1.out;have:=HK2.out;omega⟩,⟨by (with_reducible repeat (first | apply zz12 | apply zz13 | apply zz14));exact HO_3.out⟩,⟨by repeat (first | (with_reducible exact HR313.out) | (with_reducible refine zz18 ?_ _) | (with_reducible refine zz19 ?_ _) | (with_reducible refine zz20 ?_) | exact HR313.out)⟩,⟨by repeat first | exact HB.out | apply zz2 | apply zz0 | apply zz1⟩⟩
           ·rw [if_neg c14] at H
            exact absurd H (by simp)
          ·rw [if_neg c13] at H
           exact absurd H (by simp)
         ·rw [if_neg c12] at H
          have c12b0:decide (x32_2 < (y310.length:Int))=false:=decide_eq_false c12
          clear c12
          by_cases c16:(wrap64 (x4_1+(rd t306 (ji5)))) > x6_2
          ·rw [if_pos c16] at H
           have c16b0:decide (x6_2 < (wrap64 (x4_1+(rd t306 (ji5)))))=true:=decide_eq_true c16
           clear c16
           obtain rfl:=Option.some.inj H
           go_wp2
           go_ret
           exact ⟨by first | rfl | (simp [errW_none,errW_some] <;> rfl) | (simp only [← hji5];first | rfl | (simp [errW_none,errW_some] <;> rfl)) | (simp [*,errW_none,errW_some] <;> rfl),by repeat first | exact HB.out | apply zz2 | apply zz0 | apply zz1⟩
          ·rw [if_neg c16] at H
           have c16b0:decide (x6_2 < (wrap64 (x4_1+(rd t306 (ji5)))))=false:=decide_eq_false c16
           clear c16
           have H':=zz31 H
           clear H
           go_wp2
           go_roundg k2
           case measure=>have:=HK1.out;have:=HK2.out;omega
           case rel=>exact ⟨((wrap64 (x4_1+(rd t306 (ji5))))),(wrap64 (x5_1+1)),(by first | rfl | (simp;done) | (simp only [← hji5] <;> (first | rfl | simp)) | (simp [*];done)),(by first | rfl | (simp;done) | (simp [*];done)),H',⟨by have:=HK1.out;have:=HK2.out;omega⟩,⟨by (with_reducible repeat (first | apply zz12 | apply zz13 | apply zz14));exact HO_3.out⟩,⟨by repeat first | exact HB.out | apply zz2 | apply zz0 | apply zz1⟩⟩
      ·rw [if_neg c8] at H
       exact absurd H (by simp)
     ·rw [if_neg c7] at H
      exact absurd H (by simp)
    ·rw [if_neg c6] at H
     exact absurd H (by simp)
   ·rw [if_neg c4] at H
    have c4b0:decide (x5_1≤(t306.length:Int))=false:=decide_eq_false c4
    clear c4
    obtain rfl:=Option.some.inj H
    obtain ⟨Ao17,co17,eo17⟩:=Kd.R_slice HO_3.out
    subst eo17
    go_wp2
    go_ret
    exact ⟨by first | rfl | (simp [errW_none,errW_some] <;> rfl) | (simp [*,errW_none,errW_some] <;> rfl),by repeat first | exact HB.out | apply zz2 | apply zz0 | apply zz1⟩

end Go.Proofs.Ytjipjcdeoajnjaa.P
