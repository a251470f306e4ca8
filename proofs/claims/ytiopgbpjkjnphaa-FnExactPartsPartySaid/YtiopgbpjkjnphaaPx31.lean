-- PRINTED by print.py (a twelfth state) out of the translation. Not trusted: Lean checks it.
import Derived.Test.YtiopgbpjkjnphaaPx0
import Derived.Test.YtiopgbpjkjnphaaPx2
import Derived.Test.YtiopgbpjkjnphaaPx6
import Derived.Test.YtiopgbpjkjnphaaPx11
import Derived.Test.YtiopgbpjkjnphaaPx12
import Derived.Test.YtiopgbpjkjnphaaPx13
import Derived.Test.YtiopgbpjkjnphaaPx17
import Derived.Test.YtiopgbpjkjnphaaPx21
import Derived.Test.YtiopgbpjkjnphaaPx23
import Derived.Test.YtiopgbpjkjnphaaPx28
namespace Go.Proofs.Ytiopgbpjkjnphaa.P
open Go.RowKit Go.Proofs.YtiopgbpjkjnphaaW.PrintWords Go.Proofs.YtiopgbpjkjnphaaW.PrintLast Go.Proofs.YtiopgbpjkjnphaaW.PrintMore
attribute [local go_sem] max2_int min2_int max_two min_two max_three min_three max_four min_four   -- for this text's walks alone
set_option linter.unusedVariables false
set_option linter.unusedSimpArgs false

/-! ### spec_PartsParty: function 46 -/
mutual
def spec_PartsParty.j0:Nat→List Int→Bool→Option (Int × (List (S61)) × Bool)
 | 0,_,_=>none
 | k+1,x0,x15=>if x15=true then (some (0,([]:List (S61)),false)) else (spec_PartsParty.l0 k x0 0 x0 (x0.length:Int) 0)
def spec_PartsParty.l0:Nat→List Int→Int→List Int→Int→Int→Option (Int × (List (S61)) × Bool)
 | 0,_,_,_,_,_=>none
 | k+1,x0,x4,x17,x18,x19=>if x19 < x18 then (if 0≤x19 then (if x19 < (x17.length:Int) then (spec_PartsParty.l0 k x0 (wrap64 (x4+(rd x17 x19))) x17 x18 (wrap64 (x19+1))) else (none)) else (none)) else (if x4 > 12 then (some (0,([]:List (S61)),false)) else ((spec_grParts.f k x0).bind fun bt760=>(some (bt760.1,bt760.2,true))))
end
def spec_PartsParty.f (k:Nat) (l0:List Int):Option (Int × (List (S61)) × Bool):=(spec_l1In.f (l0.length:Int) 1 12).bind fun t757=>(if t757=true then ((spec_l1All.f k l0 1 12).bind fun t758=>(spec_PartsParty.j0 k l0 (!t758))) else (spec_PartsParty.j0 k l0 true))
theorem spec_PartsParty.mono_l:∀ k,(∀ y0 y1,LeO (spec_PartsParty.j0 k y0 y1) (spec_PartsParty.j0 (k+1) y0 y1))∧(∀ y0 y1 y2 y3 y4,LeO (spec_PartsParty.l0 k y0 y1 y2 y3 y4) (spec_PartsParty.l0 (k+1) y0 y1 y2 y3 y4))
 | 0=>⟨fun _ _ r h=>by simp [spec_PartsParty.j0] at h,fun _ _ _ _ _ r h=>by simp [spec_PartsParty.l0] at h⟩
 | k+1=>by
  obtain ⟨ih0,ih1⟩:=spec_PartsParty.mono_l k
  refine ⟨?_,?_⟩
  ·intro y0 y1
   unfold spec_PartsParty.j0
   repeat' first
   | (with_reducible exact ih0 _ _)
   | (with_reducible exact ih1 _ _ _ _ _)
   | (with_reducible exact spec_grParts.mono _ _)
   | (with_reducible exact spec_l1All.mono _ _ _ _)
   | (with_reducible exact LeO.refl _)
   | (with_reducible exact LeO.none _)
   | (with_reducible refine LeO.ite ?_ ?_)
   | (with_reducible refine LeO.bind ?_ (fun _=>?_))
   | exact ih0 _ _
   | exact ih1 _ _ _ _ _
   | exact spec_grParts.mono _ _
   | exact spec_l1All.mono _ _ _ _
   | exact LeO.none _
   | refine LeO.ite ?_ ?_
   | refine LeO.bind ?_ (fun _=>?_)
  ·intro y0 y1 y2 y3 y4
   unfold spec_PartsParty.l0
   repeat' first
   | (with_reducible exact ih0 _ _)
   | (with_reducible exact ih1 _ _ _ _ _)
   | (with_reducible exact spec_grParts.mono _ _)
   | (with_reducible exact spec_l1All.mono _ _ _ _)
   | (with_reducible exact LeO.refl _)
   | (with_reducible exact LeO.none _)
   | (with_reducible refine LeO.ite ?_ ?_)
   | (with_reducible refine LeO.bind ?_ (fun _=>?_))
   | exact ih0 _ _
   | exact ih1 _ _ _ _ _
   | exact spec_grParts.mono _ _
   | exact spec_l1All.mono _ _ _ _
   | exact LeO.none _
   | refine LeO.ite ?_ ?_
   | refine LeO.bind ?_ (fun _=>?_)
theorem spec_PartsParty.mono:∀ a0 k,LeO (spec_PartsParty.f k a0) (spec_PartsParty.f (k+1) a0):=by
 intro a0 k
 obtain ⟨ih0,ih1⟩:=spec_PartsParty.mono_l k
 unfold spec_PartsParty.f
 repeat' first
   | (with_reducible exact ih0 _ _)
   | (with_reducible exact ih1 _ _ _ _ _)
   | (with_reducible exact spec_grParts.mono _ _)
   | (with_reducible exact spec_l1All.mono _ _ _ _)
   | (with_reducible exact LeO.refl _)
   | (with_reducible exact LeO.none _)
   | (with_reducible refine LeO.ite ?_ ?_)
   | (with_reducible refine LeO.bind ?_ (fun _=>?_))
   | exact ih0 _ _
   | exact ih1 _ _ _ _ _
   | exact spec_grParts.mono _ _
   | exact spec_l1All.mono _ _ _ _
   | exact LeO.none _
   | refine LeO.ite ?_ ?_
   | refine LeO.bind ?_ (fun _=>?_)
set_option maxHeartbeats 8000000 in
set_option maxRecDepth 100000 in
theorem spec_PartsParty.calls (k:Nat) (A0:Option Addr) (c0:Nat) (l0:List Int) (r1:Int) (r2:List (S61)) (r3:Bool) (w:World) (hr0:Kd.C (Kd.int .i64) w A0 l0.length l0) (hc0:l0.length≤c0) (h:spec_PartsParty.f k l0=some (r1,r2,r3)) :
  Calls Try.prog 46 #[.slice A0 l0.length c0] w fun e w'=>∃ v1_:Value,e=.returned (.tuple #[.agg #[.int .i64 r1,v1_],.bool r3])∧Kd.R k61 61 w' w.heap.size (fun _=>True) v1_ r2∧Below w.heap.size w w':=by
 have hu29:=Try.underlying29
 have HR0:=Aside0.mk hr0
 have HC0:=Aside0.mk hc0
 clear hr0 hc0
 have HB:=Aside0.mk (Below.refl w.heap.size w)
 have H:((spec_l1In.f (l0.length:Int) 1 12).bind fun t757=>(if t757=true then ((spec_l1All.f k l0 1 12).bind fun t758=>(spec_PartsParty.j0 k l0 (!t758))) else (spec_PartsParty.j0 k l0 true)))=some (r1,r2,r3):=h
 clear h
 have HC2:=Aside0.mk H
 clear H
 go_enter Try.func46,Try.ntmps46
 go_upto_region 1 with (first | ((with_reducible refine gate_dst (N:=2) rfl ?_);refine box_event ?hg (N:=2) ?hd (cs:=#[.int .i64 0,.slice none 0 0]) (t:=29) ?hr ?_;(case hd=>rfl);(case hg=>rfl);(case hr=>first | (go_simp;done) | (go_simp;rfl));intro gb756 hg w3 hbox hb;have n0_:=Aside0.mk (zz4 (by repeat first | exact HB.out | apply zz2 | apply zz0 | apply zz1) hb);have n1_:=Aside0.mk (hbox);have n2_:=Aside0.mk ((by rw [hg];exact (zz5 (by repeat first | exact HB.out | apply zz2 | apply zz0 | apply zz1)):w.heap.size≤gb756));have n3_:=Aside0.mk ((by rw [hg];exact (zz5 (by repeat first | exact HB.out | apply zz2 | apply zz0 | apply zz1)):w.heap.size≤gb756));clear HB;have HB:=n0_;have BK756:=n1_;have GW756:=n2_;have GE756:=n3_;clear n0_ n1_ n2_ n3_;clear hb hbox hg))
 (try simp only [Act.put,zz21,zz22,zz23])
 go_cut [15] (fun v15 wc=>∃ (kq:Nat) (x15_1:Bool),v15=.bool x15_1∧Aside0 (spec_PartsParty.j0 kq l0 x15_1=some (r1,r2,r3))∧Aside0 (kq≤k)∧Aside0 (wc.heap[gb756]?=some (.cells #[.int .i64 0,(.slice none 0 0)] 29 (0,0)))∧Aside0 (Below w.heap.size w wc))
 case first =>
  have H:=HC2.out
  clear HC2
  replace H:=zz30.mp H
  obtain ⟨t757,A40,H⟩:=H
  replace H:(if t757=true then ((spec_l1All.f k l0 1 12).bind fun t758=>(spec_PartsParty.j0 k l0 (!t758))) else (spec_PartsParty.j0 k l0 true))=some (r1,r2,r3):=H
  have A4:=Aside0.mk A40
  clear A40
  by_cases c5:t757=true
  ·subst c5
   have H1:((spec_l1All.f k l0 1 12).bind fun t758=>(spec_PartsParty.j0 k l0 (!t758)))=some (r1,r2,r3):=by rw [if_pos rfl] at H;exact H
   clear H
   have H:=H1
   clear H1
   replace H:=zz30.mp H
   obtain ⟨t758,A60,H⟩:=H
   replace H:(spec_PartsParty.j0 k l0 (!t758))=some (r1,r2,r3):=H
   have A6:=Aside0.mk A60
   clear A60
   have H':=Aside0.mk H
   clear H
   go_wp2_with (first | ((with_reducible refine gate_callee (f:=60) rfl ?_);refine goesL_ (some 9) rfl rfl Try.func60 (by kernel_rfl) rfl #[.int .i64 (l0.length:Int),.int .i64 1,.int .i64 12] rfl (by (try simp only [zz26,zz27,zz28]);first | done | rfl | (simp only [zz24,zz25];rfl) | (simp only [zz25];congr;(try simp only [decide_eq_true_eq] at *);omega)) ?_;(with_reducible refine (spec_l1In.calls (l0.length:Int) 1 12 true _ A4.out).mono ?_);rintro e w' ⟨rfl,⟨nd,rfl⟩⟩;refine ⟨_,rfl,?_⟩) | (go_at_call 81;(with_reducible refine (spec_l1All.calls k _ _ l0 1 12 t758 _ ?side1 ?side2 A6.out).mono ?_);(case side1=>repeat (first | exact (Kd.C_below HR0.out (by repeat first | exact HB.out | apply zz2 | apply zz0 | apply zz1 | refine zz3 ?_ GE756.out)) | (with_reducible refine zz18 ?_ _) | (with_reducible refine zz19 ?_ _) | (with_reducible refine zz20 ?_)));(case side2=>exact HC0.out);rintro e w' ⟨rfl,⟨nd,rfl⟩⟩))
   go_meet
   case rel=>exact ⟨_,(!t758),(by first | rfl | (simp;done) | (simp [*];done)),H',⟨by first | omega | exact Nat.le_refl _⟩,⟨by (with_reducible repeat (first | refine zz6 ?_ _ | refine zz7 ?_ | refine zz8 ?_ _));exact BK756.out⟩,⟨by repeat first | exact HB.out | apply zz2 | apply zz0 | apply zz1 | refine zz3 ?_ GE756.out⟩⟩
  ·replace c5:=Bool.eq_false_iff.mpr c5
   subst c5
   have H1:(spec_PartsParty.j0 k l0 true)=some (r1,r2,r3):=by rw [if_neg (show ¬ (false=true) by decide)] at H;exact H
   clear H
   have H:=H1
   clear H1
   have H':=Aside0.mk H
   clear H
   go_wp2_with (first | ((with_reducible refine gate_callee (f:=60) rfl ?_);refine goesL_ (some 9) rfl rfl Try.func60 (by kernel_rfl) rfl #[.int .i64 (l0.length:Int),.int .i64 1,.int .i64 12] rfl (by (try simp only [zz26,zz27,zz28]);first | done | rfl | (simp only [zz24,zz25];rfl) | (simp only [zz25];congr;(try simp only [decide_eq_true_eq] at *);omega)) ?_;(with_reducible refine (spec_l1In.calls (l0.length:Int) 1 12 false _ A4.out).mono ?_);rintro e w' ⟨rfl,⟨nd,rfl⟩⟩;refine ⟨_,rfl,?_⟩))
   go_meet
   case rel=>exact ⟨_,(true),(by first | rfl | (simp;done) | (simp [*];done)),H',⟨by first | omega | exact Nat.le_refl _⟩,⟨by (with_reducible repeat (first | refine zz6 ?_ _ | refine zz7 ?_ | refine zz8 ?_ _));exact BK756.out⟩,⟨by repeat first | exact HB.out | apply zz2 | apply zz0 | apply zz1 | refine zz3 ?_ GE756.out⟩⟩
 case rest =>
  clear HC2
  try clear p2
  try clear c4
  try clear c5
  try clear c6
  obtain ⟨kq,x15_1,rfl,HA,HJ1,BK756,HB⟩:=hcut
  cases kq with
  | zero=>exact absurd HA.out (by simp [spec_PartsParty.j0])
  | succ kj1 =>
   have H:=HA.out
   clear HA
   simp only [spec_PartsParty.j0] at H
   by_cases c7:x15_1=true
   ·subst c7
    have H1:(some (0,([]:List (S61)),false))=some (r1,r2,r3):=by rw [if_pos rfl] at H;exact H
    clear H
    have H:=H1
    clear H1
    simp only [Option.some.injEq,Prod.mk.injEq] at H
    obtain ⟨rfl,rfl,rfl⟩:=H
    have hcz8_0:wc.cell? ⟨gb756,0,none⟩=some (.int .i64 0):=(zz9 BK756.out 0).trans rfl
    have hcz8_1:wc.cell? ⟨gb756,1,none⟩=some (.slice none 0 0):=(zz9 BK756.out 1).trans rfl
    have hfz8_0:=zz10 BK756.out 0
    have hfz8_1:=zz10 BK756.out 1
    go_wp2
    refine bodyPost_ret (results_ct rfl _ _ gb756 29 #[.int .i64 0,.slice none 0 0] (0,0) _ rfl (by (with_reducible repeat (first | refine zz6 ?_ _ | refine zz7 ?_ | refine zz8 ?_ _));refine blk_put (cs:=#[.int .i64 0,.slice none 0 0]) ?_ 1 _ rfl;(with_reducible repeat (first | refine zz6 ?_ _ | refine zz7 ?_ | refine zz8 ?_ _));refine blk_put (cs:=#[.int .i64 0,.slice none 0 0]) ?_ 0 _ rfl;(with_reducible repeat (first | refine zz6 ?_ _ | refine zz7 ?_ | refine zz8 ?_ _));exact BK756.out) Try.underlying29 rfl (by kernel_rfl)) rfl ?_
    exact ⟨_,by first | rfl | (simp [errW_none,errW_some] <;> rfl) | (simp [*,errW_none,errW_some] <;> rfl),by first | exact Kd.R_nil _ _ _ _ _ | exact Kd.N_nil _ _ _ _ _ | exact Kd.V_nil _ _ _ _ _ | exact Kd.Q_nil _ _ _ _ _ | exact Kd.S_nil _ _ _ _ _,by repeat first | exact HB.out | apply zz2 | apply zz0 | apply zz1 | refine zz3 ?_ GE756.out⟩
   ·replace c7:=Bool.eq_false_iff.mpr c7
    subst c7
    have H1:(spec_PartsParty.l0 kj1 l0 0 l0 (l0.length:Int) 0)=some (r1,r2,r3):=by rw [if_neg (show ¬ (false=true) by decide)] at H;exact H
    clear H
    have H:=H1
    clear H1
    have H':=Aside0.mk H
    clear H
    go_wp2
    go_loopg [4,19] kj1 (fun kq v4 v19 w'=>∃ (x4_2:Int) (x19_2:Int),v4=.int .i64 x4_2∧v19=.int .i64 x19_2∧Aside0 (spec_PartsParty.l0 kq l0 x4_2 l0 (l0.length:Int) x19_2=some (r1,r2,r3))∧Aside0 (kq≤kj1)∧Aside0 (w'.heap[gb756]?=some (.cells #[.int .i64 0,(.slice none 0 0)] 29 (0,0)))∧Aside0 (Below w.heap.size w w'))
    case atStart=>exact ⟨(0),(0),(by first | rfl | (simp;done) | (simp [*];done)),(by first | rfl | (simp;done) | (simp [*];done)),H',⟨Nat.le_refl _⟩,⟨by (with_reducible repeat (first | refine zz6 ?_ _ | refine zz7 ?_ | refine zz8 ?_ _));exact BK756.out⟩,⟨by repeat first | exact HB.out | apply zz2 | apply zz0 | apply zz1 | refine zz3 ?_ GE756.out⟩⟩
    case round =>
     clear H'
     try clear p2
     try clear c4
     try clear c5
     try clear c6
     try clear c7
     try clear hcz8_0
     try clear hcz8_1
     try clear hfz8_0
     try clear hfz8_1
     try clear p2
     obtain ⟨x4_2,x19_2,rfl,rfl,HA,HK2,BK756,HB⟩:=hrel
     cases gk with
     | zero=>exact absurd HA.out (by simp [spec_PartsParty.l0])
     | succ k2 =>
      have H:=HA.out
      clear HA
      simp only [spec_PartsParty.l0] at H
      by_cases c9:x19_2 < (l0.length:Int)
      ·rw [if_pos c9] at H
       have c9b0:decide (x19_2 < (l0.length:Int))=true:=decide_eq_true c9
       clear c9
       by_cases c10:0≤x19_2
       ·rw [if_pos c10] at H
        have c10b0:decide (0≤x19_2)=true:=decide_eq_true c10
        clear c10
        by_cases c11:x19_2 < (l0.length:Int)
        ·rw [if_pos c11] at H
         have c11b0:decide (x19_2 < (l0.length:Int))=true:=decide_eq_true c11
         clear c11
         have H':=Aside0.mk H
         clear H
         have p759:0≤(x19_2:Int):=zz29 (by first | (with_reducible assumption) | assumption)
         have q759:x19_2 < (l0.length:Int):=zz29 (by first | (with_reducible assumption) | assumption)
         obtain ⟨ad759,e759,hx759_0⟩:=Kd.at_int HR0.out x19_2 p759 q759
         cases e759
         replace hx759_0:=(HB.out.cell (World.block_lt_of_cell? w _ hx759_0)).trans hx759_0
         replace p759:=eq_true p759
         replace q759:=eq_true q759
         go_wp2
         go_roundg k2
         case measure=>have:=HJ1.out;have:=HK2.out;omega
         case rel=>exact ⟨(wrap64 (x4_2+(rd l0 x19_2))),(wrap64 (x19_2+1)),(by first | rfl | (simp;done) | (simp [*];done)),(by first | rfl | (simp;done) | (simp [*];done)),H',⟨by have:=HJ1.out;have:=HK2.out;omega⟩,⟨by (with_reducible repeat (first | refine zz6 ?_ _ | refine zz7 ?_ | refine zz8 ?_ _));exact BK756.out⟩,⟨by repeat first | exact HB.out | apply zz2 | apply zz0 | apply zz1 | refine zz3 ?_ GE756.out⟩⟩
        ·rw [if_neg c11] at H
         exact absurd H (by simp)
       ·rw [if_neg c10] at H
        exact absurd H (by simp)
      ·rw [if_neg c9] at H
       have c9b0:decide (x19_2 < (l0.length:Int))=false:=decide_eq_false c9
       clear c9
       by_cases c12:x4_2 > 12
       ·rw [if_pos c12] at H
        have c12b0:decide (12 < x4_2)=true:=decide_eq_true c12
        clear c12
        simp only [Option.some.injEq,Prod.mk.injEq] at H
        obtain ⟨rfl,rfl,rfl⟩:=H
        have hcz13_0:wr.cell? ⟨gb756,0,none⟩=some (.int .i64 0):=(zz9 BK756.out 0).trans rfl
        have hcz13_1:wr.cell? ⟨gb756,1,none⟩=some (.slice none 0 0):=(zz9 BK756.out 1).trans rfl
        have hfz13_0:=zz10 BK756.out 0
        have hfz13_1:=zz10 BK756.out 1
        go_wp2
        refine bodyPost_ret (results_ct rfl _ _ gb756 29 #[.int .i64 0,.slice none 0 0] (0,0) _ rfl (by (with_reducible repeat (first | refine zz6 ?_ _ | refine zz7 ?_ | refine zz8 ?_ _));refine blk_put (cs:=#[.int .i64 0,.slice none 0 0]) ?_ 1 _ rfl;(with_reducible repeat (first | refine zz6 ?_ _ | refine zz7 ?_ | refine zz8 ?_ _));refine blk_put (cs:=#[.int .i64 0,.slice none 0 0]) ?_ 0 _ rfl;(with_reducible repeat (first | refine zz6 ?_ _ | refine zz7 ?_ | refine zz8 ?_ _));exact BK756.out) Try.underlying29 rfl (by kernel_rfl)) rfl ?_
        exact ⟨_,by first | rfl | (simp [errW_none,errW_some] <;> rfl) | (simp [*,errW_none,errW_some] <;> rfl),by first | exact Kd.R_nil _ _ _ _ _ | exact Kd.N_nil _ _ _ _ _ | exact Kd.V_nil _ _ _ _ _ | exact Kd.Q_nil _ _ _ _ _ | exact Kd.S_nil _ _ _ _ _,by repeat first | exact HB.out | apply zz2 | apply zz0 | apply zz1 | refine zz3 ?_ GE756.out⟩
       ·rw [if_neg c12] at H
        have c12b0:decide (12 < x4_2)=false:=decide_eq_false c12
        clear c12
        replace H:=zz30.mp H
        obtain ⟨⟨t760,t761⟩,A140,H⟩:=H
        replace H:(some (t760,t761,true))=some (r1,r2,r3):=H
        have A14:=Aside0.mk A140
        clear A140
        simp only [Option.some.injEq,Prod.mk.injEq] at H
        obtain ⟨rfl,rfl,rfl⟩:=H
        go_wp2_with (first | ((with_reducible refine gate_callee (f:=61) rfl ?_);refine goesL_ (some 31) rfl rfl Try.func61 (by kernel_rfl) rfl #[.slice A0 l0.length c0] rfl (by (try simp only [zz26,zz27,zz28]);first | done | rfl | (simp only [zz24,zz25];rfl) | (simp only [zz25];congr;(try simp only [decide_eq_true_eq] at *);omega)) ?_;(with_reducible refine (spec_grParts.calls k2 _ _ l0 t760 t761 _ ?side1 ?side2 A14.out).mono ?_);(case side1=>repeat (first | exact (Kd.C_below HR0.out HB.out) | (with_reducible refine zz18 ?_ _) | (with_reducible refine zz19 ?_ _) | (with_reducible refine zz20 ?_)));(case side2=>exact HC0.out);rintro e w15 ⟨v762,rfl,ho0,hb⟩;refine ⟨_,rfl,?_⟩;have n0_:=Aside0.mk (Kd.R_lower ho0 (zz5 (by repeat first | exact HB.out | apply zz2 | apply zz0 | apply zz1 | refine zz3 ?_ GE756.out)));have n1_:=Aside0.mk (zz11 (g:=gb756) (o:=.cells #[.int .i64 0,.slice none 0 0] 29 (0,0)) (by (with_reducible repeat (first | refine zz6 ?_ _ | refine zz7 ?_ | refine zz8 ?_ _));exact BK756.out) hb);have n2_:=Aside0.mk (zz4 (by repeat first | exact HB.out | apply zz2 | apply zz0 | apply zz1 | refine zz3 ?_ GE756.out) hb);clear BK756;clear HB;have HO763:=n0_;have BK756:=n1_;have HB:=n2_;clear n0_ n1_ n2_;(try clear hb);(try clear hb2);(try clear hk);(try clear hi);(try clear ho0);have hcz16_0:w15.cell? ⟨gb756,0,none⟩=some (.int .i64 0):=(zz9 BK756.out 0).trans rfl;have hcz16_1:w15.cell? ⟨gb756,1,none⟩=some (.slice none 0 0):=(zz9 BK756.out 1).trans rfl;have hfz16_0:=zz10 BK756.out 0;have hfz16_1:=zz10 BK756.out 1;obtain ⟨Ao17,co17,eo17⟩:=Kd.R_slice HO763.out;subst eo17))
        refine bodyPost_ret (results_ct rfl _ _ gb756 29 #[.int .i64 t760,.slice Ao17 t761.length co17] (0,0) _ rfl (by (with_reducible repeat (first | refine zz6 ?_ _ | refine zz7 ?_ | refine zz8 ?_ _));refine blk_put (cs:=#[.int .i64 t760,.slice none 0 0]) ?_ 1 _ rfl;(with_reducible repeat (first | refine zz6 ?_ _ | refine zz7 ?_ | refine zz8 ?_ _));refine blk_put (cs:=#[.int .i64 0,.slice none 0 0]) ?_ 0 _ rfl;(with_reducible repeat (first | refine zz6 ?_ _ | refine zz7 ?_ | refine zz8 ?_ _));exact BK756.out) Try.underlying29 rfl (by kernel_rfl)) rfl ?_
        exact ⟨_,by first | rfl | (simp [errW_none,errW_some] <;> rfl) | (simp [*,errW_none,errW_some] <;> rfl),by (with_reducible repeat (first | apply zz12 | apply zz13 | apply zz14));exact Kd.R_mono (Kd.R_far (p:=⟨gb756,1,none⟩) (Kd.R_far (p:=⟨gb756,0,none⟩) (Kd.R_types HO763.out BK756.out (by decide)) (fun _ hk=>hk.2) (.int .i64 t760)) (fun _ hk=>hk.2) (.slice Ao17 t761.length co17)) (fun _ hk=>trivial),by repeat first | exact HB.out | apply zz2 | apply zz0 | apply zz1 | refine zz3 ?_ GE756.out⟩

/-! ### impl_sum: function 82 -/
def impl_sum.l0:Nat→Int→List Int→Int→Int→Option (Int)
 | 0,_,_,_,_=>none
 | k+1,x3,x6,x7,x8=>if x8 < x7 then (if 0≤x8 then (if x8 < (x6.length:Int) then (impl_sum.l0 k (wrap64 (x3+(rd x6 x8))) x6 x7 (wrap64 (x8+1))) else (none)) else (none)) else (some x3)
def impl_sum.f (k:Nat) (l0:List Int):Option (Int):=impl_sum.l0 k 0 l0 (l0.length:Int) 0
theorem impl_sum.mono_l:∀ k,(∀ y0 y1 y2 y3,LeO (impl_sum.l0 k y0 y1 y2 y3) (impl_sum.l0 (k+1) y0 y1 y2 y3))
 | 0=>fun _ _ _ _ r h=>by simp [impl_sum.l0] at h
 | k+1=>by
  have ih0:=impl_sum.mono_l k
  ·intro y0 y1 y2 y3
   unfold impl_sum.l0
   repeat' first
   | (with_reducible exact ih0 _ _ _ _)
   | (with_reducible exact LeO.refl _)
   | (with_reducible exact LeO.none _)
   | (with_reducible refine LeO.ite ?_ ?_)
   | (with_reducible refine LeO.bind ?_ (fun _=>?_))
   | exact ih0 _ _ _ _
   | exact LeO.none _
   | refine LeO.ite ?_ ?_
   | refine LeO.bind ?_ (fun _=>?_)
theorem impl_sum.mono:∀ a0 k,LeO (impl_sum.f k a0) (impl_sum.f (k+1) a0):=by
 intro a0 k
 have ih0:=impl_sum.mono_l k
 unfold impl_sum.f
 repeat' first
   | (with_reducible exact ih0 _ _ _ _)
   | (with_reducible exact LeO.refl _)
   | (with_reducible exact LeO.none _)
   | (with_reducible refine LeO.ite ?_ ?_)
   | (with_reducible refine LeO.bind ?_ (fun _=>?_))
   | exact ih0 _ _ _ _
   | exact LeO.none _
   | refine LeO.ite ?_ ?_
   | refine LeO.bind ?_ (fun _=>?_)
set_option maxHeartbeats 8000000 in
set_option maxRecDepth 100000 in
theorem impl_sum.calls (k:Nat) (A0:Option Addr) (c0:Nat) (l0:List Int) (r:Int) (w:World) (hr0:Kd.C (Kd.int .i64) w A0 l0.length l0) (hc0:l0.length≤c0) (h:impl_sum.f k l0=some r) :
  Calls Try.prog 82 #[.slice A0 l0.length c0] w fun e w'=>e=.returned (.int .i64 r)∧Drawn0 w w':=by
 have HR0:=Aside0.mk hr0
 have HC0:=Aside0.mk hc0
 clear hr0 hc0
 have H:(impl_sum.l0 k 0 l0 (l0.length:Int) 0)=some r:=h
 clear h
 have H':=Aside0.mk H
 clear H
 go_enter Try.func82,Try.ntmps82
 go_wp2
 go_loopg [3,8] k (fun kq v3 v8 w'=>∃ (x3_1:Int) (x8_1:Int),v3=.int .i64 x3_1∧v8=.int .i64 x8_1∧Aside0 (impl_sum.l0 kq x3_1 l0 (l0.length:Int) x8_1=some r)∧Aside0 (kq≤k)∧Drawn0 w w')
 case atStart=>exact ⟨(0),(0),(by first | rfl | (simp;done) | (simp [*];done)),(by first | rfl | (simp;done) | (simp [*];done)),H',⟨Nat.le_refl _⟩,by repeat (first | exact Drawn0.refl _ | apply Drawn0.step)⟩
 case round =>
  clear H'
  obtain ⟨x3_1,x8_1,rfl,rfl,HA,HK1,⟨m1,rfl⟩⟩:=hrel
  cases gk with
  | zero=>exact absurd HA.out (by simp [impl_sum.l0])
  | succ k1 =>
   have H:=HA.out
   clear HA
   simp only [impl_sum.l0] at H
   by_cases c2:x8_1 < (l0.length:Int)
   ·rw [if_pos c2] at H
    have c2b0:decide (x8_1 < (l0.length:Int))=true:=decide_eq_true c2
    clear c2
    by_cases c3:0≤x8_1
    ·rw [if_pos c3] at H
     have c3b0:decide (0≤x8_1)=true:=decide_eq_true c3
     clear c3
     by_cases c4:x8_1 < (l0.length:Int)
     ·rw [if_pos c4] at H
      have c4b0:decide (x8_1 < (l0.length:Int))=true:=decide_eq_true c4
      clear c4
      have H':=Aside0.mk H
      clear H
      have p764:0≤(x8_1:Int):=zz29 (by first | (with_reducible assumption) | assumption)
      have q764:x8_1 < (l0.length:Int):=zz29 (by first | (with_reducible assumption) | assumption)
      obtain ⟨ad764,e764,hx764_0⟩:=Kd.at_int HR0.out x8_1 p764 q764
      cases e764
      replace p764:=eq_true p764
      replace q764:=eq_true q764
      go_wp2
      go_roundg k1
      case measure=>have:=HK1.out;omega
      case rel=>exact ⟨(wrap64 (x3_1+(rd l0 x8_1))),(wrap64 (x8_1+1)),(by first | rfl | (simp;done) | (simp [*];done)),(by first | rfl | (simp;done) | (simp [*];done)),H',⟨by have:=HK1.out;omega⟩,by repeat (first | exact Drawn0.refl _ | apply Drawn0.step)⟩
     ·rw [if_neg c4] at H
      exact absurd H (by simp)
    ·rw [if_neg c3] at H
     exact absurd H (by simp)
   ·rw [if_neg c2] at H
    have c2b0:decide (x8_1 < (l0.length:Int))=false:=decide_eq_false c2
    clear c2
    obtain rfl:=Option.some.inj H
    go_wp2
    go_ret
    exact ⟨by first | rfl | (simp;done) | (simp [*];done),by repeat (first | exact Drawn0.refl _ | apply Drawn0.step)⟩

/-! ### impl_PartsParty: function 47 -/
def impl_PartsParty.f (k:Nat) (l0:List Int):Option (Int × (List (S61)) × Bool):=(impl_within.f (l0.length:Int) 1 12).bind fun t766=>(if t766=true then ((impl_areWithin.f l0 1 12).bind fun t767=>(if t767=true then ((impl_sum.f k l0).bind fun t768=>(if t768 > 12 then (some (0,([]:List (S61)),false)) else ((impl_partsParty.f k l0).bind fun bt769=>(some (bt769.1,bt769.2,true))))) else (some (0,([]:List (S61)),false)))) else (some (0,([]:List (S61)),false)))
theorem impl_PartsParty.mono:∀ a0 k,LeO (impl_PartsParty.f k a0) (impl_PartsParty.f (k+1) a0):=by
 intro a0 k
 unfold impl_PartsParty.f
 repeat' first
   | (with_reducible exact impl_partsParty.mono _ _)
   | (with_reducible exact impl_sum.mono _ _)
   | (with_reducible exact LeO.refl _)
   | (with_reducible exact LeO.none _)
   | (with_reducible refine LeO.ite ?_ ?_)
   | (with_reducible refine LeO.bind ?_ (fun _=>?_))
   | exact impl_partsParty.mono _ _
   | exact impl_sum.mono _ _
   | exact LeO.none _
   | refine LeO.ite ?_ ?_
   | refine LeO.bind ?_ (fun _=>?_)
set_option maxHeartbeats 8000000 in
set_option maxRecDepth 100000 in
theorem impl_PartsParty.calls (k:Nat) (A0:Option Addr) (c0:Nat) (l0:List Int) (r1:Int) (r2:List (S61)) (r3:Bool) (w:World) (hr0:Kd.C (Kd.int .i64) w A0 l0.length l0) (hc0:l0.length≤c0) (h:impl_PartsParty.f k l0=some (r1,r2,r3)) :
  Calls Try.prog 47 #[.slice A0 l0.length c0] w fun e w'=>∃ v1_:Value,e=.returned (.tuple #[.agg #[.int .i64 r1,v1_],.bool r3])∧Kd.R k61 61 w' w.heap.size (fun _=>True) v1_ r2∧Below w.heap.size w w':=by
 have hu29:=Try.underlying29
 have HR0:=Aside0.mk hr0
 have HC0:=Aside0.mk hc0
 clear hr0 hc0
 have HB:=Aside0.mk (Below.refl w.heap.size w)
 have H:((impl_within.f (l0.length:Int) 1 12).bind fun t766=>(if t766=true then ((impl_areWithin.f l0 1 12).bind fun t767=>(if t767=true then ((impl_sum.f k l0).bind fun t768=>(if t768 > 12 then (some (0,([]:List (S61)),false)) else ((impl_partsParty.f k l0).bind fun bt769=>(some (bt769.1,bt769.2,true))))) else (some (0,([]:List (S61)),false)))) else (some (0,([]:List (S61)),false))))=some (r1,r2,r3):=h
 clear h
 replace H:=zz30.mp H
 obtain ⟨t766,A20,H⟩:=H
 replace H:(if t766=true then ((impl_areWithin.f l0 1 12).bind fun t767=>(if t767=true then ((impl_sum.f k l0).bind fun t768=>(if t768 > 12 then (some (0,([]:List (S61)),false)) else ((impl_partsParty.f k l0).bind fun bt769=>(some (bt769.1,bt769.2,true))))) else (some (0,([]:List (S61)),false)))) else (some (0,([]:List (S61)),false)))=some (r1,r2,r3):=H
 have A2:=Aside0.mk A20
 clear A20
 by_cases c3:t766=true
 ·subst c3
  have H1:((impl_areWithin.f l0 1 12).bind fun t767=>(if t767=true then ((impl_sum.f k l0).bind fun t768=>(if t768 > 12 then (some (0,([]:List (S61)),false)) else ((impl_partsParty.f k l0).bind fun bt769=>(some (bt769.1,bt769.2,true))))) else (some (0,([]:List (S61)),false))))=some (r1,r2,r3):=by rw [if_pos rfl] at H;exact H
  clear H
  have H:=H1
  clear H1
  replace H:=zz30.mp H
  obtain ⟨t767,A40,H⟩:=H
  replace H:(if t767=true then ((impl_sum.f k l0).bind fun t768=>(if t768 > 12 then (some (0,([]:List (S61)),false)) else ((impl_partsParty.f k l0).bind fun bt769=>(some (bt769.1,bt769.2,true))))) else (some (0,([]:List (S61)),false)))=some (r1,r2,r3):=H
  have A4:=Aside0.mk A40
  clear A40
  by_cases c5:t767=true
  ·subst c5
   have H1:((impl_sum.f k l0).bind fun t768=>(if t768 > 12 then (some (0,([]:List (S61)),false)) else ((impl_partsParty.f k l0).bind fun bt769=>(some (bt769.1,bt769.2,true)))))=some (r1,r2,r3):=by rw [if_pos rfl] at H;exact H
   clear H
   have H:=H1
   clear H1
   replace H:=zz30.mp H
   obtain ⟨t768,A60,H⟩:=H
   replace H:(if t768 > 12 then (some (0,([]:List (S61)),false)) else ((impl_partsParty.f k l0).bind fun bt769=>(some (bt769.1,bt769.2,true))))=some (r1,r2,r3):=H
   have A6:=Aside0.mk A60
   clear A60
   by_cases c7:t768 > 12
   ·rw [if_pos c7] at H
    have c7b0:decide (12 < t768)=true:=decide_eq_true c7
    clear c7
    simp only [Option.some.injEq,Prod.mk.injEq] at H
    obtain ⟨rfl,rfl,rfl⟩:=H
    go_enter Try.func47,Try.ntmps47
    go_wp2_with (first | ((with_reducible refine gate_dst (N:=2) rfl ?_);refine box_event ?hg (N:=2) ?hd (cs:=#[.int .i64 0,.slice none 0 0]) (t:=29) ?hr ?_;(case hd=>rfl);(case hg=>rfl);(case hr=>first | (go_simp;done) | (go_simp;rfl));intro gb765 hg w8 hbox hb;have n0_:=Aside0.mk (zz4 (by repeat first | exact HB.out | apply zz2 | apply zz0 | apply zz1) hb);have n1_:=Aside0.mk (hbox);have n2_:=Aside0.mk ((by rw [hg];exact (zz5 (by repeat first | exact HB.out | apply zz2 | apply zz0 | apply zz1)):w.heap.size≤gb765));have n3_:=Aside0.mk ((by rw [hg];exact (zz5 (by repeat first | exact HB.out | apply zz2 | apply zz0 | apply zz1)):w.heap.size≤gb765));clear HB;have HB:=n0_;have BK765:=n1_;have GW765:=n2_;have GE765:=n3_;clear n0_ n1_ n2_ n3_;clear hb hbox hg) | ((with_reducible refine gate_callee (f:=78) rfl ?_);refine goesL_ (some 6) rfl rfl Try.func78 (by kernel_rfl) rfl #[.int .i64 (l0.length:Int),.int .i64 1,.int .i64 12] rfl (by (try simp only [zz26,zz27,zz28]);first | done | rfl | (simp only [zz24,zz25];rfl) | (simp only [zz25];congr;(try simp only [decide_eq_true_eq] at *);omega)) ?_;(with_reducible refine (impl_within.calls (l0.length:Int) 1 12 true _ A2.out).mono ?_);rintro e w' ⟨rfl,⟨nd,rfl⟩⟩;refine ⟨_,rfl,?_⟩;(try (rw [drewN_self w8];generalize hq_:World.drewN w8 _=w8;have n0_:Aside0 (w8.heap[gb765]?=some (.cells #[.int .i64 0,.slice none 0 0] 29 (0,0))):=⟨by rw [← hq_];exact (by (with_reducible repeat (first | refine zz6 ?_ _ | refine zz7 ?_ | refine zz8 ?_ _));exact BK765.out)⟩;have n1_:Aside0 (Below w.heap.size w w8):=⟨by rw [← hq_];exact (by repeat first | exact HB.out | apply zz2 | apply zz0 | apply zz1 | refine zz3 ?_ GE765.out)⟩;clear BK765 HB hq_;have BK765:=n0_;have HB:=n1_;clear n0_ n1_))) | (go_at_call 72;(with_reducible refine (impl_areWithin.calls _ _ l0 1 12 true _ ?side1 ?side2 A4.out).mono ?_);(case side1=>repeat (first | exact (Kd.C_below HR0.out HB.out) | (with_reducible refine zz18 ?_ _) | (with_reducible refine zz19 ?_ _) | (with_reducible refine zz20 ?_)));(case side2=>exact HC0.out);rintro e w9 ⟨rfl,hb⟩;have n0_:=Aside0.mk (zz11 (g:=gb765) (o:=.cells #[.int .i64 0,.slice none 0 0] 29 (0,0)) (by (with_reducible repeat (first | refine zz6 ?_ _ | refine zz7 ?_ | refine zz8 ?_ _));exact BK765.out) hb);have n1_:=Aside0.mk (zz4 (by repeat first | exact HB.out | apply zz2 | apply zz0 | apply zz1 | refine zz3 ?_ GE765.out) hb);clear BK765;clear HB;have BK765:=n0_;have HB:=n1_;clear n0_ n1_;(try clear hb);(try clear hb2);(try clear hk);(try clear hi)) | (go_at_call 82;(with_reducible refine (impl_sum.calls k _ _ l0 t768 _ ?side1 ?side2 A6.out).mono ?_);(case side1=>repeat (first | exact (Kd.C_below HR0.out HB.out) | (with_reducible refine zz18 ?_ _) | (with_reducible refine zz19 ?_ _) | (with_reducible refine zz20 ?_)));(case side2=>exact HC0.out);rintro e w' ⟨rfl,⟨nd,rfl⟩⟩;(try (rw [drewN_self w9];generalize hq_:World.drewN w9 _=w9;have n0_:Aside0 (w9.heap[gb765]?=some (.cells #[.int .i64 0,.slice none 0 0] 29 (0,0))):=⟨by rw [← hq_];exact (by (with_reducible repeat (first | refine zz6 ?_ _ | refine zz7 ?_ | refine zz8 ?_ _));exact BK765.out)⟩;have n1_:Aside0 (Below w.heap.size w w9):=⟨by rw [← hq_];exact (by repeat first | exact HB.out | apply zz2 | apply zz0 | apply zz1 | refine zz3 ?_ GE765.out)⟩;clear BK765 HB hq_;have BK765:=n0_;have HB:=n1_;clear n0_ n1_));have hcz10_0:w9.cell? ⟨gb765,0,none⟩=some (.int .i64 0):=(zz9 BK765.out 0).trans rfl;have hcz10_1:w9.cell? ⟨gb765,1,none⟩=some (.slice none 0 0):=(zz9 BK765.out 1).trans rfl;have hfz10_0:=zz10 BK765.out 0;have hfz10_1:=zz10 BK765.out 1))
    refine bodyPost_ret (results_ct rfl _ _ gb765 29 #[.int .i64 0,.slice none 0 0] (0,0) _ rfl (by (with_reducible repeat (first | refine zz6 ?_ _ | refine zz7 ?_ | refine zz8 ?_ _));refine blk_put (cs:=#[.int .i64 0,.slice none 0 0]) ?_ 1 _ rfl;(with_reducible repeat (first | refine zz6 ?_ _ | refine zz7 ?_ | refine zz8 ?_ _));refine blk_put (cs:=#[.int .i64 0,.slice none 0 0]) ?_ 0 _ rfl;(with_reducible repeat (first | refine zz6 ?_ _ | refine zz7 ?_ | refine zz8 ?_ _));exact BK765.out) Try.underlying29 rfl (by kernel_rfl)) rfl ?_
    exact ⟨_,by first | rfl | (simp [errW_none,errW_some] <;> rfl) | (simp [*,errW_none,errW_some] <;> rfl),by first | exact Kd.R_nil _ _ _ _ _ | exact Kd.N_nil _ _ _ _ _ | exact Kd.V_nil _ _ _ _ _ | exact Kd.Q_nil _ _ _ _ _ | exact Kd.S_nil _ _ _ _ _,by repeat first | exact HB.out | apply zz2 | apply zz0 | apply zz1 | refine zz3 ?_ GE765.out⟩
   ·rw [if_neg c7] at H
    have c7b0:decide (12 < t768)=false:=decide_eq_false c7
    clear c7
    replace H:=zz30.mp H
    obtain ⟨⟨t769,t770⟩,A110,H⟩:=H
    replace H:(some (t769,t770,true))=some (r1,r2,r3):=H
    have A11:=Aside0.mk A110
    clear A110
    simp only [Option.some.injEq,Prod.mk.injEq] at H
    obtain ⟨rfl,rfl,rfl⟩:=H
    go_enter Try.func47,Try.ntmps47
    go_wp2_with (first | ((with_reducible refine gate_dst (N:=2) rfl ?_);refine box_event ?hg (N:=2) ?hd (cs:=#[.int .i64 0,.slice none 0 0]) (t:=29) ?hr ?_;(case hd=>rfl);(case hg=>rfl);(case hr=>first | (go_simp;done) | (go_simp;rfl));intro gb765 hg w12 hbox hb;have n0_:=Aside0.mk (zz4 (by repeat first | exact HB.out | apply zz2 | apply zz0 | apply zz1) hb);have n1_:=Aside0.mk (hbox);have n2_:=Aside0.mk ((by rw [hg];exact (zz5 (by repeat first | exact HB.out | apply zz2 | apply zz0 | apply zz1)):w.heap.size≤gb765));have n3_:=Aside0.mk ((by rw [hg];exact (zz5 (by repeat first | exact HB.out | apply zz2 | apply zz0 | apply zz1)):w.heap.size≤gb765));clear HB;have HB:=n0_;have BK765:=n1_;have GW765:=n2_;have GE765:=n3_;clear n0_ n1_ n2_ n3_;clear hb hbox hg) | ((with_reducible refine gate_callee (f:=78) rfl ?_);refine goesL_ (some 6) rfl rfl Try.func78 (by kernel_rfl) rfl #[.int .i64 (l0.length:Int),.int .i64 1,.int .i64 12] rfl (by (try simp only [zz26,zz27,zz28]);first | done | rfl | (simp only [zz24,zz25];rfl) | (simp only [zz25];congr;(try simp only [decide_eq_true_eq] at *);omega)) ?_;(with_reducible refine (impl_within.calls (l0.length:Int) 1 12 true _ A2.out).mono ?_);rintro e w' ⟨rfl,⟨nd,rfl⟩⟩;refine ⟨_,rfl,?_⟩;(try (rw [drewN_self w12];generalize hq_:World.drewN w12 _=w12;have n0_:Aside0 (w12.heap[gb765]?=some (.cells #[.int .i64 0,.slice none 0 0] 29 (0,0))):=⟨by rw [← hq_];exact (by (with_reducible repeat (first | refine zz6 ?_ _ | refine zz7 ?_ | refine zz8 ?_ _));exact BK765.out)⟩;have n1_:Aside0 (Below w.heap.size w w12):=⟨by rw [← hq_];exact (by repeat first | exact HB.out | apply zz2 | apply zz0 | apply zz1 | refine zz3 ?_ GE765.out)⟩;clear BK765 HB hq_;have BK765:=n0_;have HB:=n1_;clear n0_ n1_))) | (go_at_call 72;(with_reducible refine (impl_areWithin.calls _ _ l0 1 12 true _ ?side1 ?side2 A4.out).mono ?_);(case side1=>repeat (first | exact (Kd.C_below HR0.out HB.out) | (with_reducible refine zz18 ?_ _) | (with_reducible refine zz19 ?_ _) | (with_reducible refine zz20 ?_)));(case side2=>exact HC0.out);rintro e w13 ⟨rfl,hb⟩;have n0_:=Aside0.mk (zz11 (g:=gb765) (o:=.cells #[.int .i64 0,.slice none 0 0] 29 (0,0)) (by (with_reducible repeat (first | refine zz6 ?_ _ | refine zz7 ?_ | refine zz8 ?_ _));exact BK765.out) hb);have n1_:=Aside0.mk (zz4 (by repeat first | exact HB.out | apply zz2 | apply zz0 | apply zz1 | refine zz3 ?_ GE765.out) hb);clear BK765;clear HB;have BK765:=n0_;have HB:=n1_;clear n0_ n1_;(try clear hb);(try clear hb2);(try clear hk);(try clear hi)) | (go_at_call 82;(with_reducible refine (impl_sum.calls k _ _ l0 t768 _ ?side1 ?side2 A6.out).mono ?_);(case side1=>repeat (first | exact (Kd.C_below HR0.out HB.out) | (with_reducible refine zz18 ?_ _) | (with_reducible refine zz19 ?_ _) | (with_reducible refine zz20 ?_)));(case side2=>exact HC0.out);rintro e w' ⟨rfl,⟨nd,rfl⟩⟩;(try (rw [drewN_self w13];generalize hq_:World.drewN w13 _=w13;have n0_:Aside0 (w13.heap[gb765]?=some (.cells #[.int .i64 0,.slice none 0 0] 29 (0,0))):=⟨by rw [← hq_];exact (by (with_reducible repeat (first | refine zz6 ?_ _ | refine zz7 ?_ | refine zz8 ?_ _));exact BK765.out)⟩;have n1_:Aside0 (Below w.heap.size w w13):=⟨by rw [← hq_];exact (by repeat first | exact HB.out | apply zz2 | apply zz0 | apply zz1 | refine zz3 ?_ GE765.out)⟩;clear BK765 HB hq_;have BK765:=n0_;have HB:=n1_;clear n0_ n1_))) | ((with_reducible refine gate_callee (f:=80) rfl ?_);refine goesL_ (some 20) rfl rfl Try.func80 (by kernel_rfl) rfl #[.slice A0 l0.length c0] rfl (by (try simp only [zz26,zz27,zz28]);first | done | rfl | (simp only [zz24,zz25];rfl) | (simp only [zz25];congr;(try simp only [decide_eq_true_eq] at *);omega)) ?_;(with_reducible refine (impl_partsParty.calls k _ _ l0 t769 t770 _ ?side1 ?side2 A11.out).mono ?_);(case side1=>repeat (first | exact (Kd.C_below HR0.out HB.out) | (with_reducible refine zz18 ?_ _) | (with_reducible refine zz19 ?_ _) | (with_reducible refine zz20 ?_)));(case side2=>exact HC0.out);rintro e w14 ⟨v771,rfl,ho0,hb⟩;refine ⟨_,rfl,?_⟩;have n0_:=Aside0.mk (Kd.R_lower ho0 (zz5 (by repeat first | exact HB.out | apply zz2 | apply zz0 | apply zz1 | refine zz3 ?_ GE765.out)));have n1_:=Aside0.mk (zz11 (g:=gb765) (o:=.cells #[.int .i64 0,.slice none 0 0] 29 (0,0)) (by (with_reducible repeat (first | refine zz6 ?_ _ | refine zz7 ?_ | refine zz8 ?_ _));exact BK765.out) hb);have n2_:=Aside0.mk (zz4 (by repeat first | exact HB.out | apply zz2 | apply zz0 | apply zz1 | refine zz3 ?_ GE765.out) hb);clear BK765;clear HB;have HO772:=n0_;have BK765:=n1_;have HB:=n2_;clear n0_ n1_ n2_;(try clear hb);(try clear hb2);(try clear hk);(try clear hi);(try clear ho0);have hcz15_0:w14.cell? ⟨gb765,0,none⟩=some (.int .i64 0):=(zz9 BK765.out 0).trans rfl;have hcz15_1:w14.cell? ⟨gb765,1,none⟩=some (.slice none 0 0):=(zz9 BK765.out 1).trans rfl;have hfz15_0:=zz10 BK765.out 0;have hfz15_1:=zz10 BK765.out 1;obtain ⟨Ao16,co16,eo16⟩:=Kd.R_slice HO772.out;subst eo16))
    refine bodyPost_ret (results_ct rfl _ _ gb765 29 #[.int .i64 t769,.slice Ao16 t770.length co16] (0,0) _ rfl (by (with_reducible repeat (first | refine zz6 ?_ _ | refine zz7 ?_ | refine zz8 ?_ _));refine blk_put (cs:=#[.int .i64 t769,.slice none 0 0]) ?_ 1 _ rfl;(with_reducible repeat (first | refine zz6 ?_ _ | refine zz7 ?_ | refine zz8 ?_ _));refine blk_put (cs:=#[.int .i64 0,.slice none 0 0]) ?_ 0 _ rfl;(with_reducible repeat (first | refine zz6 ?_ _ | refine zz7 ?_ | refine zz8 ?_ _));exact BK765.out) Try.underlying29 rfl (by kernel_rfl)) rfl ?_
    exact ⟨_,by first | rfl | (simp [errW_none,errW_some] <;> rfl) | (simp [*,errW_none,errW_some] <;> rfl),by (with_reducible repeat (first | apply zz12 | apply zz13 | apply zz14));exact Kd.R_mono (Kd.R_far (p:=⟨gb765,1,none⟩) (Kd.R_far (p:=⟨gb765,0,none⟩) (Kd.R_types HO772.out BK765.out (by decide)) (fun _ hk=>hk.2) (.int .i64 t769)) (fun _ hk=>hk.2) (.slice Ao16 t770.length co16)) (fun _ hk=>trivial),by repeat first | exact HB.out | apply zz2 | apply zz0 | apply zz1 | refine zz3 ?_ GE765.out⟩
  ·replace c5:=Bool.eq_false_iff.mpr c5
   subst c5
   have H1:(some (0,([]:List (S61)),false))=some (r1,r2,r3):=by rw [if_neg (show ¬ (false=true) by decide)] at H;exact H
   clear H
   have H:=H1
   clear H1
   simp only [Option.some.injEq,Prod.mk.injEq] at H
   obtain ⟨rfl,rfl,rfl⟩:=H
   go_enter Try.func47,Try.ntmps47
   go_wp2_with (first | ((with_reducible refine gate_dst (N:=2) rfl ?_);refine box_event ?hg (N:=2) ?hd (cs:=#[.int .i64 0,.slice none 0 0]) (t:=29) ?hr ?_;(case hd=>rfl);(case hg=>rfl);(case hr=>first | (go_simp;done) | (go_simp;rfl));intro gb765 hg w17 hbox hb;have n0_:=Aside0.mk (zz4 (by repeat first | exact HB.out | apply zz2 | apply zz0 | apply zz1) hb);have n1_:=Aside0.mk (hbox);have n2_:=Aside0.mk ((by rw [hg];exact (zz5 (by repeat first | exact HB.out | apply zz2 | apply zz0 | apply zz1)):w.heap.size≤gb765));have n3_:=Aside0.mk ((by rw [hg];exact (zz5 (by repeat first | exact HB.out | apply zz2 | apply zz0 | apply zz1)):w.heap.size≤gb765));clear HB;have HB:=n0_;have BK765:=n1_;have GW765:=n2_;have GE765:=n3_;clear n0_ n1_ n2_ n3_;clear hb hbox hg) | ((with_reducible refine gate_callee (f:=78) rfl ?_);refine goesL_ (some 6) rfl rfl Try.func78 (by kernel_rfl) rfl #[.int .i64 (l0.length:Int),.int .i64 1,.int .i64 12] rfl (by (try simp only [zz26,zz27,zz28]);first | done | rfl | (simp only [zz24,zz25];rfl) | (simp only [zz25];congr;(try simp only [decide_eq_true_eq] at *);omega)) ?_;(with_reducible refine (impl_within.calls (l0.length:Int) 1 12 true _ A2.out).mono ?_);rintro e w' ⟨rfl,⟨nd,rfl⟩⟩;refine ⟨_,rfl,?_⟩;(try (rw [drewN_self w17];generalize hq_:World.drewN w17 _=w17;have n0_:Aside0 (w17.heap[gb765]?=some (.cells #[.int .i64 0,.slice none 0 0] 29 (0,0))):=⟨by rw [← hq_];exact (by (with_reducible repeat (first | refine zz6 ?_ _ | refine zz7 ?_ | refine zz8 ?_ _));exact BK765.out)⟩;have n1_:Aside0 (Below w.heap.size w w17):=⟨by rw [← hq_];exact (by repeat first | exact HB.out | apply zz2 | apply zz0 | apply zz1 | refine zz3 ?_ GE765.out)⟩;clear BK765 HB hq_;have BK765:=n0_;have HB:=n1_;clear n0_ n1_))) | (go_at_call 72;(with_reducible refine (impl_areWithin.calls _ _ l0 1 12 false _ ?side1 ?side2 A4.out).mono ?_);(case side1=>repeat (first | exact (Kd.C_below HR0.out HB.out) | (with_reducible refine zz18 ?_ _) | (with_reducible refine zz19 ?_ _) | (with_reducible refine zz20 ?_)));(case side2=>exact HC0.out);rintro e w18 ⟨rfl,hb⟩;have n0_:=Aside0.mk (zz11 (g:=gb765) (o:=.cells #[.int .i64 0,.slice none 0 0] 29 (0,0)) (by (with_reducible repeat (first | refine zz6 ?_ _ | refine zz7 ?_ | refine zz8 ?_ _));exact BK765.out) hb);have n1_:=Aside0.mk (zz4 (by repeat first | exact HB.out | apply zz2 | apply zz0 | apply zz1 | refine zz3 ?_ GE765.out) hb);clear BK765;clear HB;have BK765:=n0_;have HB:=n1_;clear n0_ n1_;(try clear hb);(try clear hb2);(try clear hk);(try clear hi);have hcz19_0:w18.cell? ⟨gb765,0,none⟩=some (.int .i64 0):=(zz9 BK765.out 0).trans rfl;have hcz19_1:w18.cell? ⟨gb765,1,none⟩=some (.slice none 0 0):=(zz9 BK765.out 1).trans rfl;have hfz19_0:=zz10 BK765.out 0;have hfz19_1:=zz10 BK765.out 1))
   refine bodyPost_ret (results_ct rfl _ _ gb765 29 #[.int .i64 0,.slice none 0 0] (0,0) _ rfl (by (with_reducible repeat (first | refine zz6 ?_ _ | refine zz7 ?_ | refine zz8 ?_ _));refine blk_put (cs:=#[.int .i64 0,.slice none 0 0]) ?_ 1 _ rfl;(with_reducible repeat (first | refine zz6 ?_ _ | refine zz7 ?_ | refine zz8 ?_ _));refine blk_put (cs:=#[.int .i64 0,.slice none 0 0]) ?_ 0 _ rfl;(with_reducible repeat (first | refine zz6 ?_ _ | refine zz7 ?_ | refine zz8 ?_ _));exact BK765.out) Try.underlying29 rfl (by kernel_rfl)) rfl ?_
   exact ⟨_,by first | rfl | (simp [errW_none,errW_some] <;> rfl) | (simp [*,errW_none,errW_some] <;> rfl),by first | exact Kd.R_nil _ _ _ _ _ | exact Kd.N_nil _ _ _ _ _ | exact Kd.V_nil _ _ _ _ _ | exact Kd.Q_nil _ _ _ _ _ | exact Kd.S_nil _ _ _ _ _,by repeat first | exact HB.out | apply zz2 | apply zz0 | apply zz1 | refine zz3 ?_ GE765.out⟩
 ·replace c3:=Bool.eq_false_iff.mpr c3
  subst c3
  have H1:(some (0,([]:List (S61)),false))=some (r1,r2,r3):=by rw [if_neg (show ¬ (false=true) by decide)] at H;exact H
  clear H
  have H:=H1
  clear H1
  simp only [Option.some.injEq,Prod.mk.injEq] at H
  obtain ⟨rfl,rfl,rfl⟩:=H
  go_enter Try.func47,Try.ntmps47
  go_wp2_with (first | ((with_reducible refine gate_dst (N:=2) rfl ?_);refine box_event ?hg (N:=2) ?hd (cs:=#[.int .i64 0,.slice none 0 0]) (t:=29) ?hr ?_;(case hd=>rfl);(case hg=>rfl);(case hr=>first | (go_simp;done) | (go_simp;rfl));intro gb765 hg w20 hbox hb;have n0_:=Aside0.mk (zz4 (by repeat first | exact HB.out | apply zz2 | apply zz0 | apply zz1) hb);have n1_:=Aside0.mk (hbox);have n2_:=Aside0.mk ((by rw [hg];exact (zz5 (by repeat first | exact HB.out | apply zz2 | apply zz0 | apply zz1)):w.heap.size≤gb765));have n3_:=Aside0.mk ((by rw [hg];exact (zz5 (by repeat first | exact HB.out | apply zz2 | apply zz0 | apply zz1)):w.heap.size≤gb765));clear HB;have HB:=n0_;have BK765:=n1_;have GW765:=n2_;have GE765:=n3_;clear n0_ n1_ n2_ n3_;clear hb hbox hg) | ((with_reducible refine gate_callee (f:=78) rfl ?_);refine goesL_ (some 6) rfl rfl Try.func78 (by kernel_rfl) rfl #[.int .i64 (l0.length:Int),.int .i64 1,.int .i64 12] rfl (by (try simp only [zz26,zz27,zz28]);first | done | rfl | (simp only [zz24,zz25];rfl) | (simp only [zz25];congr;(try simp only [decide_eq_true_eq] at *);omega)) ?_;(with_reducible refine (impl_within.calls (l0.length:Int) 1 12 false _ A2.out).mono ?_);rintro e w' ⟨rfl,⟨nd,rfl⟩⟩;refine ⟨_,rfl,?_⟩;(try (rw [drewN_self w20];generalize hq_:World.drewN w20 _=w20;have n0_:Aside0 (w20.heap[gb765]?=some (.cells #[.int .i64 0,.slice none 0 0] 29 (0,0))):=⟨by rw [← hq_];exact (by (with_reducible repeat (first | refine zz6 ?_ _ | refine zz7 ?_ | refine zz8 ?_ _));exact BK765.out)⟩;have n1_:Aside0 (Below w.heap.size w w20):=⟨by rw [← hq_];exact (by repeat first | exact HB.out | apply zz2 | apply zz0 | apply zz1 | refine zz3 ?_ GE765.out)⟩;clear BK765 HB hq_;have BK765:=n0_;have HB:=n1_;clear n0_ n1_));have hcz21_0:w20.cell? ⟨gb765,0,none⟩=some (.int .i64 0):=(zz9 BK765.out 0).trans rfl;have hcz21_1:w20.cell? ⟨gb765,1,none⟩=some (.slice none 0 0):=(zz9 BK765.out 1).trans rfl;have hfz21_0:=zz10 BK765.out 0;have hfz21_1:=zz10 BK765.out 1))
  refine bodyPost_ret (results_ct rfl _ _ gb765 29 #[.int .i64 0,.slice none 0 0] (0,0) _ rfl (by (with_reducible repeat (first | refine zz6 ?_ _ | refine zz7 ?_ | refine zz8 ?_ _));refine blk_put (cs:=#[.int .i64 0,.slice none 0 0]) ?_ 1 _ rfl;(with_reducible repeat (first | refine zz6 ?_ _ | refine zz7 ?_ | refine zz8 ?_ _));refine blk_put (cs:=#[.int .i64 0,.slice none 0 0]) ?_ 0 _ rfl;(with_reducible repeat (first | refine zz6 ?_ _ | refine zz7 ?_ | refine zz8 ?_ _));exact BK765.out) Try.underlying29 rfl (by kernel_rfl)) rfl ?_
  exact ⟨_,by first | rfl | (simp [errW_none,errW_some] <;> rfl) | (simp [*,errW_none,errW_some] <;> rfl),by first | exact Kd.R_nil _ _ _ _ _ | exact Kd.N_nil _ _ _ _ _ | exact Kd.V_nil _ _ _ _ _ | exact Kd.Q_nil _ _ _ _ _ | exact Kd.S_nil _ _ _ _ _,by repeat first | exact HB.out | apply zz2 | apply zz0 | apply zz1 | refine zz3 ?_ GE765.out⟩

/-! ### laws_FnExactPartsParty: function 14 -/
mutual
def laws_FnExactPartsParty.j0:Nat→List Int→Bool→List Int→Bool→Bool→Int→List (S61)→Int→List (S61)→Option (Bool)
 | 0,_,_,_,_,_,_,_,_,_=>none
 | k+1,x0,x4,x5,x7,x37,x782000,x782001,x791000,x791001=>if x37=true then (some false) else ((laws_toIntS.f k x0).bind fun t792=>((laws_eqIntS.f k x5 t792).bind fun t795=>(if t795=true then ((laws_markIntS.f k x5 1).bind fun bt796=>(if bt796.1 < 0 then (laws_FnExactPartsParty.j1 k x0 x4 true x782000 x782001 x791000 x791001) else ((laws_eqParty.f k x791000 x791001 x782000 x782001).bind fun t798=>(if t798=true then (laws_FnExactPartsParty.j1 k x0 x4 (x7 != x4) x782000 x782001 x791000 x791001) else (laws_FnExactPartsParty.j1 k x0 x4 true x782000 x782001 x791000 x791001))))) else (some false))))
def laws_FnExactPartsParty.j1:Nat→List Int→Bool→Bool→Int→List (S61)→Int→List (S61)→Option (Bool)
 | 0,_,_,_,_,_,_,_=>none
 | k+1,x0,x4,x58,x782000,x782001,x791000,x791001=>if x58=true then (some false) else ((laws_markParty.f k x791000 x791001 1).bind fun bt799=>((laws_heldParty.f k x791000 bt799.2 1).bind fun t801=>(if t801 < 0 then (some false) else (if t801=bt799.1 then ((laws_toIntS.f k x0).bind fun t802=>((impl_PartsParty.f k t802).bind fun bt805=>((laws_eqParty.f k bt805.1 bt805.2.1 x782000 x782001).bind fun t811=>(if t811=true then (laws_FnExactPartsParty.j2 k bt799.1 (bt805.2.2 != x4) x791000 bt799.2) else (laws_FnExactPartsParty.j2 k bt799.1 true x791000 bt799.2))))) else (some false)))))
def laws_FnExactPartsParty.j2:Nat→Int→Bool→Int→List (S61)→Option (Bool)
 | 0,_,_,_,_=>none
 | k+1,x9,x84,x791000,x791001=>if x84=true then (some false) else ((laws_heldParty.f k x791000 x791001 1).bind fun t812=>(if t812 < 0 then (some false) else (if t812=x9 then (some true) else (some false))))
end
def laws_FnExactPartsParty.f (k:Nat) (l0:List Int):Option (Bool):=if (l0.length:Int) > 1048576 then (some true) else ((laws_toIntS.f k l0).bind fun t773=>((spec_PartsParty.f k t773).bind fun bt776=>((laws_toIntS.f k l0).bind fun t782=>((impl_PartsParty.f k t782).bind fun bt785=>((laws_eqParty.f k bt785.1 bt785.2.1 bt776.1 bt776.2.1).bind fun t791=>(if t791=true then (laws_FnExactPartsParty.j0 k l0 bt776.2.2 t782 bt785.2.2 (bt785.2.2 != bt776.2.2) bt776.1 bt776.2.1 bt785.1 bt785.2.1) else (laws_FnExactPartsParty.j0 k l0 bt776.2.2 t782 bt785.2.2 true bt776.1 bt776.2.1 bt785.1 bt785.2.1)))))))
theorem laws_FnExactPartsParty.mono_l:∀ k,(∀ y0 y1 y2 y3 y4 y5 y6 y7 y8,LeO (laws_FnExactPartsParty.j0 k y0 y1 y2 y3 y4 y5 y6 y7 y8) (laws_FnExactPartsParty.j0 (k+1) y0 y1 y2 y3 y4 y5 y6 y7 y8))∧(∀ y0 y1 y2 y3 y4 y5 y6,LeO (laws_FnExactPartsParty.j1 k y0 y1 y2 y3 y4 y5 y6) (laws_FnExactPartsParty.j1 (k+1) y0 y1 y2 y3 y4 y5 y6))∧(∀ y0 y1 y2 y3,LeO (laws_FnExactPartsParty.j2 k y0 y1 y2 y3) (laws_FnExactPartsParty.j2 (k+1) y0 y1 y2 y3))
 | 0=>⟨fun _ _ _ _ _ _ _ _ _ r h=>by simp [laws_FnExactPartsParty.j0] at h,fun _ _ _ _ _ _ _ r h=>by simp [laws_FnExactPartsParty.j1] at h,fun _ _ _ _ r h=>by simp [laws_FnExactPartsParty.j2] at h⟩
 | k+1=>by
  obtain ⟨ih0,ih1,ih2⟩:=laws_FnExactPartsParty.mono_l k
  refine ⟨?_,?_,?_⟩
  ·intro y0 y1 y2 y3 y4 y5 y6 y7 y8
   unfold laws_FnExactPartsParty.j0
   repeat' first
   | (with_reducible exact ih0 _ _ _ _ _ _ _ _ _)
   | (with_reducible exact ih1 _ _ _ _ _ _ _)
   | (with_reducible exact ih2 _ _ _ _)
   | (with_reducible exact impl_PartsParty.mono _ _)
   | (with_reducible exact laws_eqIntS.mono _ _ _)
   | (with_reducible exact laws_eqParty.mono _ _ _ _ _)
   | (with_reducible exact laws_heldParty.mono _ _ _ _)
   | (with_reducible exact laws_markIntS.mono _ _ _)
   | (with_reducible exact laws_markParty.mono _ _ _ _)
   | (with_reducible exact laws_toIntS.mono _ _)
   | (with_reducible exact spec_PartsParty.mono _ _)
   | (with_reducible exact LeO.refl _)
   | (with_reducible exact LeO.none _)
   | (with_reducible refine LeO.ite ?_ ?_)
   | (with_reducible refine LeO.bind ?_ (fun _=>?_))
   | exact ih0 _ _ _ _ _ _ _ _ _
   | exact ih1 _ _ _ _ _ _ _
   | exact ih2 _ _ _ _
   | exact impl_PartsParty.mono _ _
   | exact laws_eqIntS.mono _ _ _
   | exact laws_eqParty.mono _ _ _ _ _
   | exact laws_heldParty.mono _ _ _ _
   | exact laws_markIntS.mono _ _ _
   | exact laws_markParty.mono _ _ _ _
   | exact laws_toIntS.mono _ _
   | exact spec_PartsParty.mono _ _
   | exact LeO.none _
   | refine LeO.ite ?_ ?_
   | refine LeO.bind ?_ (fun _=>?_)
  ·intro y0 y1 y2 y3 y4 y5 y6
   unfold laws_FnExactPartsParty.j1
   repeat' first
   | (with_reducible exact ih0 _ _ _ _ _ _ _ _ _)
   | (with_reducible exact ih1 _ _ _ _ _ _ _)
   | (with_reducible exact ih2 _ _ _ _)
   | (with_reducible exact impl_PartsParty.mono _ _)
   | (with_reducible exact laws_eqIntS.mono _ _ _)
   | (with_reducible exact laws_eqParty.mono _ _ _ _ _)
   | (with_reducible exact laws_heldParty.mono _ _ _ _)
   | (with_reducible exact laws_markIntS.mono _ _ _)
   | (with_reducible exact laws_markParty.mono _ _ _ _)
   | (with_reducible exact laws_toIntS.mono _ _)
   | (with_reducible exact spec_PartsParty.mono _ _)
   | (with_reducible exact LeO.refl _)
   | (with_reducible exact LeO.none _)
   | (with_reducible refine LeO.ite ?_ ?_)
   | (with_reducible refine LeO.bind ?_ (fun _=>?_))
   | exact ih0 _ _ _ _ _ _ _ _ _
   | exact ih1 _ _ _ _ _ _ _
   | exact ih2 _ _ _ _
   | exact impl_PartsParty.mono _ _
   | exact laws_eqIntS.mono _ _ _
   | exact laws_eqParty.mono _ _ _ _ _
   | exact laws_heldParty.mono _ _ _ _
   | exact laws_markIntS.mono _ _ _
   | exact laws_markParty.mono _ _ _ _
   | exact laws_toIntS.mono _ _
   | exact spec_PartsParty.mono _ _
   | exact LeO.none _
   | refine LeO.ite ?_ ?_
   | refine LeO.bind ?_ (fun _=>?_)
  ·intro y0 y1 y2 y3
   unfold laws_FnExactPartsParty.j2
   repeat' first
   | (with_reducible exact ih0 _ _ _ _ _ _ _ _ _)
   | (with_reducible exact ih1 _ _ _ _ _ _ _)
   | (with_reducible exact ih2 _ _ _ _)
   | (with_reducible exact impl_PartsParty.mono _ _)
   | (with_reducible exact laws_eqIntS.mono _ _ _)
   | (with_reducible exact laws_eqParty.mono _ _ _ _ _)
   | (with_reducible exact laws_heldParty.mono _ _ _ _)
   | (with_reducible exact laws_markIntS.mono _ _ _)
   | (with_reducible exact laws_markParty.mono _ _ _ _)
   | (with_reducible exact laws_toIntS.mono _ _)
   | (with_reducible exact spec_PartsParty.mono _ _)
   | (with_reducible exact LeO.refl _)
   | (with_reducible exact LeO.none _)
   | (with_reducible refine LeO.ite ?_ ?_)
   | (with_reducible refine LeO.bind ?_ (fun _=>?_))
   | exact ih0 _ _ _ _ _ _ _ _ _
   | exact ih1 _ _ _ _ _ _ _
   | exact ih2 _ _ _ _
   | exact impl_PartsParty.mono _ _
   | exact laws_eqIntS.mono _ _ _
   | exact laws_eqParty.mono _ _ _ _ _
   | exact laws_heldParty.mono _ _ _ _
   | exact laws_markIntS.mono _ _ _
   | exact laws_markParty.mono _ _ _ _
   | exact laws_toIntS.mono _ _
   | exact spec_PartsParty.mono _ _
   | exact LeO.none _
   | refine LeO.ite ?_ ?_
   | refine LeO.bind ?_ (fun _=>?_)
theorem laws_FnExactPartsParty.mono:∀ a0 k,LeO (laws_FnExactPartsParty.f k a0) (laws_FnExactPartsParty.f (k+1) a0):=by
 intro a0 k
 obtain ⟨ih0,ih1,ih2⟩:=laws_FnExactPartsParty.mono_l k
 unfold laws_FnExactPartsParty.f
 repeat' first
   | (with_reducible exact ih0 _ _ _ _ _ _ _ _ _)
   | (with_reducible exact ih1 _ _ _ _ _ _ _)
   | (with_reducible exact ih2 _ _ _ _)
   | (with_reducible exact impl_PartsParty.mono _ _)
   | (with_reducible exact laws_eqIntS.mono _ _ _)
   | (with_reducible exact laws_eqParty.mono _ _ _ _ _)
   | (with_reducible exact laws_heldParty.mono _ _ _ _)
   | (with_reducible exact laws_markIntS.mono _ _ _)
   | (with_reducible exact laws_markParty.mono _ _ _ _)
   | (with_reducible exact laws_toIntS.mono _ _)
   | (with_reducible exact spec_PartsParty.mono _ _)
   | (with_reducible exact LeO.refl _)
   | (with_reducible exact LeO.none _)
   | (with_reducible refine LeO.ite ?_ ?_)
   | (with_reducible refine LeO.bind ?_ (fun _=>?_))
   | exact ih0 _ _ _ _ _ _ _ _ _
   | exact ih1 _ _ _ _ _ _ _
   | exact ih2 _ _ _ _
   | exact impl_PartsParty.mono _ _
   | exact laws_eqIntS.mono _ _ _
   | exact laws_eqParty.mono _ _ _ _ _
   | exact laws_heldParty.mono _ _ _ _
   | exact laws_markIntS.mono _ _ _
   | exact laws_markParty.mono _ _ _ _
   | exact laws_toIntS.mono _ _
   | exact spec_PartsParty.mono _ _
   | exact LeO.none _
   | refine LeO.ite ?_ ?_
   | refine LeO.bind ?_ (fun _=>?_)
set_option maxHeartbeats 8000000 in
set_option maxRecDepth 100000 in
theorem laws_FnExactPartsParty.calls (k:Nat) (A0:Option Addr) (c0:Nat) (l0:List Int) (r:Bool) (w:World) (hr0:Kd.C (Kd.int .i64) w A0 l0.length l0) (hc0:l0.length≤c0) (h:laws_FnExactPartsParty.f k l0=some r) :
  Calls Try.prog 14 #[.slice A0 l0.length c0] w fun e w'=>e=.returned (.bool r)∧Below w.heap.size w w':=by
 have hu29:=Try.underlying29
 have HR0:=Aside0.mk hr0
 have HC0:=Aside0.mk hc0
 clear hr0 hc0
 have HB:=Aside0.mk (Below.refl w.heap.size w)
 have H:(if (l0.length:Int) > 1048576 then (some true) else ((laws_toIntS.f k l0).bind fun t773=>((spec_PartsParty.f k t773).bind fun bt776=>((laws_toIntS.f k l0).bind fun t782=>((impl_PartsParty.f k t782).bind fun bt785=>((laws_eqParty.f k bt785.1 bt785.2.1 bt776.1 bt776.2.1).bind fun t791=>(if t791=true then (laws_FnExactPartsParty.j0 k l0 bt776.2.2 t782 bt785.2.2 (bt785.2.2 != bt776.2.2) bt776.1 bt776.2.1 bt785.1 bt785.2.1) else (laws_FnExactPartsParty.j0 k l0 bt776.2.2 t782 bt785.2.2 true bt776.1 bt776.2.1 bt785.1 bt785.2.1))))))))=some r:=h
 clear h
 by_cases c2:(l0.length:Int) > 1048576
 ·rw [if_pos c2] at H
  have c2b0:decide (1048576 < (l0.length:Int))=true:=decide_eq_true c2
  have c2b1:decide (1048576 < l0.length)=true:=decide_eq_true (by omega)
  clear c2
  obtain rfl:=Option.some.inj H
  go_enter Try.func14,Try.ntmps14
  go_wp2
  go_ret
  exact ⟨by first | rfl | (simp [errW_none,errW_some] <;> rfl) | (simp [*,errW_none,errW_some] <;> rfl),by repeat first | exact HB.out | apply zz2 | apply zz0 | apply zz1⟩
 ·rw [if_neg c2] at H
  have c2b0:decide (1048576 < (l0.length:Int))=false:=decide_eq_false c2
  have c2b1:decide (1048576 < l0.length)=false:=decide_eq_false (by omega)
  clear c2
  replace H:=zz30.mp H
  obtain ⟨t773,A30,H⟩:=H
  replace H:((spec_PartsParty.f k t773).bind fun bt776=>((laws_toIntS.f k l0).bind fun t782=>((impl_PartsParty.f k t782).bind fun bt785=>((laws_eqParty.f k bt785.1 bt785.2.1 bt776.1 bt776.2.1).bind fun t791=>(if t791=true then (laws_FnExactPartsParty.j0 k l0 bt776.2.2 t782 bt785.2.2 (bt785.2.2 != bt776.2.2) bt776.1 bt776.2.1 bt785.1 bt785.2.1) else (laws_FnExactPartsParty.j0 k l0 bt776.2.2 t782 bt785.2.2 true bt776.1 bt776.2.1 bt785.1 bt785.2.1))))))=some r:=H
  have A3:=Aside0.mk A30
  clear A30
  replace H:=zz30.mp H
  obtain ⟨⟨t776,t777,t780⟩,A40,H⟩:=H
  replace H:((laws_toIntS.f k l0).bind fun t782=>((impl_PartsParty.f k t782).bind fun bt785=>((laws_eqParty.f k bt785.1 bt785.2.1 t776 t777).bind fun t791=>(if t791=true then (laws_FnExactPartsParty.j0 k l0 t780 t782 bt785.2.2 (bt785.2.2 != t780) t776 t777 bt785.1 bt785.2.1) else (laws_FnExactPartsParty.j0 k l0 t780 t782 bt785.2.2 true t776 t777 bt785.1 bt785.2.1)))))=some r:=H
  have A4:=Aside0.mk A40
  clear A40
  replace H:=zz30.mp H
  obtain ⟨t782,A50,H⟩:=H
  replace H:((impl_PartsParty.f k t782).bind fun bt785=>((laws_eqParty.f k bt785.1 bt785.2.1 t776 t777).bind fun t791=>(if t791=true then (laws_FnExactPartsParty.j0 k l0 t780 t782 bt785.2.2 (bt785.2.2 != t780) t776 t777 bt785.1 bt785.2.1) else (laws_FnExactPartsParty.j0 k l0 t780 t782 bt785.2.2 true t776 t777 bt785.1 bt785.2.1))))=some r:=H
  have A5:=Aside0.mk A50
  clear A50
  replace H:=zz30.mp H
  obtain ⟨⟨t785,t786,t789⟩,A60,H⟩:=H
  replace H:((laws_eqParty.f k t785 t786 t776 t777).bind fun t791=>(if t791=true then (laws_FnExactPartsParty.j0 k l0 t780 t782 t789 (t789 != t780) t776 t777 t785 t786) else (laws_FnExactPartsParty.j0 k l0 t780 t782 t789 true t776 t777 t785 t786)))=some r:=H
  have A6:=Aside0.mk A60
  clear A60
  have HC7:=Aside0.mk H
  clear H
  go_enter Try.func14,Try.ntmps14
  go_upto_region 6 with (first | ((with_reducible refine gate_callee (f:=31) rfl ?_);refine goesL_ (some 18) rfl rfl Try.func31 (by kernel_rfl) rfl #[.slice A0 l0.length c0] rfl (by (try simp only [zz26,zz27,zz28]);first | done | rfl | (simp only [zz24,zz25];rfl) | (simp only [zz25];congr;(try simp only [decide_eq_true_eq] at *);omega)) ?_;(with_reducible refine (laws_toIntS.calls k _ _ l0 t773 _ ?side1 ?side2 A3.out).mono ?_);(case side1=>repeat (first | exact HR0.out | (with_reducible refine zz18 ?_ _) | (with_reducible refine zz19 ?_ _) | (with_reducible refine zz20 ?_)));(case side2=>exact HC0.out);rintro e w8 ⟨v774,rfl,ho0,hb⟩;refine ⟨_,rfl,?_⟩;have n0_:=Aside0.mk (Kd.R_lower ho0 (zz5 (by repeat first | exact HB.out | apply zz2 | apply zz0 | apply zz1)));have n1_:=Aside0.mk (zz4 (by repeat first | exact HB.out | apply zz2 | apply zz0 | apply zz1) hb);clear HB;have HO775:=n0_;have HB:=n1_;clear n0_ n1_;(try clear hb);(try clear hb2);(try clear hk);(try clear hi);(try clear ho0);obtain ⟨Ao9,co9,eo9⟩:=Kd.R_slice HO775.out;subst eo9) | ((with_reducible refine gate_callee (f:=46) rfl ?_);refine goesL_ (some 19) rfl rfl Try.func46 (by kernel_rfl) rfl #[.slice Ao9 t773.length co9] rfl (by (try simp only [zz26,zz27,zz28]);first | done | rfl | (simp only [zz24,zz25];rfl) | (simp only [zz25];congr;(try simp only [decide_eq_true_eq] at *);omega)) ?_;(with_reducible refine (spec_PartsParty.calls k _ _ t773 t776 t777 t780 _ ?side1 ?side2 A4.out).mono ?_);(case side1=>repeat (first | exact (Kd.R_reads' HO775.out).2.2 | (with_reducible refine zz18 ?_ _) | (with_reducible refine zz19 ?_ _) | (with_reducible refine zz20 ?_)));(case side2=>exact (Kd.R_reads' HO775.out).2.1);rintro e w10 ⟨v778,rfl,ho0,hb⟩;refine ⟨_,rfl,?_⟩;have n0_:=Aside0.mk (Kd.R_below (by (with_reducible repeat (first | apply zz12 | apply zz13 | apply zz14));exact HO775.out) hb);have n1_:=Aside0.mk (Kd.R_lower ho0 (zz5 (by repeat first | exact HB.out | apply zz2 | apply zz0 | apply zz1)));have n2_:=Aside0.mk (zz4 (by repeat first | exact HB.out | apply zz2 | apply zz0 | apply zz1) hb);clear HO775;clear HB;have HO775:=n0_;have HO779:=n1_;have HB:=n2_;clear n0_ n1_ n2_;(try clear hb);(try clear hb2);(try clear hk);(try clear hi);(try clear ho0)) | ((with_reducible refine gate_dst (N:=3) rfl ?_);refine box_event ?hg (N:=3) ?hd (cs:=#[.int .i64 0,.slice none 0 0]) (t:=29) ?hr ?_;(case hd=>rfl);(case hg=>rfl);(case hr=>first | (go_simp;done) | (go_simp;rfl));intro gb781 hg w11 hbox hb;have n0_:=Aside0.mk (Kd.R_below (by (with_reducible repeat (first | apply zz12 | apply zz13 | apply zz14));exact HO775.out) hb);have n1_:=Aside0.mk (Kd.R_below (by (with_reducible repeat (first | apply zz12 | apply zz13 | apply zz14));exact HO779.out) hb);have n2_:=Aside0.mk (zz4 (by repeat first | exact HB.out | apply zz2 | apply zz0 | apply zz1) hb);have n3_:=Aside0.mk (hbox);have n4_:=Aside0.mk ((by rw [hg];exact (zz5 (by repeat first | exact HB.out | apply zz2 | apply zz0 | apply zz1)):w.heap.size≤gb781));have n5_:=Aside0.mk ((by rw [hg];exact (zz5 (by repeat first | exact HB.out | apply zz2 | apply zz0 | apply zz1)):w.heap.size≤gb781));clear HO775;clear HO779;clear HB;have HO775:=n0_;have HO779:=n1_;have HB:=n2_;have BK781:=n3_;have GW781:=n4_;have GE781:=n5_;clear n0_ n1_ n2_ n3_ n4_ n5_;clear hb hbox hg;have hcz12_0:w11.cell? ⟨gb781,0,none⟩=some (.int .i64 0):=(zz9 BK781.out 0).trans rfl;have hcz12_1:w11.cell? ⟨gb781,1,none⟩=some (.slice none 0 0):=(zz9 BK781.out 1).trans rfl;have hfz12_0:=zz10 BK781.out 0;have hfz12_1:=zz10 BK781.out 1;obtain ⟨Ao13,co13,eo13⟩:=Kd.R_slice HO779.out;subst eo13) | ((with_reducible refine gate_callee (f:=31) rfl ?_);refine goesL_ (some 23) rfl rfl Try.func31 (by kernel_rfl) rfl #[.slice A0 l0.length c0] rfl (by (try simp only [zz26,zz27,zz28]);first | done | rfl | (simp only [zz24,zz25];rfl) | (simp only [zz25];congr;(try simp only [decide_eq_true_eq] at *);omega)) ?_;(with_reducible refine (laws_toIntS.calls k _ _ l0 t782 _ ?side1 ?side2 A5.out).mono ?_);(case side1=>exact Kd.C_below HR0.out (by repeat first | exact HB.out | apply zz2 | apply zz0 | apply zz1 | refine zz3 ?_ GE781.out));(case side2=>exact HC0.out);rintro e w14 ⟨v783,rfl,ho0,hb⟩;refine ⟨_,rfl,?_⟩;have n0_:=Aside0.mk (Kd.R_elder' (by (with_reducible repeat (first | apply zz12 | apply zz13 | apply zz14));exact (Kd.R_mono (Kd.R_far (p:=⟨gb781,1,none⟩) (Kd.R_far (p:=⟨gb781,0,none⟩) (Kd.R_types HO775.out BK781.out (by decide)) (fun _ hk=>hk.2) (.int .i64 t776)) (fun _ hk=>hk.2) (.slice Ao13 t777.length co13)) (fun _ h_=>h_.1))) (Kd.R_base ho0) hb);have n1_:=Aside0.mk (Kd.R_below (by (with_reducible repeat (first | apply zz12 | apply zz13 | apply zz14));exact (Kd.R_mono (Kd.R_far (p:=⟨gb781,1,none⟩) (Kd.R_far (p:=⟨gb781,0,none⟩) (Kd.R_types HO779.out BK781.out (by decide)) (fun _ hk=>hk.2) (.int .i64 t776)) (fun _ hk=>hk.2) (.slice Ao13 t777.length co13)) (fun _ h_=>h_.1))) hb);have n2_:=Aside0.mk (Kd.R_lower (Kd.R_new' ho0 (Kd.R_lt (by (with_reducible repeat (first | apply zz12 | apply zz13 | apply zz14));exact (Kd.R_mono (Kd.R_far (p:=⟨gb781,1,none⟩) (Kd.R_far (p:=⟨gb781,0,none⟩) (Kd.R_types HO775.out BK781.out (by decide)) (fun _ hk=>hk.2) (.int .i64 t776)) (fun _ hk=>hk.2) (.slice Ao13 t777.length co13)) (fun _ h_=>h_.1))))) (zz5 (by repeat first | exact HB.out | apply zz2 | apply zz0 | apply zz1 | refine zz3 ?_ GE781.out)));have n3_:=Aside0.mk (zz11 (g:=gb781) (o:=.cells #[.int .i64 t776,.slice Ao13 t777.length co13] 29 (0,0)) (by (with_reducible repeat (first | refine zz6 ?_ _ | refine zz7 ?_ | refine zz8 ?_ _));refine blk_put (cs:=#[.int .i64 t776,.slice none 0 0]) ?_ 1 _ rfl;(with_reducible repeat (first | refine zz6 ?_ _ | refine zz7 ?_ | refine zz8 ?_ _));refine blk_put (cs:=#[.int .i64 0,.slice none 0 0]) ?_ 0 _ rfl;(with_reducible repeat (first | refine zz6 ?_ _ | refine zz7 ?_ | refine zz8 ?_ _));exact BK781.out) hb);have n4_:=Aside0.mk (zz4 (by repeat first | exact HB.out | apply zz2 | apply zz0 | apply zz1 | refine zz3 ?_ GE781.out) hb);clear HO775;clear HO779;clear BK781;clear HB;have HO775:=n0_;have HO779:=n1_;have HO784:=n2_;have BK781:=n3_;have HB:=n4_;clear n0_ n1_ n2_ n3_ n4_;(try clear hb);(try clear hb2);(try clear hk);(try clear hi);(try clear ho0);obtain ⟨Ao15,co15,eo15⟩:=Kd.R_slice HO784.out;subst eo15) | ((with_reducible refine gate_callee (f:=47) rfl ?_);refine goesL_ (some 26) rfl rfl Try.func47 (by kernel_rfl) rfl #[.slice Ao15 t782.length co15] rfl (by (try simp only [zz26,zz27,zz28]);first | done | rfl | (simp only [zz24,zz25];rfl) | (simp only [zz25];congr;(try simp only [decide_eq_true_eq] at *);omega)) ?_;(with_reducible refine (impl_PartsParty.calls k _ _ t782 t785 t786 t789 _ ?side1 ?side2 A6.out).mono ?_);(case side1=>repeat (first | exact (Kd.R_reads' HO784.out).2.2 | (with_reducible refine zz18 ?_ _) | (with_reducible refine zz19 ?_ _) | (with_reducible refine zz20 ?_)));(case side2=>exact (Kd.R_reads' HO784.out).2.1);rintro e w16 ⟨v787,rfl,ho0,hb⟩;refine ⟨_,rfl,?_⟩;have n0_:=Aside0.mk (Kd.R_below (by (with_reducible repeat (first | apply zz12 | apply zz13 | apply zz14));exact HO775.out) hb);have n1_:=Aside0.mk (Kd.R_elder' (by (with_reducible repeat (first | apply zz12 | apply zz13 | apply zz14));exact HO779.out) (Kd.R_base ho0) hb);have n2_:=Aside0.mk (Kd.R_below (by (with_reducible repeat (first | apply zz12 | apply zz13 | apply zz14));exact HO784.out) hb);have n3_:=Aside0.mk (Kd.R_lower (Kd.R_new' ho0 (Kd.R_lt (by (with_reducible repeat (first | apply zz12 | apply zz13 | apply zz14));exact HO779.out))) (zz5 (by repeat first | exact HB.out | apply zz2 | apply zz0 | apply zz1 | refine zz3 ?_ GE781.out)));have n4_:=Aside0.mk (zz11 (g:=gb781) (o:=.cells #[.int .i64 t776,.slice Ao13 t777.length co13] 29 (0,0)) (by (with_reducible repeat (first | refine zz6 ?_ _ | refine zz7 ?_ | refine zz8 ?_ _));exact BK781.out) hb);have n5_:=Aside0.mk (zz4 (by repeat first | exact HB.out | apply zz2 | apply zz0 | apply zz1 | refine zz3 ?_ GE781.out) hb);clear HO775;clear HO779;clear HO784;clear BK781;clear HB;have HO775:=n0_;have HO779:=n1_;have HO784:=n2_;have HO788:=n3_;have BK781:=n4_;have HB:=n5_;clear n0_ n1_ n2_ n3_ n4_ n5_;(try clear hb);(try clear hb2);(try clear hk);(try clear hi);(try clear ho0)) | ((with_reducible refine gate_dst (N:=6) rfl ?_);refine box_event ?hg (N:=6) ?hd (cs:=#[.int .i64 0,.slice none 0 0]) (t:=29) ?hr ?_;(case hd=>rfl);(case hg=>rfl);(case hr=>first | (go_simp;done) | (go_simp;rfl));intro gb790 hg w17 hbox hb;have n0_:=Aside0.mk (Kd.R_below (by (with_reducible repeat (first | apply zz12 | apply zz13 | apply zz14));exact HO775.out) hb);have n1_:=Aside0.mk (Kd.R_below (by (with_reducible repeat (first | apply zz12 | apply zz13 | apply zz14));exact HO779.out) hb);have n2_:=Aside0.mk (Kd.R_below (by (with_reducible repeat (first | apply zz12 | apply zz13 | apply zz14));exact HO784.out) hb);have n3_:=Aside0.mk (Kd.R_below (by (with_reducible repeat (first | apply zz12 | apply zz13 | apply zz14));exact HO788.out) hb);have n4_:=Aside0.mk (zz11 (g:=gb781) (o:=.cells #[.int .i64 t776,.slice Ao13 t777.length co13] 29 (0,0)) (by (with_reducible repeat (first | refine zz6 ?_ _ | refine zz7 ?_ | refine zz8 ?_ _));exact BK781.out) hb);have n5_:=Aside0.mk (zz4 (by repeat first | exact HB.out | apply zz2 | apply zz0 | apply zz1 | refine zz3 ?_ GE781.out) hb);have n6_:=Aside0.mk (hbox);have n7_:=Aside0.mk ((by rw [hg];exact (zz5 (by repeat first | exact HB.out | apply zz2 | apply zz0 | apply zz1 | refine zz3 ?_ GE781.out)):w.heap.size≤gb790));have n8_:=Aside0.mk ((by rw [hg];exact (zz5 (by repeat first | exact HB.out | apply zz2 | apply zz0 | apply zz1 | refine zz3 ?_ GE781.out)):w.heap.size≤gb790));have n9_:=Aside0.mk ((by rw [hg];exact Nat.ne_of_lt (blk_lt (g:=gb781) (o:=.cells #[.int .i64 t776,.slice Ao13 t777.length co13] 29 (0,0)) (by (with_reducible repeat (first | refine zz6 ?_ _ | refine zz7 ?_ | refine zz8 ?_ _));exact BK781.out)):gb781 ≠ gb790));have n10_:=Aside0.mk ((by rw [hg];exact Nat.ne_of_gt (blk_lt (g:=gb781) (o:=.cells #[.int .i64 t776,.slice Ao13 t777.length co13] 29 (0,0)) (by (with_reducible repeat (first | refine zz6 ?_ _ | refine zz7 ?_ | refine zz8 ?_ _));exact BK781.out)):gb790 ≠ gb781));clear HO775;clear HO779;clear HO784;clear HO788;clear BK781;clear HB;have HO775:=n0_;have HO779:=n1_;have HO784:=n2_;have HO788:=n3_;have BK781:=n4_;have HB:=n5_;have BK790:=n6_;have GW790:=n7_;have GE790:=n8_;have NB781_790:=n9_;have NB790_781:=n10_;clear n0_ n1_ n2_ n3_ n4_ n5_ n6_ n7_ n8_ n9_ n10_;clear hb hbox hg;have hnb18:=NB790_781.out;have hnc18:=NB781_790.out;have hcz19_0:w17.cell? ⟨gb790,0,none⟩=some (.int .i64 0):=(zz9 BK790.out 0).trans rfl;have hcz19_1:w17.cell? ⟨gb790,1,none⟩=some (.slice none 0 0):=(zz9 BK790.out 1).trans rfl;have hfz19_0:=zz10 BK790.out 0;have hfz19_1:=zz10 BK790.out 1;obtain ⟨Ao20,co20,eo20⟩:=Kd.R_slice HO788.out;subst eo20))
  (try simp only [Act.put,zz21,zz22,zz23])
  go_cut [37] (fun v37 wc=>∃ (kq:Nat) (x37_6:Bool),v37=.bool x37_6∧Aside0 (laws_FnExactPartsParty.j0 kq l0 t780 t782 t789 x37_6 t776 t777 t785 t786=some r)∧Aside0 (kq≤k)∧Aside0 (Kd.R (Kd.int .i64) 3 wc w.heap.size (fun _=>True) (.slice Ao15 t782.length co15) t782)∧Aside0 (Kd.R k61 61 wc w.heap.size (fun k_=>some k_ ≠ ((.slice Ao20 t786.length co20):Value).ownBlock) (.slice Ao13 t777.length co13) t777)∧Aside0 (Kd.R k61 61 wc w.heap.size (fun k_=>some k_ ≠ ((.slice Ao13 t777.length co13):Value).ownBlock) (.slice Ao20 t786.length co20) t786)∧Aside0 (wc.heap[gb781]?=some (.cells #[.int .i64 t776,(.slice Ao13 t777.length co13)] 29 (0,0)))∧Aside0 (wc.heap[gb790]?=some (.cells #[.int .i64 t785,(.slice Ao20 t786.length co20)] 29 (0,0)))∧Aside0 (Below w.heap.size w wc))
  case first =>
   have H:=HC7.out
   clear HC7
   replace H:=zz30.mp H
   obtain ⟨t791,A210,H⟩:=H
   replace H:(if t791=true then (laws_FnExactPartsParty.j0 k l0 t780 t782 t789 (t789 != t780) t776 t777 t785 t786) else (laws_FnExactPartsParty.j0 k l0 t780 t782 t789 true t776 t777 t785 t786))=some r:=H
   have A21:=Aside0.mk A210
   clear A210
   by_cases c22:t791=true
   ·subst c22
    have H1:(laws_FnExactPartsParty.j0 k l0 t780 t782 t789 (t789 != t780) t776 t777 t785 t786)=some r:=by rw [if_pos rfl] at H;exact H
    clear H
    have H:=H1
    clear H1
    have H':=Aside0.mk H
    clear H
    have hnb23:=NB790_781.out
    have hnc23:=NB781_790.out
    have hcz24_0:w17.cell? ⟨gb790,0,none⟩=some (.int .i64 0):=(zz9 BK790.out 0).trans rfl
    have hcz24_1:w17.cell? ⟨gb790,1,none⟩=some (.slice none 0 0):=(zz9 BK790.out 1).trans rfl
    have hfz24_0:=zz10 BK790.out 0
    have hfz24_1:=zz10 BK790.out 1
    have hcz25_0:w17.cell? ⟨gb781,0,none⟩=some (.int .i64 t776):=(zz9 BK781.out 0).trans rfl
    have hcz25_1:w17.cell? ⟨gb781,1,none⟩=some (.slice Ao13 t777.length co13):=(zz9 BK781.out 1).trans rfl
    have hfz25_0:=zz10 BK781.out 0
    have hfz25_1:=zz10 BK781.out 1
    go_wp2_with (first | ((with_reducible refine gate_callee (f:=19) rfl ?_);refine goesL_ (some 31) rfl rfl Try.func19 (by kernel_rfl) rfl #[.agg #[.int .i64 t785,.slice Ao20 t786.length co20],.agg #[.int .i64 t776,.slice Ao13 t777.length co13]] rfl (by (try simp only [zz26,zz27,zz28]);first | done | rfl | (simp only [zz24,zz25];rfl) | (simp only [zz25];congr;(try simp only [decide_eq_true_eq] at *);omega)) ?_;(with_reducible refine (laws_eqParty.calls k t785 _ _ t786 t776 _ _ t777 true _ ?side1 ?side2 ?side3 ?side4 A21.out).mono ?_);(case side1=>refine (Kd.R_reads' (e:=61) (base:=w.heap.size) (ok:=fun k_=>(True∧some k_ ≠ (.slice Ao13 t777.length co13:Value).ownBlock)) (n:=t786.length) (c:=co20) ?_).2.2;exact (by (with_reducible repeat (first | apply zz12 | apply zz13 | apply zz14));exact (Kd.R_mono (Kd.R_far (p:=⟨gb790,1,none⟩) (Kd.R_far (p:=⟨gb790,0,none⟩) (Kd.R_types HO788.out BK790.out (by decide)) (fun _ hk=>hk.2) (.int .i64 t785)) (fun _ hk=>hk.2) (.slice Ao20 t786.length co20)) (fun _ h_=>h_.1))));(case side2=>exact (Kd.R_reads' HO788.out).2.1);(case side3=>refine (Kd.R_reads' (e:=61) (base:=w.heap.size) (ok:=fun k_=>(True∧some k_ ≠ (.slice Ao20 t786.length co20:Value).ownBlock)) (n:=t777.length) (c:=co13) ?_).2.2;exact (by (with_reducible repeat (first | apply zz12 | apply zz13 | apply zz14));exact (Kd.R_mono (Kd.R_far (p:=⟨gb790,1,none⟩) (Kd.R_far (p:=⟨gb790,0,none⟩) (Kd.R_types HO779.out BK790.out (by decide)) (fun _ hk=>hk.2) (.int .i64 t785)) (fun _ hk=>hk.2) (.slice Ao20 t786.length co20)) (fun _ h_=>h_.1))));(case side4=>exact (Kd.R_reads' HO779.out).2.1);rintro e w26 ⟨rfl,hb⟩;refine ⟨_,rfl,?_⟩;have n0_:=Aside0.mk (Kd.R_below (by (with_reducible repeat (first | apply zz12 | apply zz13 | apply zz14));exact (Kd.R_mono (Kd.R_far (p:=⟨gb790,1,none⟩) (Kd.R_far (p:=⟨gb790,0,none⟩) (Kd.R_types HO775.out BK790.out (by decide)) (fun _ hk=>hk.2) (.int .i64 t785)) (fun _ hk=>hk.2) (.slice Ao20 t786.length co20)) (fun _ h_=>h_.1))) hb);have n1_:=Aside0.mk (Kd.R_below (by (with_reducible repeat (first | apply zz12 | apply zz13 | apply zz14));exact (Kd.R_mono (Kd.R_far (p:=⟨gb790,1,none⟩) (Kd.R_far (p:=⟨gb790,0,none⟩) (Kd.R_types HO779.out BK790.out (by decide)) (fun _ hk=>hk.2) (.int .i64 t785)) (fun _ hk=>hk.2) (.slice Ao20 t786.length co20)) (fun _ h_=>h_.1))) hb);have n2_:=Aside0.mk (Kd.R_below (by (with_reducible repeat (first | apply zz12 | apply zz13 | apply zz14));exact (Kd.R_mono (Kd.R_far (p:=⟨gb790,1,none⟩) (Kd.R_far (p:=⟨gb790,0,none⟩) (Kd.R_types HO784.out BK790.out (by decide)) (fun _ hk=>hk.2) (.int .i64 t785)) (fun _ hk=>hk.2) (.slice Ao20 t786.length co20)) (fun _ h_=>h_.1))) hb);have n3_:=Aside0.mk (Kd.R_below (by (with_reducible repeat (first | apply zz12 | apply zz13 | apply zz14));exact (Kd.R_mono (Kd.R_far (p:=⟨gb790,1,none⟩) (Kd.R_far (p:=⟨gb790,0,none⟩) (Kd.R_types HO788.out BK790.out (by decide)) (fun _ hk=>hk.2) (.int .i64 t785)) (fun _ hk=>hk.2) (.slice Ao20 t786.length co20)) (fun _ h_=>h_.1))) hb);have n4_:=Aside0.mk (zz11 (g:=gb781) (o:=.cells #[.int .i64 t776,.slice Ao13 t777.length co13] 29 (0,0)) (by (with_reducible repeat (first | refine zz6 ?_ _ | refine zz7 ?_ | refine zz8 ?_ _));refine blk_far ?_ NB781_790.out _;(with_reducible repeat (first | refine zz6 ?_ _ | refine zz7 ?_ | refine zz8 ?_ _));refine blk_far ?_ NB781_790.out _;(with_reducible repeat (first | refine zz6 ?_ _ | refine zz7 ?_ | refine zz8 ?_ _));exact BK781.out) hb);have n5_:=Aside0.mk (zz11 (g:=gb790) (o:=.cells #[.int .i64 t785,.slice Ao20 t786.length co20] 29 (0,0)) (by (with_reducible repeat (first | refine zz6 ?_ _ | refine zz7 ?_ | refine zz8 ?_ _));refine blk_put (cs:=#[.int .i64 t785,.slice none 0 0]) ?_ 1 _ rfl;(with_reducible repeat (first | refine zz6 ?_ _ | refine zz7 ?_ | refine zz8 ?_ _));refine blk_put (cs:=#[.int .i64 0,.slice none 0 0]) ?_ 0 _ rfl;(with_reducible repeat (first | refine zz6 ?_ _ | refine zz7 ?_ | refine zz8 ?_ _));exact BK790.out) hb);have n6_:=Aside0.mk (zz4 (by repeat first | exact HB.out | apply zz2 | apply zz0 | apply zz1 | refine zz3 ?_ GE781.out | refine zz3 ?_ GE790.out) hb);clear HO775;clear HO779;clear HO784;clear HO788;clear BK781;clear BK790;clear HB;have HO775:=n0_;have HO779:=n1_;have HO784:=n2_;have HO788:=n3_;have BK781:=n4_;have BK790:=n5_;have HB:=n6_;clear n0_ n1_ n2_ n3_ n4_ n5_ n6_;(try clear hb);(try clear hb2);(try clear hk);(try clear hi)))
    go_meet
    case rel=>exact ⟨_,((t789 != t780)),(by first | rfl | (simp;done) | (simp [*];done)),H',⟨by first | omega | exact Nat.le_refl _⟩,⟨by (with_reducible repeat (first | apply zz12 | apply zz13 | apply zz14));exact Kd.R_mono HO784.out (fun _ hk=>trivial)⟩,⟨by (with_reducible repeat (first | apply zz12 | apply zz13 | apply zz14));exact Kd.R_mono HO779.out (fun _ hk=>hk.2)⟩,⟨by (with_reducible repeat (first | apply zz12 | apply zz13 | apply zz14));exact Kd.R_mono HO788.out (fun _ hk=>hk.2)⟩,⟨by (with_reducible repeat (first | refine zz6 ?_ _ | refine zz7 ?_ | refine zz8 ?_ _));exact BK781.out⟩,⟨by (with_reducible repeat (first | refine zz6 ?_ _ | refine zz7 ?_ | refine zz8 ?_ _));exact BK790.out⟩,⟨by repeat first | exact HB.out | apply zz2 | apply zz0 | apply zz1 | refine zz3 ?_ GE781.out | refine zz3 ?_ GE790.out⟩⟩
   ·replace c22:=Bool.eq_false_iff.mpr c22
    subst c22
    have H1:(laws_FnExactPartsParty.j0 k l0 t780 t782 t789 true t776 t777 t785 t786)=some r:=by rw [if_neg (show ¬ (false=true) by decide)] at H;exact H
    clear H
    have H:=H1
    clear H1
    have H':=Aside0.mk H
    clear H
    have hnb27:=NB790_781.out
    have hnc27:=NB781_790.out
    have hcz28_0:w17.cell? ⟨gb790,0,none⟩=some (.int .i64 0):=(zz9 BK790.out 0).trans rfl
    have hcz28_1:w17.cell? ⟨gb790,1,none⟩=some (.slice none 0 0):=(zz9 BK790.out 1).trans rfl
    have hfz28_0:=zz10 BK790.out 0
    have hfz28_1:=zz10 BK790.out 1
    have hcz29_0:w17.cell? ⟨gb781,0,none⟩=some (.int .i64 t776):=(zz9 BK781.out 0).trans rfl
    have hcz29_1:w17.cell? ⟨gb781,1,none⟩=some (.slice Ao13 t777.length co13):=(zz9 BK781.out 1).trans rfl
    have hfz29_0:=zz10 BK781.out 0
    have hfz29_1:=zz10 BK781.out 1
    go_wp2_with (first | ((with_reducible refine gate_callee (f:=19) rfl ?_);refine goesL_ (some 31) rfl rfl Try.func19 (by kernel_rfl) rfl #[.agg #[.int .i64 t785,.slice Ao20 t786.length co20],.agg #[.int .i64 t776,.slice Ao13 t777.length co13]] rfl (by (try simp only [zz26,zz27,zz28]);first | done | rfl | (simp only [zz24,zz25];rfl) | (simp only [zz25];congr;(try simp only [decide_eq_true_eq] at *);omega)) ?_;(with_reducible refine (laws_eqParty.calls k t785 _ _ t786 t776 _ _ t777 false _ ?side1 ?side2 ?side3 ?side4 A21.out).mono ?_);(case side1=>refine (Kd.R_reads' (e:=61) (base:=w.heap.size) (ok:=fun k_=>(True∧some k_ ≠ (.slice Ao13 t777.length co13:Value).ownBlock)) (n:=t786.length) (c:=co20) ?_).2.2;exact (by (with_reducible repeat (first | apply zz12 | apply zz13 | apply zz14));exact (Kd.R_mono (Kd.R_far (p:=⟨gb790,1,none⟩) (Kd.R_far (p:=⟨gb790,0,none⟩) (Kd.R_types HO788.out BK790.out (by decide)) (fun _ hk=>hk.2) (.int .i64 t785)) (fun _ hk=>hk.2) (.slice Ao20 t786.length co20)) (fun _ h_=>h_.1))));(case side2=>exact (Kd.R_reads' HO788.out).2.1);(case side3=>refine (Kd.R_reads' (e:=61) (base:=w.heap.size) (ok:=fun k_=>(True∧some k_ ≠ (.slice Ao20 t786.length co20:Value).ownBlock)) (n:=t777.length) (c:=co13) ?_).2.2;exact (by (with_reducible repeat (first | apply zz12 | apply zz13 | apply zz14));exact (Kd.R_mono (Kd.R_far (p:=⟨gb790,1,none⟩) (Kd.R_far (p:=⟨gb790,0,none⟩) (Kd.R_types HO779.out BK790.out (by decide)) (fun _ hk=>hk.2) (.int .i64 t785)) (fun _ hk=>hk.2) (.slice Ao20 t786.length co20)) (fun _ h_=>h_.1))));(case side4=>exact (Kd.R_reads' HO779.out).2.1);rintro e w30 ⟨rfl,hb⟩;refine ⟨_,rfl,?_⟩;have n0_:=Aside0.mk (Kd.R_below (by (with_reducible repeat (first | apply zz12 | apply zz13 | apply zz14));exact (Kd.R_mono (Kd.R_far (p:=⟨gb790,1,none⟩) (Kd.R_far (p:=⟨gb790,0,none⟩) (Kd.R_types HO775.out BK790.out (by decide)) (fun _ hk=>hk.2) (.int .i64 t785)) (fun _ hk=>hk.2) (.slice Ao20 t786.length co20)) (fun _ h_=>h_.1))) hb);have n1_:=Aside0.mk (Kd.R_below (by (with_reducible repeat (first | apply zz12 | apply zz13 | apply zz14));exact (Kd.R_mono (Kd.R_far (p:=⟨gb790,1,none⟩) (Kd.R_far (p:=⟨gb790,0,none⟩) (Kd.R_types HO779.out BK790.out (by decide)) (fun _ hk=>hk.2) (.int .i64 t785)) (fun _ hk=>hk.2) (.slice Ao20 t786.length co20)) (fun _ h_=>h_.1))) hb);have n2_:=Aside0.mk (Kd.R_below (by (with_reducible repeat (first | apply zz12 | apply zz13 | apply zz14));exact (Kd.R_mono (Kd.R_far (p:=⟨gb790,1,none⟩) (Kd.R_far (p:=⟨gb790,0,none⟩) (Kd.R_types HO784.out BK790.out (by decide)) (fun _ hk=>hk.2) (.int .i64 t785)) (fun _ hk=>hk.2) (.slice Ao20 t786.length co20)) (fun _ h_=>h_.1))) hb);have n3_:=Aside0.mk (Kd.R_below (by (with_reducible repeat (first | apply zz12 | apply zz13 | apply zz14));exact (Kd.R_mono (Kd.R_far (p:=⟨gb790,1,none⟩) (Kd.R_far (p:=⟨gb790,0,none⟩) (Kd.R_types HO788.out BK790.out (by decide)) (fun _ hk=>hk.2) (.int .i64 t785)) (fun _ hk=>hk.2) (.slice Ao20 t786.length co20)) (fun _ h_=>h_.1))) hb);have n4_:=Aside0.mk (zz11 (g:=gb781) (o:=.cells #[.int .i64 t776,.slice Ao13 t777.length co13] 29 (0,0)) (by (with_reducible repeat (first | refine zz6 ?_ _ | refine zz7 ?_ | refine zz8 ?_ _));refine blk_far ?_ NB781_790.out _;(with_reducible repeat (first | refine zz6 ?_ _ | refine zz7 ?_ | refine zz8 ?_ _));refine blk_far ?_ NB781_790.out _;(with_reducible repeat (first | refine zz6 ?_ _ | refine zz7 ?_ | refine zz8 ?_ _));exact BK781.out) hb);have n5_:=Aside0.mk (zz11 (g:=gb790) (o:=.cells #[.int .i64 t785,.slice Ao20 t786.length co20] 29 (0,0)) (by (with_reducible repeat (first | refine zz6 ?_ _ | refine zz7 ?_ | refine zz8 ?_ _));refine blk_put (cs:=#[.int .i64 t785,.slice none 0 0]) ?_ 1 _ rfl;(with_reducible repeat (first | refine zz6 ?_ _ | refine zz7 ?_ | refine zz8 ?_ _));refine blk_put (cs:=#[.int .i64 0,.slice none 0 0]) ?_ 0 _ rfl;(with_reducible repeat (first | refine zz6 ?_ _ | refine zz7 ?_ | refine zz8 ?_ _));exact BK790.out) hb);have n6_:=Aside0.mk (zz4 (by repeat first | exact HB.out | apply zz2 | apply zz0 | apply zz1 | refine zz3 ?_ GE781.out | refine zz3 ?_ GE790.out) hb);clear HO775;clear HO779;clear HO784;clear HO788;clear BK781;clear BK790;clear HB;have HO775:=n0_;have HO779:=n1_;have HO784:=n2_;have HO788:=n3_;have BK781:=n4_;have BK790:=n5_;have HB:=n6_;clear n0_ n1_ n2_ n3_ n4_ n5_ n6_;(try clear hb);(try clear hb2);(try clear hk);(try clear hi)))
    go_meet
    case rel=>exact ⟨_,(true),(by first | rfl | (simp;done) | (simp [*];done)),H',⟨by first | omega | exact Nat.le_refl _⟩,⟨by (with_reducible repeat (first | apply zz12 | apply zz13 | apply zz14));exact Kd.R_mono HO784.out (fun _ hk=>trivial)⟩,⟨by (with_reducible repeat (first | apply zz12 | apply zz13 | apply zz14));exact Kd.R_mono HO779.out (fun _ hk=>hk.2)⟩,⟨by (with_reducible repeat (first | apply zz12 | apply zz13 | apply zz14));exact Kd.R_mono HO788.out (fun _ hk=>hk.2)⟩,⟨by (with_reducible repeat (first | refine zz6 ?_ _ | refine zz7 ?_ | refine zz8 ?_ _));exact BK781.out⟩,⟨by (with_reducible repeat (first | refine zz6 ?_ _ | refine zz7 ?_ | refine zz8 ?_ _));exact BK790.out⟩,⟨by repeat first | exact HB.out | apply zz2 | apply zz0 | apply zz1 | refine zz3 ?_ GE781.out | refine zz3 ?_ GE790.out⟩⟩
  case rest =>
   clear HC7
   try clear c1
   try clear c2
   try clear c2b0
   try clear c2b1
   try clear p2
   try clear c3
   try clear c4
   try clear c14
   try clear c18
   try clear c19
   try clear c22
   try clear c23
   try clear c27
   try clear hcz12_0
   try clear hcz12_1
   try clear hcz19_0
   try clear hcz19_1
   try clear hcz24_0
   try clear hcz24_1
   try clear hcz25_0
   try clear hcz25_1
   try clear hcz28_0
   try clear hcz28_1
   try clear hcz29_0
   try clear hcz29_1
   try clear hfz12_0
   try clear hfz12_1
   try clear hfz19_0
   try clear hfz19_1
   try clear hfz24_0
   try clear hfz24_1
   try clear hfz25_0
   try clear hfz25_1
   try clear hfz28_0
   try clear hfz28_1
   try clear hfz29_0
   try clear hfz29_1
   obtain ⟨kq,x37_6,rfl,HA,HJ6,HO_5,HO_782001,HO_791001,BK781,BK790,HB⟩:=hcut
   cases kq with
   | zero=>exact absurd HA.out (by simp [laws_FnExactPartsParty.j0])
   | succ kj6 =>
    have H:=HA.out
    clear HA
    simp only [laws_FnExactPartsParty.j0] at H
    by_cases c31:x37_6=true
    ·subst c31
     have H1:(some false)=some r:=by rw [if_pos rfl] at H;exact H
     clear H
     have H:=H1
     clear H1
     obtain rfl:=Option.some.inj H
     go_wp2
     go_ret
     exact ⟨by first | rfl | (simp [errW_none,errW_some] <;> rfl) | (simp [*,errW_none,errW_some] <;> rfl),by repeat first | exact HB.out | apply zz2 | apply zz0 | apply zz1 | refine zz3 ?_ GE781.out | refine zz3 ?_ GE790.out⟩
    ·replace c31:=Bool.eq_false_iff.mpr c31
     subst c31
     have H1:((laws_toIntS.f kj6 l0).bind fun t792=>((laws_eqIntS.f kj6 t782 t792).bind fun t795=>(if t795=true then ((laws_markIntS.f kj6 t782 1).bind fun bt796=>(if bt796.1 < 0 then (laws_FnExactPartsParty.j1 kj6 l0 t780 true t776 t777 t785 t786) else ((laws_eqParty.f kj6 t785 t786 t776 t777).bind fun t798=>(if t798=true then (laws_FnExactPartsParty.j1 kj6 l0 t780 (t789 != t780) t776 t777 t785 t786) else (laws_FnExactPartsParty.j1 kj6 l0 t780 true t776 t777 t785 t786))))) else (some false))))=some r:=by rw [if_neg (show ¬ (false=true) by decide)] at H;exact H
     clear H
     have H:=H1
     clear H1
     replace H:=zz30.mp H
     obtain ⟨t792,A320,H⟩:=H
     replace H:((laws_eqIntS.f kj6 t782 t792).bind fun t795=>(if t795=true then ((laws_markIntS.f kj6 t782 1).bind fun bt796=>(if bt796.1 < 0 then (laws_FnExactPartsParty.j1 kj6 l0 t780 true t776 t777 t785 t786) else ((laws_eqParty.f kj6 t785 t786 t776 t777).bind fun t798=>(if t798=true then (laws_FnExactPartsParty.j1 kj6 l0 t780 (t789 != t780) t776 t777 t785 t786) else (laws_FnExactPartsParty.j1 kj6 l0 t780 true t776 t777 t785 t786))))) else (some false)))=some r:=H
     have A32:=Aside0.mk A320
     clear A320
     replace H:=zz30.mp H
     obtain ⟨t795,A330,H⟩:=H
     replace H:(if t795=true then ((laws_markIntS.f kj6 t782 1).bind fun bt796=>(if bt796.1 < 0 then (laws_FnExactPartsParty.j1 kj6 l0 t780 true t776 t777 t785 t786) else ((laws_eqParty.f kj6 t785 t786 t776 t777).bind fun t798=>(if t798=true then (laws_FnExactPartsParty.j1 kj6 l0 t780 (t789 != t780) t776 t777 t785 t786) else (laws_FnExactPartsParty.j1 kj6 l0 t780 true t776 t777 t785 t786))))) else (some false))=some r:=H
     have A33:=Aside0.mk A330
     clear A330
     by_cases c34:t795=true
     ·subst c34
      have H1:((laws_markIntS.f kj6 t782 1).bind fun bt796=>(if bt796.1 < 0 then (laws_FnExactPartsParty.j1 kj6 l0 t780 true t776 t777 t785 t786) else ((laws_eqParty.f kj6 t785 t786 t776 t777).bind fun t798=>(if t798=true then (laws_FnExactPartsParty.j1 kj6 l0 t780 (t789 != t780) t776 t777 t785 t786) else (laws_FnExactPartsParty.j1 kj6 l0 t780 true t776 t777 t785 t786)))))=some r:=by rw [if_pos rfl] at H;exact H
      clear H
      have H:=H1
      clear H1
      replace H:=zz30.mp H
      obtain ⟨⟨t796,t797⟩,A350,H⟩:=H
      replace H:(if t796 < 0 then (laws_FnExactPartsParty.j1 kj6 l0 t780 true t776 t777 t785 t786) else ((laws_eqParty.f kj6 t785 t786 t776 t777).bind fun t798=>(if t798=true then (laws_FnExactPartsParty.j1 kj6 l0 t780 (t789 != t780) t776 t777 t785 t786) else (laws_FnExactPartsParty.j1 kj6 l0 t780 true t776 t777 t785 t786))))=some r:=H
      have A35:=Aside0.mk A350
      clear A350
      have HC36:=Aside0.mk H
      clear H
      go_upto_region 12 with (first | ((with_reducible refine gate_callee (f:=31) rfl ?_);refine goesL_ (some 40) rfl rfl Try.func31 (by kernel_rfl) rfl #[.slice A0 l0.length c0] rfl (by (try simp only [zz26,zz27,zz28]);first | done | rfl | (simp only [zz24,zz25];rfl) | (simp only [zz25];congr;(try simp only [decide_eq_true_eq] at *);omega)) ?_;(with_reducible refine (laws_toIntS.calls kj6 _ _ l0 t792 _ ?side1 ?side2 A32.out).mono ?_);(case side1=>repeat (first | exact (Kd.C_below HR0.out HB.out) | (with_reducible refine zz18 ?_ _) | (with_reducible refine zz19 ?_ _) | (with_reducible refine zz20 ?_)));(case side2=>exact HC0.out);rintro e w37 ⟨v793,rfl,ho0,hb⟩;refine ⟨_,rfl,?_⟩;have n0_:=Aside0.mk (Kd.R_elder' (by (with_reducible repeat (first | apply zz12 | apply zz13 | apply zz14));exact HO_5.out) (Kd.R_base ho0) hb);have n1_:=Aside0.mk (Kd.R_below (by (with_reducible repeat (first | apply zz12 | apply zz13 | apply zz14));exact HO_782001.out) hb);have n2_:=Aside0.mk (Kd.R_below (by (with_reducible repeat (first | apply zz12 | apply zz13 | apply zz14));exact HO_791001.out) hb);have n3_:=Aside0.mk (Kd.R_lower (Kd.R_new' ho0 (Kd.R_lt (by (with_reducible repeat (first | apply zz12 | apply zz13 | apply zz14));exact HO_5.out))) (zz5 (by repeat first | exact HB.out | apply zz2 | apply zz0 | apply zz1 | refine zz3 ?_ GE781.out | refine zz3 ?_ GE790.out)));have n4_:=Aside0.mk (zz11 (g:=gb781) (o:=.cells #[.int .i64 t776,.slice Ao13 t777.length co13] 29 (0,0)) (by (with_reducible repeat (first | refine zz6 ?_ _ | refine zz7 ?_ | refine zz8 ?_ _));exact BK781.out) hb);have n5_:=Aside0.mk (zz11 (g:=gb790) (o:=.cells #[.int .i64 t785,.slice Ao20 t786.length co20] 29 (0,0)) (by (with_reducible repeat (first | refine zz6 ?_ _ | refine zz7 ?_ | refine zz8 ?_ _));exact BK790.out) hb);have n6_:=Aside0.mk (zz4 (by repeat first | exact HB.out | apply zz2 | apply zz0 | apply zz1 | refine zz3 ?_ GE781.out | refine zz3 ?_ GE790.out) hb);clear HO_5;clear HO_782001;clear HO_791001;clear BK781;clear BK790;clear HB;have HO_5:=n0_;have HO_782001:=n1_;have HO_791001:=n2_;have HO794:=n3_;have BK781:=n4_;have BK790:=n5_;have HB:=n6_;clear n0_ n1_ n2_ n3_ n4_ n5_ n6_;(try clear hb);(try clear hb2);(try clear hk);(try clear hi);(try clear ho0);obtain ⟨Ao38,co38,eo38⟩:=Kd.R_slice HO794.out;subst eo38) | ((with_reducible refine gate_callee (f:=33) rfl ?_);refine goesL_ (some 41) rfl rfl Try.func33 (by kernel_rfl) rfl #[.slice Ao15 t782.length co15,.slice Ao38 t792.length co38] rfl (by (try simp only [zz26,zz27,zz28]);first | done | rfl | (simp only [zz24,zz25];rfl) | (simp only [zz25];congr;(try simp only [decide_eq_true_eq] at *);omega)) ?_;(with_reducible refine (laws_eqIntS.calls kj6 _ _ t782 _ _ t792 true _ ?side1 ?side2 ?side3 ?side4 A33.out).mono ?_);(case side1=>repeat (first | exact (Kd.R_reads' HO_5.out).2.2 | (with_reducible refine zz18 ?_ _) | (with_reducible refine zz19 ?_ _) | (with_reducible refine zz20 ?_)));(case side2=>exact (Kd.R_reads' HO_5.out).2.1);(case side3=>repeat (first | exact (Kd.R_reads' HO794.out).2.2 | (with_reducible refine zz18 ?_ _) | (with_reducible refine zz19 ?_ _) | (with_reducible refine zz20 ?_)));(case side4=>exact (Kd.R_reads' HO794.out).2.1);rintro e w' ⟨rfl,⟨nd,rfl⟩⟩;refine ⟨_,rfl,?_⟩) | ((with_reducible refine gate_callee (f:=40) rfl ?_);refine goesL_ (some 45) rfl rfl Try.func40 (by kernel_rfl) rfl #[.slice Ao15 t782.length co15,.int .i64 1] rfl (by (try simp only [zz26,zz27,zz28]);first | done | rfl | (simp only [zz24,zz25];rfl) | (simp only [zz25];congr;(try simp only [decide_eq_true_eq] at *);omega)) ?_;(with_reducible refine (laws_markIntS.calls kj6 (fun k_=>some k_=(.slice Ao15 t782.length co15:Value).ownBlock) (.slice Ao15 t782.length co15) t782 1 t796 t797 w _ ?side1 ?side2 A35.out).mono ?_);(case side1=>repeat first | exact HB.out | apply zz2 | apply zz0 | apply zz1 | refine zz3 ?_ GE781.out | refine zz3 ?_ GE790.out);(case side2=>exact Kd.R_tight rfl HO_5.out);rintro e w39 ⟨rfl,hy0,hb,hkp⟩;refine ⟨_,rfl,?_⟩;have n0_:=Aside0.mk (Kd.R_reok rfl hy0 (fun k_ e_=>HO_5.out.1 k_ e_));have n1_:=Aside0.mk (Kd.R_mono (ok':=fun k_=>some k_ ≠ (.slice Ao20 t786.length co20:Value).ownBlock) (Kd.R_keptB ((Kd.R_apart' HO_782001.out (Kd.R_typed HO_5.out) (by decide))) hkp (fun k_ hk_ hs_=>(hk_.2) hs_)) (fun k_ hk_=>hk_.1.1));have n2_:=Aside0.mk (Kd.R_mono (ok':=fun k_=>some k_ ≠ (.slice Ao13 t777.length co13:Value).ownBlock) (Kd.R_keptB ((Kd.R_apart' HO_791001.out (Kd.R_typed HO_5.out) (by decide))) hkp (fun k_ hk_ hs_=>(hk_.2) hs_)) (fun k_ hk_=>hk_.1.1));have n3_:=Aside0.mk (blk_kept (by (with_reducible repeat (first | refine zz6 ?_ _ | refine zz7 ?_ | refine zz8 ?_ _));exact BK781.out) hkp (fun hs_=>(fun e_=>(Kd.R_ne HO_5.out BK781.out (by decide)) e_) hs_));have n4_:=Aside0.mk (blk_kept (by (with_reducible repeat (first | refine zz6 ?_ _ | refine zz7 ?_ | refine zz8 ?_ _));exact BK790.out) hkp (fun hs_=>(fun e_=>(Kd.R_ne HO_5.out BK790.out (by decide)) e_) hs_));have n5_:=Aside0.mk (Kd.R_mono (ok':=fun k_=>some k_ ≠ (.slice Ao15 t782.length co15:Value).ownBlock) (Kd.R_keptB (HO794.out) hkp (fun k_ hk_ hs_=>(hk_.2) hs_)) (fun k_ hk_=>hk_.1.2));have n6_:=Aside0.mk (hb);clear HO_5;clear HO_782001;clear HO_791001;clear BK781;clear BK790;clear HO794;clear HB;have HO_5:=n0_;have HO_782001:=n1_;have HO_791001:=n2_;have BK781:=n3_;have BK790:=n4_;have HO794:=n5_;have HB:=n6_;clear n0_ n1_ n2_ n3_ n4_ n5_ n6_;(try clear hb);(try clear hkp);(try clear hy0)))
      (try simp only [Act.put,zz21,zz22,zz23])
      go_cut [58] (fun v58 wc=>∃ (kq:Nat) (x58_35:Bool),v58=.bool x58_35∧Aside0 (laws_FnExactPartsParty.j1 kq l0 t780 x58_35 t776 t777 t785 t786=some r)∧Aside0 (kq≤kj6)∧Aside0 (Kd.R k61 61 wc w.heap.size (fun k_=>some k_ ≠ ((.slice Ao20 t786.length co20):Value).ownBlock) (.slice Ao13 t777.length co13) t777)∧Aside0 (Kd.R k61 61 wc w.heap.size (fun k_=>some k_ ≠ ((.slice Ao13 t777.length co13):Value).ownBlock) (.slice Ao20 t786.length co20) t786)∧Aside0 (wc.heap[gb781]?=some (.cells #[.int .i64 t776,(.slice Ao13 t777.length co13)] 29 (0,0)))∧Aside0 (wc.heap[gb790]?=some (.cells #[.int .i64 t785,(.slice Ao20 t786.length co20)] 29 (0,0)))∧Aside0 (Below w.heap.size w wc))
      case first =>
       have H:=HC36.out
       clear HC36
       by_cases c40:t796 < 0
       ·rw [if_pos c40] at H
        have c40b0:decide (t796 < 0)=true:=decide_eq_true c40
        clear c40
        (first | rw [c40b0] | (simp only [i64_w,i32_w];rw [c40b0]) | skip)
        have H':=Aside0.mk H
        clear H
        go_wp2
        go_meet
        case rel=>exact ⟨_,(true),(by first | rfl | (simp;done) | (simp [*];done)),H',⟨by have:=HJ6.out;first | omega | exact Nat.le_refl _⟩,⟨by (with_reducible repeat (first | apply zz12 | apply zz13 | apply zz14));exact HO_782001.out⟩,⟨by (with_reducible repeat (first | apply zz12 | apply zz13 | apply zz14));exact HO_791001.out⟩,⟨by (with_reducible repeat (first | refine zz6 ?_ _ | refine zz7 ?_ | refine zz8 ?_ _));exact BK781.out⟩,⟨by (with_reducible repeat (first | refine zz6 ?_ _ | refine zz7 ?_ | refine zz8 ?_ _));exact BK790.out⟩,⟨by repeat first | exact HB.out | apply zz2 | apply zz0 | apply zz1 | refine zz3 ?_ GE781.out | refine zz3 ?_ GE790.out⟩⟩
       ·rw [if_neg c40] at H
        have c40b0:decide (t796 < 0)=false:=decide_eq_false c40
        clear c40
        (first | rw [c40b0] | (simp only [i64_w,i32_w];rw [c40b0]) | skip)
        replace H:=zz30.mp H
        obtain ⟨t798,A410,H⟩:=H
        replace H:(if t798=true then (laws_FnExactPartsParty.j1 kj6 l0 t780 (t789 != t780) t776 t777 t785 t786) else (laws_FnExactPartsParty.j1 kj6 l0 t780 true t776 t777 t785 t786))=some r:=H
        have A41:=Aside0.mk A410
        clear A410
        by_cases c42:t798=true
        ·subst c42
         have H1:(laws_FnExactPartsParty.j1 kj6 l0 t780 (t789 != t780) t776 t777 t785 t786)=some r:=by rw [if_pos rfl] at H;exact H
         clear H
         have H:=H1
         clear H1
         have H':=Aside0.mk H
         clear H
         have hnb43:=NB790_781.out
         have hnc43:=NB781_790.out
         have hcz44_0:w39.cell? ⟨gb790,0,none⟩=some (.int .i64 t785):=(zz9 BK790.out 0).trans rfl
         have hcz44_1:w39.cell? ⟨gb790,1,none⟩=some (.slice Ao20 t786.length co20):=(zz9 BK790.out 1).trans rfl
         have hfz44_0:=zz10 BK790.out 0
         have hfz44_1:=zz10 BK790.out 1
         have hcz45_0:w39.cell? ⟨gb781,0,none⟩=some (.int .i64 t776):=(zz9 BK781.out 0).trans rfl
         have hcz45_1:w39.cell? ⟨gb781,1,none⟩=some (.slice Ao13 t777.length co13):=(zz9 BK781.out 1).trans rfl
         have hfz45_0:=zz10 BK781.out 0
         have hfz45_1:=zz10 BK781.out 1
         go_wp2_with (first | (go_at_call 19;(with_reducible refine (laws_eqParty.calls kj6 t785 _ _ t786 t776 _ _ t777 true _ ?side1 ?side2 ?side3 ?side4 A41.out).mono ?_);(case side1=>repeat (first | exact (Kd.R_reads' HO_791001.out).2.2 | (with_reducible refine zz18 ?_ _) | (with_reducible refine zz19 ?_ _) | (with_reducible refine zz20 ?_)));(case side2=>exact (Kd.R_reads' HO_791001.out).2.1);(case side3=>repeat (first | exact (Kd.R_reads' HO_782001.out).2.2 | (with_reducible refine zz18 ?_ _) | (with_reducible refine zz19 ?_ _) | (with_reducible refine zz20 ?_)));(case side4=>exact (Kd.R_reads' HO_782001.out).2.1);rintro e w46 ⟨rfl,hb⟩;have n0_:=Aside0.mk (Kd.R_below (by (with_reducible repeat (first | apply zz12 | apply zz13 | apply zz14));exact HO_5.out) hb);have n1_:=Aside0.mk (Kd.R_below (by (with_reducible repeat (first | apply zz12 | apply zz13 | apply zz14));exact HO_782001.out) hb);have n2_:=Aside0.mk (Kd.R_below (by (with_reducible repeat (first | apply zz12 | apply zz13 | apply zz14));exact HO_791001.out) hb);have n3_:=Aside0.mk (Kd.R_below (by (with_reducible repeat (first | apply zz12 | apply zz13 | apply zz14));exact HO794.out) hb);have n4_:=Aside0.mk (zz11 (g:=gb781) (o:=.cells #[.int .i64 t776,.slice Ao13 t777.length co13] 29 (0,0)) (by (with_reducible repeat (first | refine zz6 ?_ _ | refine zz7 ?_ | refine zz8 ?_ _));exact BK781.out) hb);have n5_:=Aside0.mk (zz11 (g:=gb790) (o:=.cells #[.int .i64 t785,.slice Ao20 t786.length co20] 29 (0,0)) (by (with_reducible repeat (first | refine zz6 ?_ _ | refine zz7 ?_ | refine zz8 ?_ _));exact BK790.out) hb);have n6_:=Aside0.mk (zz4 (by repeat first | exact HB.out | apply zz2 | apply zz0 | apply zz1 | refine zz3 ?_ GE781.out | refine zz3 ?_ GE790.out) hb);clear HO_5;clear HO_782001;clear HO_791001;clear HO794;clear BK781;clear BK790;clear HB;have HO_5:=n0_;have HO_782001:=n1_;have HO_791001:=n2_;have HO794:=n3_;have BK781:=n4_;have BK790:=n5_;have HB:=n6_;clear n0_ n1_ n2_ n3_ n4_ n5_ n6_;(try clear hb);(try clear hb2);(try clear hk);(try clear hi)))
         go_meet
         case rel=>exact ⟨_,((t789 != t780)),(by first | rfl | (simp;done) | (simp [*];done)),H',⟨by have:=HJ6.out;first | omega | exact Nat.le_refl _⟩,⟨by (with_reducible repeat (first | apply zz12 | apply zz13 | apply zz14));exact HO_782001.out⟩,⟨by (with_reducible repeat (first | apply zz12 | apply zz13 | apply zz14));exact HO_791001.out⟩,⟨by (with_reducible repeat (first | refine zz6 ?_ _ | refine zz7 ?_ | refine zz8 ?_ _));exact BK781.out⟩,⟨by (with_reducible repeat (first | refine zz6 ?_ _ | refine zz7 ?_ | refine zz8 ?_ _));exact BK790.out⟩,⟨by repeat first | exact HB.out | apply zz2 | apply zz0 | apply zz1 | refine zz3 ?_ GE781.out | refine zz3 ?_ GE790.out⟩⟩
        ·replace c42:=Bool.eq_false_iff.mpr c42
         subst c42
         have H1:(laws_FnExactPartsParty.j1 kj6 l0 t780 true t776 t777 t785 t786)=some r:=by rw [if_neg (show ¬ (false=true) by decide)] at H;exact H
         clear H
         have H:=H1
         clear H1
         have H':=Aside0.mk H
         clear H
         have hnb47:=NB790_781.out
         have hnc47:=NB781_790.out
         have hcz48_0:w39.cell? ⟨gb790,0,none⟩=some (.int .i64 t785):=(zz9 BK790.out 0).trans rfl
         have hcz48_1:w39.cell? ⟨gb790,1,none⟩=some (.slice Ao20 t786.length co20):=(zz9 BK790.out 1).trans rfl
         have hfz48_0:=zz10 BK790.out 0
         have hfz48_1:=zz10 BK790.out 1
         have hcz49_0:w39.cell? ⟨gb781,0,none⟩=some (.int .i64 t776):=(zz9 BK781.out 0).trans rfl
         have hcz49_1:w39.cell? ⟨gb781,1,none⟩=some (.slice Ao13 t777.length co13):=(zz9 BK781.out 1).trans rfl
         have hfz49_0:=zz10 BK781.out 0
         have hfz49_1:=zz10 BK781.out 1
         go_wp2_with (first | (go_at_call 19;(with_reducible refine (laws_eqParty.calls kj6 t785 _ _ t786 t776 _ _ t777 false _ ?side1 ?side2 ?side3 ?side4 A41.out).mono ?_);(case side1=>repeat (first | exact (Kd.R_reads' HO_791001.out).2.2 | (with_reducible refine zz18 ?_ _) | (with_reducible refine zz19 ?_ _) | (with_reducible refine zz20 ?_)));(case side2=>exact (Kd.R_reads' HO_791001.out).2.1);(case side3=>repeat (first | exact (Kd.R_reads' HO_782001.out).2.2 | (with_reducible refine zz18 ?_ _) | (with_reducible refine zz19 ?_ _) | (with_reducible refine zz20 ?_)));(case side4=>exact (Kd.R_reads' HO_782001.out).2.1);rintro e w50 ⟨rfl,hb⟩;have n0_:=Aside0.mk (Kd.R_below (by (with_reducible repeat (first | apply zz12 | apply zz13 | apply zz14));exact HO_5.out) hb);have n1_:=Aside0.mk (Kd.R_below (by (with_reducible repeat (first | apply zz12 | apply zz13 | apply zz14));exact HO_782001.out) hb);have n2_:=Aside0.mk (Kd.R_below (by (with_reducible repeat (first | apply zz12 | apply zz13 | apply zz14));exact HO_791001.out) hb);have n3_:=Aside0.mk (Kd.R_below (by (with_reducible repeat (first | apply zz12 | apply zz13 | apply zz14));exact HO794.out) hb);have n4_:=Aside0.mk (zz11 (g:=gb781) (o:=.cells #[.int .i64 t776,.slice Ao13 t777.length co13] 29 (0,0)) (by (with_reducible repeat (first | refine zz6 ?_ _ | refine zz7 ?_ | refine zz8 ?_ _));exact BK781.out) hb);have n5_:=Aside0.mk (zz11 (g:=gb790) (o:=.cells #[.int .i64 t785,.slice Ao20 t786.length co20] 29 (0,0)) (by (with_reducible repeat (first | refine zz6 ?_ _ | refine zz7 ?_ | refine zz8 ?_ _));exact BK790.out) hb);have n6_:=Aside0.mk (zz4 (by repeat first | exact HB.out | apply zz2 | apply zz0 | apply zz1 | refine zz3 ?_ GE781.out | refine zz3 ?_ GE790.out) hb);clear HO_5;clear HO_782001;clear HO_791001;clear HO794;clear BK781;clear BK790;clear HB;have HO_5:=n0_;have HO_782001:=n1_;have HO_791001:=n2_;have HO794:=n3_;have BK781:=n4_;have BK790:=n5_;have HB:=n6_;clear n0_ n1_ n2_ n3_ n4_ n5_ n6_;(try clear hb);(try clear hb2);(try clear hk);(try clear hi)))
         go_meet
         case rel=>exact ⟨_,(true),(by first | rfl | (simp;done) | (simp [*];done)),H',⟨by have:=HJ6.out;first | omega | exact Nat.le_refl _⟩,⟨by (with_reducible repeat (first | apply zz12 | apply zz13 | apply zz14));exact HO_782001.out⟩,⟨by (with_reducible repeat (first | apply zz12 | apply zz13 | apply zz14));exact HO_791001.out⟩,⟨by (with_reducible repeat (first | refine zz6 ?_ _ | refine zz7 ?_ | refine zz8 ?_ _));exact BK781.out⟩,⟨by (with_reducible repeat (first | refine zz6 ?_ _ | refine zz7 ?_ | refine zz8 ?_ _));exact BK790.out⟩,⟨by repeat first | exact HB.out | apply zz2 | apply zz0 | apply zz1 | refine zz3 ?_ GE781.out | refine zz3 ?_ GE790.out⟩⟩
      case rest =>
       clear HC36
       try clear c1
       try clear c2
       try clear c2b0
       try clear c2b1
       try clear p2
       try clear c3
       try clear c4
       try clear c14
       try clear c18
       try clear c19
       try clear c22
       try clear c23
       try clear c27
       try clear c31
       try clear c33
       try clear c34
       try clear c40
       try clear c40b0
       try clear c42
       try clear c43
       try clear c46
       try clear c47
       try clear hcz12_0
       try clear hcz12_1
       try clear hcz19_0
       try clear hcz19_1
       try clear hcz24_0
       try clear hcz24_1
       try clear hcz25_0
       try clear hcz25_1
       try clear hcz28_0
       try clear hcz28_1
       try clear hcz29_0
       try clear hcz29_1
       try clear hcz44_0
       try clear hcz44_1
       try clear hcz45_0
       try clear hcz45_1
       try clear hcz48_0
       try clear hcz48_1
       try clear hcz49_0
       try clear hcz49_1
       try clear hfz12_0
       try clear hfz12_1
       try clear hfz19_0
       try clear hfz19_1
       try clear hfz24_0
       try clear hfz24_1
       try clear hfz25_0
       try clear hfz25_1
       try clear hfz28_0
       try clear hfz28_1
       try clear hfz29_0
       try clear hfz29_1
       try clear hfz44_0
       try clear hfz44_1
       try clear hfz45_0
       try clear hfz45_1
       try clear hfz48_0
       try clear hfz48_1
       try clear hfz49_0
       try clear hfz49_1
       try clear p2
       obtain ⟨kq,x58_35,rfl,HA,HJ35,HO_782001,HO_791001,BK781,BK790,HB⟩:=hcut
       cases kq with
       | zero=>exact absurd HA.out (by simp [laws_FnExactPartsParty.j1])
       | succ kj35 =>
        have H:=HA.out
        clear HA
        simp only [laws_FnExactPartsParty.j1] at H
        by_cases c51:x58_35=true
        ·subst c51
         have H1:(some false)=some r:=by rw [if_pos rfl] at H;exact H
         clear H
         have H:=H1
         clear H1
         obtain rfl:=Option.some.inj H
         go_wp2
         go_ret
         exact ⟨by first | rfl | (simp [errW_none,errW_some] <;> rfl) | (simp [*,errW_none,errW_some] <;> rfl),by repeat first | exact HB.out | apply zz2 | apply zz0 | apply zz1 | refine zz3 ?_ GE781.out | refine zz3 ?_ GE790.out⟩
        ·replace c51:=Bool.eq_false_iff.mpr c51
         subst c51
         have H1:((laws_markParty.f kj35 t785 t786 1).bind fun bt799=>((laws_heldParty.f kj35 t785 bt799.2 1).bind fun t801=>(if t801 < 0 then (some false) else (if t801=bt799.1 then ((laws_toIntS.f kj35 l0).bind fun t802=>((impl_PartsParty.f kj35 t802).bind fun bt805=>((laws_eqParty.f kj35 bt805.1 bt805.2.1 t776 t777).bind fun t811=>(if t811=true then (laws_FnExactPartsParty.j2 kj35 bt799.1 (bt805.2.2 != t780) t785 bt799.2) else (laws_FnExactPartsParty.j2 kj35 bt799.1 true t785 bt799.2))))) else (some false)))))=some r:=by rw [if_neg (show ¬ (false=true) by decide)] at H;exact H
         clear H
         have H:=H1
         clear H1
         replace H:=zz30.mp H
         obtain ⟨⟨t799,t800⟩,A520,H⟩:=H
         replace H:((laws_heldParty.f kj35 t785 t800 1).bind fun t801=>(if t801 < 0 then (some false) else (if t801=t799 then ((laws_toIntS.f kj35 l0).bind fun t802=>((impl_PartsParty.f kj35 t802).bind fun bt805=>((laws_eqParty.f kj35 bt805.1 bt805.2.1 t776 t777).bind fun t811=>(if t811=true then (laws_FnExactPartsParty.j2 kj35 t799 (bt805.2.2 != t780) t785 t800) else (laws_FnExactPartsParty.j2 kj35 t799 true t785 t800))))) else (some false))))=some r:=H
         have A52:=Aside0.mk A520
         clear A520
         replace H:=zz30.mp H
         obtain ⟨t801,A530,H⟩:=H
         replace H:(if t801 < 0 then (some false) else (if t801=t799 then ((laws_toIntS.f kj35 l0).bind fun t802=>((impl_PartsParty.f kj35 t802).bind fun bt805=>((laws_eqParty.f kj35 bt805.1 bt805.2.1 t776 t777).bind fun t811=>(if t811=true then (laws_FnExactPartsParty.j2 kj35 t799 (bt805.2.2 != t780) t785 t800) else (laws_FnExactPartsParty.j2 kj35 t799 true t785 t800))))) else (some false)))=some r:=H
         have A53:=Aside0.mk A530
         clear A530
         by_cases c54:t801 < 0
         ·rw [if_pos c54] at H
          have c54b0:decide (t801 < 0)=true:=decide_eq_true c54
          clear c54
          obtain rfl:=Option.some.inj H
          have hnb55:=NB790_781.out
          have hnc55:=NB781_790.out
          have hcz56_0:wc.cell? ⟨gb790,0,none⟩=some (.int .i64 t785):=(zz9 BK790.out 0).trans rfl
          have hcz56_1:wc.cell? ⟨gb790,1,none⟩=some (.slice Ao20 t786.length co20):=(zz9 BK790.out 1).trans rfl
          have hfz56_0:=zz10 BK790.out 0
          have hfz56_1:=zz10 BK790.out 1
          go_wp2_with (first | ((with_reducible refine gate_callee (f:=22) rfl ?_);refine goesL_ (some 61) rfl rfl Try.func22 (by kernel_rfl) rfl #[.agg #[.int .i64 t785,.slice Ao20 t786.length co20],.int .i64 1] rfl (by (try simp only [zz26,zz27,zz28]);first | done | rfl | (simp only [zz24,zz25];rfl) | (simp only [zz25];congr;(try simp only [decide_eq_true_eq] at *);omega)) ?_;(with_reducible refine (laws_markParty.calls kj35 t785 (fun k_=>some k_=(.slice Ao20 t786.length co20:Value).ownBlock) (.slice Ao20 t786.length co20) t786 1 t799 t800 w _ ?side1 ?side2 A52.out).mono ?_);(case side1=>repeat first | exact HB.out | apply zz2 | apply zz0 | apply zz1 | refine zz3 ?_ GE781.out | refine zz3 ?_ GE790.out);(case side2=>exact Kd.R_tight rfl HO_791001.out);rintro e w57 ⟨rfl,hy0,hb,hkp⟩;refine ⟨_,rfl,?_⟩;have n0_:=Aside0.mk (Kd.R_mono (ok':=fun k_=>some k_ ≠ (.slice Ao20 t786.length co20:Value).ownBlock) (Kd.R_keptB (HO_782001.out) hkp (fun k_ hk_ hs_=>(hk_) hs_)) (fun k_ hk_=>hk_.1));have n1_:=Aside0.mk (Kd.R_reok rfl hy0 (fun k_ e_=>HO_791001.out.1 k_ e_));have n2_:=Aside0.mk (blk_kept (by (with_reducible repeat (first | refine zz6 ?_ _ | refine zz7 ?_ | refine zz8 ?_ _));exact BK781.out) hkp (fun hs_=>(fun e_=>(Kd.R_ne HO_791001.out BK781.out (by decide)) e_) hs_));have n3_:=Aside0.mk (blk_kept (by (with_reducible repeat (first | refine zz6 ?_ _ | refine zz7 ?_ | refine zz8 ?_ _));exact BK790.out) hkp (fun hs_=>(fun e_=>(Kd.R_ne HO_791001.out BK790.out (by decide)) e_) hs_));have n4_:=Aside0.mk (hb);clear HO_782001;clear HO_791001;clear BK781;clear BK790;clear HB;have HO_782001:=n0_;have HO_791001:=n1_;have BK781:=n2_;have BK790:=n3_;have HB:=n4_;clear n0_ n1_ n2_ n3_ n4_;(try clear hb);(try clear hkp);(try clear hy0);have hcz58_0:w57.cell? ⟨gb790,0,none⟩=some (.int .i64 t785):=(zz9 BK790.out 0).trans rfl;have hcz58_1:w57.cell? ⟨gb790,1,none⟩=some (.slice Ao20 t786.length co20):=(zz9 BK790.out 1).trans rfl;have hfz58_0:=zz10 BK790.out 0;have hfz58_1:=zz10 BK790.out 1) | ((with_reducible refine gate_callee (f:=23) rfl ?_);refine goesL_ (some 64) rfl rfl Try.func23 (by kernel_rfl) rfl #[.agg #[.int .i64 t785,.slice Ao20 t800.length co20],.int .i64 1] rfl (by (try simp only [zz26,zz27,zz28]);first | done | (rw [show t800.length=t786.length from (Kd.R_reads' HO_791001.out).1.symm] <;> rfl) | rfl | (simp only [zz24,zz25];rfl)) ?_;(with_reducible refine (laws_heldParty.calls kj35 t785 _ _ t800 1 t801 _ ?side1 ?side2 A53.out).mono ?_);(case side1=>repeat (first | exact (Kd.R_reads' HO_791001.out).2.2 | (with_reducible refine zz18 ?_ _) | (with_reducible refine zz19 ?_ _) | (with_reducible refine zz20 ?_)));(case side2=>rw [show t800.length=t786.length from (Kd.R_reads' HO_791001.out).1.symm];exact (Kd.R_reads' HO_791001.out).2.1);rintro e w59 ⟨rfl,hb⟩;refine ⟨_,rfl,?_⟩;have n0_:=Aside0.mk (Kd.R_below (by (with_reducible repeat (first | apply zz12 | apply zz13 | apply zz14));exact HO_782001.out) hb);have n1_:=Aside0.mk (Kd.R_below (by (with_reducible repeat (first | apply zz12 | apply zz13 | apply zz14));exact HO_791001.out) hb);have n2_:=Aside0.mk (zz11 (g:=gb781) (o:=.cells #[.int .i64 t776,.slice Ao13 t777.length co13] 29 (0,0)) (by (with_reducible repeat (first | refine zz6 ?_ _ | refine zz7 ?_ | refine zz8 ?_ _));exact BK781.out) hb);have n3_:=Aside0.mk (zz11 (g:=gb790) (o:=.cells #[.int .i64 t785,.slice Ao20 t786.length co20] 29 (0,0)) (by (with_reducible repeat (first | refine zz6 ?_ _ | refine zz7 ?_ | refine zz8 ?_ _));exact BK790.out) hb);have n4_:=Aside0.mk (zz4 (by repeat first | exact HB.out | apply zz2 | apply zz0 | apply zz1 | refine zz3 ?_ GE781.out | refine zz3 ?_ GE790.out) hb);clear HO_782001;clear HO_791001;clear BK781;clear BK790;clear HB;have HO_782001:=n0_;have HO_791001:=n1_;have BK781:=n2_;have BK790:=n3_;have HB:=n4_;clear n0_ n1_ n2_ n3_ n4_;(try clear hb);(try clear hb2);(try clear hk);(try clear hi)))
          go_ret
          exact ⟨by first | rfl | (simp [errW_none,errW_some] <;> rfl) | (simp [*,errW_none,errW_some] <;> rfl),by repeat first | exact HB.out | apply zz2 | apply zz0 | apply zz1 | refine zz3 ?_ GE781.out | refine zz3 ?_ GE790.out⟩
         ·rw [if_neg c54] at H
          have c54b0:decide (t801 < 0)=false:=decide_eq_false c54
          clear c54
          by_cases c60:t801=t799
          ·rw [if_pos c60] at H
           have c60b0:(t801 == t799)=true:=beq_iff_eq.mpr c60
           have c60b1:(t801 != t799)=false:=bne_eq_false_iff_eq.mpr c60
           clear c60
           replace H:=zz30.mp H
           obtain ⟨t802,A610,H⟩:=H
           replace H:((impl_PartsParty.f kj35 t802).bind fun bt805=>((laws_eqParty.f kj35 bt805.1 bt805.2.1 t776 t777).bind fun t811=>(if t811=true then (laws_FnExactPartsParty.j2 kj35 t799 (bt805.2.2 != t780) t785 t800) else (laws_FnExactPartsParty.j2 kj35 t799 true t785 t800))))=some r:=H
           have A61:=Aside0.mk A610
           clear A610
           replace H:=zz30.mp H
           obtain ⟨⟨t805,t806,t809⟩,A620,H⟩:=H
           replace H:((laws_eqParty.f kj35 t805 t806 t776 t777).bind fun t811=>(if t811=true then (laws_FnExactPartsParty.j2 kj35 t799 (t809 != t780) t785 t800) else (laws_FnExactPartsParty.j2 kj35 t799 true t785 t800)))=some r:=H
           have A62:=Aside0.mk A620
           clear A620
           have HC63:=Aside0.mk H
           clear H
           have hnb64:=NB790_781.out
           have hnc64:=NB781_790.out
           have hcz65_0:wc.cell? ⟨gb790,0,none⟩=some (.int .i64 t785):=(zz9 BK790.out 0).trans rfl
           have hcz65_1:wc.cell? ⟨gb790,1,none⟩=some (.slice Ao20 t786.length co20):=(zz9 BK790.out 1).trans rfl
           have hfz65_0:=zz10 BK790.out 0
           have hfz65_1:=zz10 BK790.out 1
           go_upto_region 23 with (first | ((with_reducible refine gate_callee (f:=22) rfl ?_);refine goesL_ (some 61) rfl rfl Try.func22 (by kernel_rfl) rfl #[.agg #[.int .i64 t785,.slice Ao20 t786.length co20],.int .i64 1] rfl (by (try simp only [zz26,zz27,zz28]);first | done | rfl | (simp only [zz24,zz25];rfl) | (simp only [zz25];congr;(try simp only [decide_eq_true_eq] at *);omega)) ?_;(with_reducible refine (laws_markParty.calls kj35 t785 (fun k_=>some k_=(.slice Ao20 t786.length co20:Value).ownBlock) (.slice Ao20 t786.length co20) t786 1 t799 t800 w _ ?side1 ?side2 A52.out).mono ?_);(case side1=>repeat first | exact HB.out | apply zz2 | apply zz0 | apply zz1 | refine zz3 ?_ GE781.out | refine zz3 ?_ GE790.out);(case side2=>exact Kd.R_tight rfl HO_791001.out);rintro e w66 ⟨rfl,hy0,hb,hkp⟩;refine ⟨_,rfl,?_⟩;have n0_:=Aside0.mk (Kd.R_mono (ok':=fun k_=>some k_ ≠ (.slice Ao20 t786.length co20:Value).ownBlock) (Kd.R_keptB (HO_782001.out) hkp (fun k_ hk_ hs_=>(hk_) hs_)) (fun k_ hk_=>hk_.1));have n1_:=Aside0.mk (Kd.R_reok rfl hy0 (fun k_ e_=>HO_791001.out.1 k_ e_));have n2_:=Aside0.mk (blk_kept (by (with_reducible repeat (first | refine zz6 ?_ _ | refine zz7 ?_ | refine zz8 ?_ _));exact BK781.out) hkp (fun hs_=>(fun e_=>(Kd.R_ne HO_791001.out BK781.out (by decide)) e_) hs_));have n3_:=Aside0.mk (blk_kept (by (with_reducible repeat (first | refine zz6 ?_ _ | refine zz7 ?_ | refine zz8 ?_ _));exact BK790.out) hkp (fun hs_=>(fun e_=>(Kd.R_ne HO_791001.out BK790.out (by decide)) e_) hs_));have n4_:=Aside0.mk (hb);clear HO_782001;clear HO_791001;clear BK781;clear BK790;clear HB;have HO_782001:=n0_;have HO_791001:=n1_;have BK781:=n2_;have BK790:=n3_;have HB:=n4_;clear n0_ n1_ n2_ n3_ n4_;(try clear hb);(try clear hkp);(try clear hy0);have hcz67_0:w66.cell? ⟨gb790,0,none⟩=some (.int .i64 t785):=(zz9 BK790.out 0).trans rfl;have hcz67_1:w66.cell? ⟨gb790,1,none⟩=some (.slice Ao20 t786.length co20):=(zz9 BK790.out 1).trans rfl;have hfz67_0:=zz10 BK790.out 0;have hfz67_1:=zz10 BK790.out 1) | ((with_reducible refine gate_callee (f:=23) rfl ?_);refine goesL_ (some 64) rfl rfl Try.func23 (by kernel_rfl) rfl #[.agg #[.int .i64 t785,.slice Ao20 t800.length co20],.int .i64 1] rfl (by (try simp only [zz26,zz27,zz28]);first | done | (rw [show t800.length=t786.length from (Kd.R_reads' HO_791001.out).1.symm] <;> rfl) | rfl | (simp only [zz24,zz25];rfl)) ?_;(with_reducible refine (laws_heldParty.calls kj35 t785 _ _ t800 1 t801 _ ?side1 ?side2 A53.out).mono ?_);(case side1=>repeat (first | exact (Kd.R_reads' HO_791001.out).2.2 | (with_reducible refine zz18 ?_ _) | (with_reducible refine zz19 ?_ _) | (with_reducible refine zz20 ?_)));(case side2=>rw [show t800.length=t786.length from (Kd.R_reads' HO_791001.out).1.symm];exact (Kd.R_reads' HO_791001.out).2.1);rintro e w68 ⟨rfl,hb⟩;refine ⟨_,rfl,?_⟩;have n0_:=Aside0.mk (Kd.R_below (by (with_reducible repeat (first | apply zz12 | apply zz13 | apply zz14));exact HO_782001.out) hb);have n1_:=Aside0.mk (Kd.R_below (by (with_reducible repeat (first | apply zz12 | apply zz13 | apply zz14));exact HO_791001.out) hb);have n2_:=Aside0.mk (zz11 (g:=gb781) (o:=.cells #[.int .i64 t776,.slice Ao13 t777.length co13] 29 (0,0)) (by (with_reducible repeat (first | refine zz6 ?_ _ | refine zz7 ?_ | refine zz8 ?_ _));exact BK781.out) hb);have n3_:=Aside0.mk (zz11 (g:=gb790) (o:=.cells #[.int .i64 t785,.slice Ao20 t786.length co20] 29 (0,0)) (by (with_reducible repeat (first | refine zz6 ?_ _ | refine zz7 ?_ | refine zz8 ?_ _));exact BK790.out) hb);have n4_:=Aside0.mk (zz4 (by repeat first | exact HB.out | apply zz2 | apply zz0 | apply zz1 | refine zz3 ?_ GE781.out | refine zz3 ?_ GE790.out) hb);clear HO_782001;clear HO_791001;clear BK781;clear BK790;clear HB;have HO_782001:=n0_;have HO_791001:=n1_;have BK781:=n2_;have BK790:=n3_;have HB:=n4_;clear n0_ n1_ n2_ n3_ n4_;(try clear hb);(try clear hb2);(try clear hk);(try clear hi)) | ((with_reducible refine gate_callee (f:=31) rfl ?_);refine goesL_ (some 72) rfl rfl Try.func31 (by kernel_rfl) rfl #[.slice A0 l0.length c0] rfl (by (try simp only [zz26,zz27,zz28]);first | done | rfl | (simp only [zz24,zz25];rfl) | (simp only [zz25];congr;(try simp only [decide_eq_true_eq] at *);omega)) ?_;(with_reducible refine (laws_toIntS.calls kj35 _ _ l0 t802 _ ?side1 ?side2 A61.out).mono ?_);(case side1=>repeat (first | exact (Kd.C_below HR0.out HB.out) | (with_reducible refine zz18 ?_ _) | (with_reducible refine zz19 ?_ _) | (with_reducible refine zz20 ?_)));(case side2=>exact HC0.out);rintro e w69 ⟨v803,rfl,ho0,hb⟩;refine ⟨_,rfl,?_⟩;have n0_:=Aside0.mk (Kd.R_below (by (with_reducible repeat (first | apply zz12 | apply zz13 | apply zz14));exact HO_782001.out) hb);have n1_:=Aside0.mk (Kd.R_below (by (with_reducible repeat (first | apply zz12 | apply zz13 | apply zz14));exact HO_791001.out) hb);have n2_:=Aside0.mk (Kd.R_lower ho0 (zz5 (by repeat first | exact HB.out | apply zz2 | apply zz0 | apply zz1 | refine zz3 ?_ GE781.out | refine zz3 ?_ GE790.out)));have n3_:=Aside0.mk (zz11 (g:=gb781) (o:=.cells #[.int .i64 t776,.slice Ao13 t777.length co13] 29 (0,0)) (by (with_reducible repeat (first | refine zz6 ?_ _ | refine zz7 ?_ | refine zz8 ?_ _));exact BK781.out) hb);have n4_:=Aside0.mk (zz11 (g:=gb790) (o:=.cells #[.int .i64 t785,.slice Ao20 t786.length co20] 29 (0,0)) (by (with_reducible repeat (first | refine zz6 ?_ _ | refine zz7 ?_ | refine zz8 ?_ _));exact BK790.out) hb);have n5_:=Aside0.mk (zz4 (by repeat first | exact HB.out | apply zz2 | apply zz0 | apply zz1 | refine zz3 ?_ GE781.out | refine zz3 ?_ GE790.out) hb);clear HO_782001;clear HO_791001;clear BK781;clear BK790;clear HB;have HO_782001:=n0_;have HO_791001:=n1_;have HO804:=n2_;have BK781:=n3_;have BK790:=n4_;have HB:=n5_;clear n0_ n1_ n2_ n3_ n4_ n5_;(try clear hb);(try clear hb2);(try clear hk);(try clear hi);(try clear ho0);obtain ⟨Ao70,co70,eo70⟩:=Kd.R_slice HO804.out;subst eo70) | ((with_reducible refine gate_callee (f:=47) rfl ?_);refine goesL_ (some 73) rfl rfl Try.func47 (by kernel_rfl) rfl #[.slice Ao70 t802.length co70] rfl (by (try simp only [zz26,zz27,zz28]);first | done | rfl | (simp only [zz24,zz25];rfl) | (simp only [zz25];congr;(try simp only [decide_eq_true_eq] at *);omega)) ?_;(with_reducible refine (impl_PartsParty.calls kj35 _ _ t802 t805 t806 t809 _ ?side1 ?side2 A62.out).mono ?_);(case side1=>repeat (first | exact (Kd.R_reads' HO804.out).2.2 | (with_reducible refine zz18 ?_ _) | (with_reducible refine zz19 ?_ _) | (with_reducible refine zz20 ?_)));(case side2=>exact (Kd.R_reads' HO804.out).2.1);rintro e w71 ⟨v807,rfl,ho0,hb⟩;refine ⟨_,rfl,?_⟩;have n0_:=Aside0.mk (Kd.R_elder' (by (with_reducible repeat (first | apply zz12 | apply zz13 | apply zz14));exact HO_782001.out) (Kd.R_base ho0) hb);have n1_:=Aside0.mk (Kd.R_elder' (by (with_reducible repeat (first | apply zz12 | apply zz13 | apply zz14));exact HO_791001.out) (Kd.R_base ho0) hb);have n2_:=Aside0.mk (Kd.R_below (by (with_reducible repeat (first | apply zz12 | apply zz13 | apply zz14));exact HO804.out) hb);have n3_:=Aside0.mk (Kd.R_lower (Kd.R_new' (Kd.R_new' ho0 (Kd.R_lt (by (with_reducible repeat (first | apply zz12 | apply zz13 | apply zz14));exact HO_782001.out))) (Kd.R_lt (by (with_reducible repeat (first | apply zz12 | apply zz13 | apply zz14));exact HO_791001.out))) (zz5 (by repeat first | exact HB.out | apply zz2 | apply zz0 | apply zz1 | refine zz3 ?_ GE781.out | refine zz3 ?_ GE790.out)));have n4_:=Aside0.mk (zz11 (g:=gb781) (o:=.cells #[.int .i64 t776,.slice Ao13 t777.length co13] 29 (0,0)) (by (with_reducible repeat (first | refine zz6 ?_ _ | refine zz7 ?_ | refine zz8 ?_ _));exact BK781.out) hb);have n5_:=Aside0.mk (zz11 (g:=gb790) (o:=.cells #[.int .i64 t785,.slice Ao20 t786.length co20] 29 (0,0)) (by (with_reducible repeat (first | refine zz6 ?_ _ | refine zz7 ?_ | refine zz8 ?_ _));exact BK790.out) hb);have n6_:=Aside0.mk (zz4 (by repeat first | exact HB.out | apply zz2 | apply zz0 | apply zz1 | refine zz3 ?_ GE781.out | refine zz3 ?_ GE790.out) hb);clear HO_782001;clear HO_791001;clear HO804;clear BK781;clear BK790;clear HB;have HO_782001:=n0_;have HO_791001:=n1_;have HO804:=n2_;have HO808:=n3_;have BK781:=n4_;have BK790:=n5_;have HB:=n6_;clear n0_ n1_ n2_ n3_ n4_ n5_ n6_;(try clear hb);(try clear hb2);(try clear hk);(try clear hi);(try clear ho0)) | ((with_reducible refine gate_dst (N:=11) rfl ?_);refine box_event ?hg (N:=11) ?hd (cs:=#[.int .i64 0,.slice none 0 0]) (t:=29) ?hr ?_;(case hd=>rfl);(case hg=>rfl);(case hr=>first | (go_simp;done) | (go_simp;rfl));intro gb810 hg w72 hbox hb;have n0_:=Aside0.mk (Kd.R_below (by (with_reducible repeat (first | apply zz12 | apply zz13 | apply zz14));exact HO_782001.out) hb);have n1_:=Aside0.mk (Kd.R_below (by (with_reducible repeat (first | apply zz12 | apply zz13 | apply zz14));exact HO_791001.out) hb);have n2_:=Aside0.mk (Kd.R_below (by (with_reducible repeat (first | apply zz12 | apply zz13 | apply zz14));exact HO804.out) hb);have n3_:=Aside0.mk (Kd.R_below (by (with_reducible repeat (first | apply zz12 | apply zz13 | apply zz14));exact HO808.out) hb);have n4_:=Aside0.mk (zz11 (g:=gb781) (o:=.cells #[.int .i64 t776,.slice Ao13 t777.length co13] 29 (0,0)) (by (with_reducible repeat (first | refine zz6 ?_ _ | refine zz7 ?_ | refine zz8 ?_ _));exact BK781.out) hb);have n5_:=Aside0.mk (zz11 (g:=gb790) (o:=.cells #[.int .i64 t785,.slice Ao20 t786.length co20] 29 (0,0)) (by (with_reducible repeat (first | refine zz6 ?_ _ | refine zz7 ?_ | refine zz8 ?_ _));exact BK790.out) hb);have n6_:=Aside0.mk (zz4 (by repeat first | exact HB.out | apply zz2 | apply zz0 | apply zz1 | refine zz3 ?_ GE781.out | refine zz3 ?_ GE790.out) hb);have n7_:=Aside0.mk (hbox);have n8_:=Aside0.mk ((by rw [hg];exact (zz5 (by repeat first | exact HB.out | apply zz2 | apply zz0 | apply zz1 | refine zz3 ?_ GE781.out | refine zz3 ?_ GE790.out)):w.heap.size≤gb810));have n9_:=Aside0.mk ((by rw [hg];exact (zz5 (by repeat first | exact HB.out | apply zz2 | apply zz0 | apply zz1 | refine zz3 ?_ GE781.out | refine zz3 ?_ GE790.out)):w.heap.size≤gb810));have n10_:=Aside0.mk ((by rw [hg];exact Nat.ne_of_lt (blk_lt (g:=gb781) (o:=.cells #[.int .i64 t776,.slice Ao13 t777.length co13] 29 (0,0)) (by (with_reducible repeat (first | refine zz6 ?_ _ | refine zz7 ?_ | refine zz8 ?_ _));exact BK781.out)):gb781 ≠ gb810));have n11_:=Aside0.mk ((by rw [hg];exact Nat.ne_of_gt (blk_lt (g:=gb781) (o:=.cells #[.int .i64 t776,.slice Ao13 t777.length co13] 29 (0,0)) (by (with_reducible repeat (first | refine zz6 ?_ _ | refine zz7 ?_ | refine zz8 ?_ _));exact BK781.out)):gb810 ≠ gb781));have n12_:=Aside0.mk ((by rw [hg];exact Nat.ne_of_lt (blk_lt (g:=gb790) (o:=.cells #[.int .i64 t785,.slice Ao20 t786.length co20] 29 (0,0)) (by (with_reducible repeat (first | refine zz6 ?_ _ | refine zz7 ?_ | refine zz8 ?_ _));exact BK790.out)):gb790 ≠ gb810));have n13_:=Aside0.mk ((by rw [hg];exact Nat.ne_of_gt (blk_lt (g:=gb790) (o:=.cells #[.int .i64 t785,.slice Ao20 t786.length co20] 29 (0,0)) (by (with_reducible repeat (first | refine zz6 ?_ _ | refine zz7 ?_ | refine zz8 ?_ _));exact BK790.out)):gb810 ≠ gb790));clear HO_782001;clear HO_791001;clear HO804;clear HO808;clear BK781;clear BK790;clear HB;have HO_782001:=n0_;have HO_791001:=n1_;have HO804:=n2_;have HO808:=n3_;have BK781:=n4_;have BK790:=n5_;have HB:=n6_;have BK810:=n7_;have GW810:=n8_;have GE810:=n9_;have NB781_810:=n10_;have NB810_781:=n11_;have NB790_810:=n12_;have NB810_790:=n13_;clear n0_ n1_ n2_ n3_ n4_ n5_ n6_ n7_ n8_ n9_ n10_ n11_ n12_ n13_;clear hb hbox hg;have hnb73:=NB810_781.out;have hnc73:=NB781_810.out;have hnb74:=NB810_790.out;have hnc74:=NB790_810.out;have hcz75_0:w72.cell? ⟨gb810,0,none⟩=some (.int .i64 0):=(zz9 BK810.out 0).trans rfl;have hcz75_1:w72.cell? ⟨gb810,1,none⟩=some (.slice none 0 0):=(zz9 BK810.out 1).trans rfl;have hfz75_0:=zz10 BK810.out 0;have hfz75_1:=zz10 BK810.out 1;obtain ⟨Ao76,co76,eo76⟩:=Kd.R_slice HO808.out;subst eo76))
           (try simp only [Act.put,zz21,zz22,zz23])
           go_cut [84] (fun v84 wc=>∃ (kq:Nat) (x84_62:Bool),v84=.bool x84_62∧Aside0 (laws_FnExactPartsParty.j2 kq t799 x84_62 t785 t800=some r)∧Aside0 (kq≤kj35)∧Aside0 (Kd.R k61 61 wc w.heap.size (fun k_=>some k_ ≠ ((.slice Ao20 t786.length co20):Value).ownBlock∧some k_ ≠ ((.slice Ao76 t806.length co76):Value).ownBlock) (.slice Ao13 t777.length co13) t777)∧Aside0 (Kd.R k61 61 wc w.heap.size (fun k_=>some k_ ≠ ((.slice Ao13 t777.length co13):Value).ownBlock∧some k_ ≠ ((.slice Ao76 t806.length co76):Value).ownBlock) (.slice Ao20 t786.length co20) t800)∧Aside0 (Kd.R k61 61 wc w.heap.size (fun k_=>some k_ ≠ ((.slice Ao13 t777.length co13):Value).ownBlock∧some k_ ≠ ((.slice Ao20 t786.length co20):Value).ownBlock) (.slice Ao76 t806.length co76) t806)∧Aside0 (wc.heap[gb781]?=some (.cells #[.int .i64 t776,(.slice Ao13 t777.length co13)] 29 (0,0)))∧Aside0 (wc.heap[gb790]?=some (.cells #[.int .i64 t785,(.slice Ao20 t786.length co20)] 29 (0,0)))∧Aside0 (wc.heap[gb810]?=some (.cells #[.int .i64 t805,(.slice Ao76 t806.length co76)] 29 (0,0)))∧Aside0 (Below w.heap.size w wc))
           case first =>
            have H:=HC63.out
            clear HC63
            replace H:=zz30.mp H
            obtain ⟨t811,A770,H⟩:=H
            replace H:(if t811=true then (laws_FnExactPartsParty.j2 kj35 t799 (t809 != t780) t785 t800) else (laws_FnExactPartsParty.j2 kj35 t799 true t785 t800))=some r:=H
            have A77:=Aside0.mk A770
            clear A770
            by_cases c78:t811=true
            ·subst c78
             have H1:(laws_FnExactPartsParty.j2 kj35 t799 (t809 != t780) t785 t800)=some r:=by rw [if_pos rfl] at H;exact H
             clear H
             have H:=H1
             clear H1
             have H':=Aside0.mk H
             clear H
             have hnb79:=NB810_781.out
             have hnc79:=NB781_810.out
             have hnb80:=NB810_790.out
             have hnc80:=NB790_810.out
             have hcz81_0:w72.cell? ⟨gb810,0,none⟩=some (.int .i64 0):=(zz9 BK810.out 0).trans rfl
             have hcz81_1:w72.cell? ⟨gb810,1,none⟩=some (.slice none 0 0):=(zz9 BK810.out 1).trans rfl
             have hfz81_0:=zz10 BK810.out 0
             have hfz81_1:=zz10 BK810.out 1
             have hnb82:=NB781_790.out
             have hnc82:=NB790_781.out
             have hcz83_0:w72.cell? ⟨gb781,0,none⟩=some (.int .i64 t776):=(zz9 BK781.out 0).trans rfl
             have hcz83_1:w72.cell? ⟨gb781,1,none⟩=some (.slice Ao13 t777.length co13):=(zz9 BK781.out 1).trans rfl
             have hfz83_0:=zz10 BK781.out 0
             have hfz83_1:=zz10 BK781.out 1
             go_wp2_with (first | ((with_reducible refine gate_callee (f:=19) rfl ?_);refine goesL_ (some 78) rfl rfl Try.func19 (by kernel_rfl) rfl #[.agg #[.int .i64 t805,.slice Ao76 t806.length co76],.agg #[.int .i64 t776,.slice Ao13 t777.length co13]] rfl (by (try simp only [zz26,zz27,zz28]);first | done | rfl | (simp only [zz24,zz25];rfl) | (simp only [zz25];congr;(try simp only [decide_eq_true_eq] at *);omega)) ?_;(with_reducible refine (laws_eqParty.calls kj35 t805 _ _ t806 t776 _ _ t777 true _ ?side1 ?side2 ?side3 ?side4 A77.out).mono ?_);(case side1=>refine (Kd.R_reads' (e:=61) (base:=w.heap.size) (ok:=fun k_=>((True∧some k_ ≠ (.slice Ao13 t777.length co13:Value).ownBlock)∧some k_ ≠ (.slice Ao20 t786.length co20:Value).ownBlock)) (n:=t806.length) (c:=co76) ?_).2.2;exact (by (with_reducible repeat (first | apply zz12 | apply zz13 | apply zz14));exact (Kd.R_mono (Kd.R_far (p:=⟨gb810,1,none⟩) (Kd.R_far (p:=⟨gb810,0,none⟩) (Kd.R_types HO808.out BK810.out (by decide)) (fun _ hk=>hk.2) (.int .i64 t805)) (fun _ hk=>hk.2) (.slice Ao76 t806.length co76)) (fun _ h_=>h_.1))));(case side2=>exact (Kd.R_reads' HO808.out).2.1);(case side3=>refine (Kd.R_reads' (e:=61) (base:=w.heap.size) (ok:=fun k_=>(some k_ ≠ (.slice Ao20 t786.length co20:Value).ownBlock∧some k_ ≠ (.slice Ao76 t806.length co76:Value).ownBlock)) (n:=t777.length) (c:=co13) ?_).2.2;exact (by (with_reducible repeat (first | apply zz12 | apply zz13 | apply zz14));exact (Kd.R_mono (Kd.R_far (p:=⟨gb810,1,none⟩) (Kd.R_far (p:=⟨gb810,0,none⟩) (Kd.R_types HO_782001.out BK810.out (by decide)) (fun _ hk=>hk.2) (.int .i64 t805)) (fun _ hk=>hk.2) (.slice Ao76 t806.length co76)) (fun _ h_=>h_.1))));(case side4=>exact (Kd.R_reads' HO_782001.out).2.1);rintro e w84 ⟨rfl,hb⟩;refine ⟨_,rfl,?_⟩;have n0_:=Aside0.mk (Kd.R_below (by (with_reducible repeat (first | apply zz12 | apply zz13 | apply zz14));exact (Kd.R_mono (Kd.R_far (p:=⟨gb810,1,none⟩) (Kd.R_far (p:=⟨gb810,0,none⟩) (Kd.R_types HO_782001.out BK810.out (by decide)) (fun _ hk=>hk.2) (.int .i64 t805)) (fun _ hk=>hk.2) (.slice Ao76 t806.length co76)) (fun _ h_=>h_.1))) hb);have n1_:=Aside0.mk (Kd.R_below (by (with_reducible repeat (first | apply zz12 | apply zz13 | apply zz14));exact (Kd.R_mono (Kd.R_far (p:=⟨gb810,1,none⟩) (Kd.R_far (p:=⟨gb810,0,none⟩) (Kd.R_types HO_791001.out BK810.out (by decide)) (fun _ hk=>hk.2) (.int .i64 t805)) (fun _ hk=>hk.2) (.slice Ao76 t806.length co76)) (fun _ h_=>h_.1))) hb);have n2_:=Aside0.mk (Kd.R_below (by (with_reducible repeat (first | apply zz12 | apply zz13 | apply zz14));exact (Kd.R_mono (Kd.R_far (p:=⟨gb810,1,none⟩) (Kd.R_far (p:=⟨gb810,0,none⟩) (Kd.R_types HO804.out BK810.out (by decide)) (fun _ hk=>hk.2) (.int .i64 t805)) (fun _ hk=>hk.2) (.slice Ao76 t806.length co76)) (fun _ h_=>h_.1))) hb);have n3_:=Aside0.mk (Kd.R_below (by (with_reducible repeat (first | apply zz12 | apply zz13 | apply zz14));exact (Kd.R_mono (Kd.R_far (p:=⟨gb810,1,none⟩) (Kd.R_far (p:=⟨gb810,0,none⟩) (Kd.R_types HO808.out BK810.out (by decide)) (fun _ hk=>hk.2) (.int .i64 t805)) (fun _ hk=>hk.2) (.slice Ao76 t806.length co76)) (fun _ h_=>h_.1))) hb);have n4_:=Aside0.mk (zz11 (g:=gb781) (o:=.cells #[.int .i64 t776,.slice Ao13 t777.length co13] 29 (0,0)) (by (with_reducible repeat (first | refine zz6 ?_ _ | refine zz7 ?_ | refine zz8 ?_ _));refine blk_far ?_ NB781_810.out _;(with_reducible repeat (first | refine zz6 ?_ _ | refine zz7 ?_ | refine zz8 ?_ _));refine blk_far ?_ NB781_810.out _;(with_reducible repeat (first | refine zz6 ?_ _ | refine zz7 ?_ | refine zz8 ?_ _));exact BK781.out) hb);have n5_:=Aside0.mk (zz11 (g:=gb790) (o:=.cells #[.int .i64 t785,.slice Ao20 t786.length co20] 29 (0,0)) (by (with_reducible repeat (first | refine zz6 ?_ _ | refine zz7 ?_ | refine zz8 ?_ _));refine blk_far ?_ NB790_810.out _;(with_reducible repeat (first | refine zz6 ?_ _ | refine zz7 ?_ | refine zz8 ?_ _));refine blk_far ?_ NB790_810.out _;(with_reducible repeat (first | refine zz6 ?_ _ | refine zz7 ?_ | refine zz8 ?_ _));exact BK790.out) hb);have n6_:=Aside0.mk (zz11 (g:=gb810) (o:=.cells #[.int .i64 t805,.slice Ao76 t806.length co76] 29 (0,0)) (by (with_reducible repeat (first | refine zz6 ?_ _ | refine zz7 ?_ | refine zz8 ?_ _));refine blk_put (cs:=#[.int .i64 t805,.slice none 0 0]) ?_ 1 _ rfl;(with_reducible repeat (first | refine zz6 ?_ _ | refine zz7 ?_ | refine zz8 ?_ _));refine blk_put (cs:=#[.int .i64 0,.slice none 0 0]) ?_ 0 _ rfl;(with_reducible repeat (first | refine zz6 ?_ _ | refine zz7 ?_ | refine zz8 ?_ _));exact BK810.out) hb);have n7_:=Aside0.mk (zz4 (by repeat first | exact HB.out | apply zz2 | apply zz0 | apply zz1 | refine zz3 ?_ GE781.out | refine zz3 ?_ GE790.out | refine zz3 ?_ GE810.out) hb);clear HO_782001;clear HO_791001;clear HO804;clear HO808;clear BK781;clear BK790;clear BK810;clear HB;have HO_782001:=n0_;have HO_791001:=n1_;have HO804:=n2_;have HO808:=n3_;have BK781:=n4_;have BK790:=n5_;have BK810:=n6_;have HB:=n7_;clear n0_ n1_ n2_ n3_ n4_ n5_ n6_ n7_;(try clear hb);(try clear hb2);(try clear hk);(try clear hi)))
             go_meet
             case rel=>exact ⟨_,((t809 != t780)),(by first | rfl | (simp;done) | (simp [*];done)),H',⟨by have:=HJ6.out;have:=HJ35.out;first | omega | exact Nat.le_refl _⟩,⟨by (with_reducible repeat (first | apply zz12 | apply zz13 | apply zz14));exact HO_782001.out⟩,⟨by (with_reducible repeat (first | apply zz12 | apply zz13 | apply zz14));exact HO_791001.out⟩,⟨by (with_reducible repeat (first | apply zz12 | apply zz13 | apply zz14));exact Kd.R_mono HO808.out (fun _ hk=>⟨hk.1.2,hk.2⟩)⟩,⟨by (with_reducible repeat (first | refine zz6 ?_ _ | refine zz7 ?_ | refine zz8 ?_ _));exact BK781.out⟩,⟨by (with_reducible repeat (first | refine zz6 ?_ _ | refine zz7 ?_ | refine zz8 ?_ _));exact BK790.out⟩,⟨by (with_reducible repeat (first | refine zz6 ?_ _ | refine zz7 ?_ | refine zz8 ?_ _));exact BK810.out⟩,⟨by repeat first | exact HB.out | apply zz2 | apply zz0 | apply zz1 | refine zz3 ?_ GE781.out | refine zz3 ?_ GE790.out | refine zz3 ?_ GE810.out⟩⟩
            ·replace c78:=Bool.eq_false_iff.mpr c78
             subst c78
             have H1:(laws_FnExactPartsParty.j2 kj35 t799 true t785 t800)=some r:=by rw [if_neg (show ¬ (false=true) by decide)] at H;exact H
             clear H
             have H:=H1
             clear H1
             have H':=Aside0.mk H
             clear H
             have hnb85:=NB810_781.out
             have hnc85:=NB781_810.out
             have hnb86:=NB810_790.out
             have hnc86:=NB790_810.out
             have hcz87_0:w72.cell? ⟨gb810,0,none⟩=some (.int .i64 0):=(zz9 BK810.out 0).trans rfl
             have hcz87_1:w72.cell? ⟨gb810,1,none⟩=some (.slice none 0 0):=(zz9 BK810.out 1).trans rfl
             have hfz87_0:=zz10 BK810.out 0
             have hfz87_1:=zz10 BK810.out 1
             have hnb88:=NB781_790.out
             have hnc88:=NB790_781.out
             have hcz89_0:w72.cell? ⟨gb781,0,none⟩=some (.int .i64 t776):=(zz9 BK781.out 0).trans rfl
             have hcz89_1:w72.cell? ⟨gb781,1,none⟩=some (.slice Ao13 t777.length co13):=(zz9 BK781.out 1).trans rfl
             have hfz89_0:=zz10 BK781.out 0
             have hfz89_1:=zz10 BK781.out 1
             go_wp2_with (first | ((with_reducible refine gate_callee (f:=19) rfl ?_);refine goesL_ (some 78) rfl rfl Try.func19 (by kernel_rfl) rfl #[.agg #[.int .i64 t805,.slice Ao76 t806.length co76],.agg #[.int .i64 t776,.slice Ao13 t777.length co13]] rfl (by (try simp only [zz26,zz27,zz28]);first | done | rfl | (simp only [zz24,zz25];rfl) | (simp only [zz25];congr;(try simp only [decide_eq_true_eq] at *);omega)) ?_;(with_reducible refine (laws_eqParty.calls kj35 t805 _ _ t806 t776 _ _ t777 false _ ?side1 ?side2 ?side3 ?side4 A77.out).mono ?_);(case side1=>refine (Kd.R_reads' (e:=61) (base:=w.heap.size) (ok:=fun k_=>((True∧some k_ ≠ (.slice Ao13 t777.length co13:Value).ownBlock)∧some k_ ≠ (.slice Ao20 t786.length co20:Value).ownBlock)) (n:=t806.length) (c:=co76) ?_).2.2;exact (by (with_reducible repeat (first | apply zz12 | apply zz13 | apply zz14));exact (Kd.R_mono (Kd.R_far (p:=⟨gb810,1,none⟩) (Kd.R_far (p:=⟨gb810,0,none⟩) (Kd.R_types HO808.out BK810.out (by decide)) (fun _ hk=>hk.2) (.int .i64 t805)) (fun _ hk=>hk.2) (.slice Ao76 t806.length co76)) (fun _ h_=>h_.1))));(case side2=>exact (Kd.R_reads' HO808.out).2.1);(case side3=>refine (Kd.R_reads' (e:=61) (base:=w.heap.size) (ok:=fun k_=>(some k_ ≠ (.slice Ao20 t786.length co20:Value).ownBlock∧some k_ ≠ (.slice Ao76 t806.length co76:Value).ownBlock)) (n:=t777.length) (c:=co13) ?_).2.2;exact (by (with_reducible repeat (first | apply zz12 | apply zz13 | apply zz14));exact (Kd.R_mono (Kd.R_far (p:=⟨gb810,1,none⟩) (Kd.R_far (p:=⟨gb810,0,none⟩) (Kd.R_types HO_782001.out BK810.out (by decide)) (fun _ hk=>hk.2) (.int .i64 t805)) (fun _ hk=>hk.2) (.slice Ao76 t806.length co76)) (fun _ h_=>h_.1))));(case side4=>exact (Kd.R_reads' HO_782001.out).2.1);rintro e w90 ⟨rfl,hb⟩;refine ⟨_,rfl,?_⟩;have n0_:=Aside0.mk (Kd.R_below (by (with_reducible repeat (first | apply zz12 | apply zz13 | apply zz14));exact (Kd.R_mono (Kd.R_far (p:=⟨gb810,1,none⟩) (Kd.R_far (p:=⟨gb810,0,none⟩) (Kd.R_types HO_782001.out BK810.out (by decide)) (fun _ hk=>hk.2) (.int .i64 t805)) (fun _ hk=>hk.2) (.slice Ao76 t806.length co76)) (fun _ h_=>h_.1))) hb);have n1_:=Aside0.mk (Kd.R_below (by (with_reducible repeat (first | apply zz12 | apply zz13 | apply zz14));exact (Kd.R_mono (Kd.R_far (p:=⟨gb810,1,none⟩) (Kd.R_far (p:=⟨gb810,0,none⟩) (Kd.R_types HO_791001.out BK810.out (by decide)) (fun _ hk=>hk.2) (.int .i64 t805)) (fun _ hk=>hk.2) (.slice Ao76 t806.length co76)) (fun _ h_=>h_.1))) hb);have n2_:=Aside0.mk (Kd.R_below (by (with_reducible repeat (first | apply zz12 | apply zz13 | apply zz14));exact (Kd.R_mono (Kd.R_far (p:=⟨gb810,1,none⟩) (Kd.R_far (p:=⟨gb810,0,none⟩) (Kd.R_types HO804.out BK810.out (by decide)) (fun _ hk=>hk.2) (.int .i64 t805)) (fun _ hk=>hk.2) (.slice Ao76 t806.length co76)) (fun _ h_=>h_.1))) hb);have n3_:=Aside0.mk (Kd.R_below (by (with_reducible repeat (first | apply zz12 | apply zz13 | apply zz14));exact (Kd.R_mono (Kd.R_far (p:=⟨gb810,1,none⟩) (Kd.R_far (p:=⟨gb810,0,none⟩) (Kd.R_types HO808.out BK810.out (by decide)) (fun _ hk=>hk.2) (.int .i64 t805)) (fun _ hk=>hk.2) (.slice Ao76 t806.length co76)) (fun _ h_=>h_.1))) hb);have n4_:=Aside0.mk (zz11 (g:=gb781) (o:=.cells #[.int .i64 t776,.slice Ao13 t777.length co13] 29 (0,0)) (by (with_reducible repeat (first | refine zz6 ?_ _ | refine zz7 ?_ | refine zz8 ?_ _));refine blk_far ?_ NB781_810.out _;(with_reducible repeat (first | refine zz6 ?_ _ | refine zz7 ?_ | refine zz8 ?_ _));refine blk_far ?_ NB781_810.out _;(with_reducible repeat (first | refine zz6 ?_ _ | refine zz7 ?_ | refine zz8 ?_ _));exact BK781.out) hb);have n5_:=Aside0.mk (zz11 (g:=gb790) (o:=.cells #[.int .i64 t785,.slice Ao20 t786.length co20] 29 (0,0)) (by (with_reducible repeat (first | refine zz6 ?_ _ | refine zz7 ?_ | refine zz8 ?_ _));refine blk_far ?_ NB790_810.out _;(with_reducible repeat (first | refine zz6 ?_ _ | refine zz7 ?_ | refine zz8 ?_ _));refine blk_far ?_ NB790_810.out _;(with_reducible repeat (first | refine zz6 ?_ _ | refine zz7 ?_ | refine zz8 ?_ _));exact BK790.out) hb);have n6_:=Aside0.mk (zz11 (g:=gb810) (o:=.cells #[.int .i64 t805,.slice Ao76 t806.length co76] 29 (0,0)) (by (with_reducible repeat (first | refine zz6 ?_ _ | refine zz7 ?_ | refine zz8 ?_ _));refine blk_put (cs:=#[.int .i64 t805,.slice none 0 0]) ?_ 1 _ rfl;(with_reducible repeat (first | refine zz6 ?_ _ | refine zz7 ?_ | refine zz8 ?_ _));refine blk_put (cs:=#[.int .i64 0,.slice none 0 0]) ?_ 0 _ rfl;(with_reducible repeat (first | refine zz6 ?_ _ | refine zz7 ?_ | refine zz8 ?_ _));exact BK810.out) hb);have n7_:=Aside0.mk (zz4 (by repeat first | exact HB.out | apply zz2 | apply zz0 | apply zz1 | refine zz3 ?_ GE781.out | refine zz3 ?_ GE790.out | refine zz3 ?_ GE810.out) hb);clear HO_782001;clear HO_791001;clear HO804;clear HO808;clear BK781;clear BK790;clear BK810;clear HB;have HO_782001:=n0_;have HO_791001:=n1_;have HO804:=n2_;have HO808:=n3_;have BK781:=n4_;have BK790:=n5_;have BK810:=n6_;have HB:=n7_;clear n0_ n1_ n2_ n3_ n4_ n5_ n6_ n7_;(try clear hb);(try clear hb2);(try clear hk);(try clear hi)))
             go_meet
             case rel=>exact ⟨_,(true),(by first | rfl | (simp;done) | (simp [*];done)),H',⟨by have:=HJ6.out;have:=HJ35.out;first | omega | exact Nat.le_refl _⟩,⟨by (with_reducible repeat (first | apply zz12 | apply zz13 | apply zz14));exact HO_782001.out⟩,⟨by (with_reducible repeat (first | apply zz12 | apply zz13 | apply zz14));exact HO_791001.out⟩,⟨by (with_reducible repeat (first | apply zz12 | apply zz13 | apply zz14));exact Kd.R_mono HO808.out (fun _ hk=>⟨hk.1.2,hk.2⟩)⟩,⟨by (with_reducible repeat (first | refine zz6 ?_ _ | refine zz7 ?_ | refine zz8 ?_ _));exact BK781.out⟩,⟨by (with_reducible repeat (first | refine zz6 ?_ _ | refine zz7 ?_ | refine zz8 ?_ _));exact BK790.out⟩,⟨by (with_reducible repeat (first | refine zz6 ?_ _ | refine zz7 ?_ | refine zz8 ?_ _));exact BK810.out⟩,⟨by repeat first | exact HB.out | apply zz2 | apply zz0 | apply zz1 | refine zz3 ?_ GE781.out | refine zz3 ?_ GE790.out | refine zz3 ?_ GE810.out⟩⟩
           case rest =>
            clear HC63
            try clear c1
            try clear c2
            try clear c2b0
            try clear c2b1
            try clear p2
            try clear c3
            try clear c4
            try clear c5
            try clear c6
            try clear c7
            try clear c8
            try clear c14
            try clear c18
            try clear c19
            try clear c22
            try clear c23
            try clear c27
            try clear c31
            try clear c33
            try clear c34
            try clear c40
            try clear c40b0
            try clear c42
            try clear c43
            try clear c46
            try clear c47
            try clear c51
            try clear c54
            try clear c54b0
            try clear c55
            try clear c60
            try clear c60b0
            try clear c60b1
            try clear c64
            try clear c73
            try clear c74
            try clear c78
            try clear c79
            try clear c80
            try clear c82
            try clear c85
            try clear c86
            try clear c88
            try clear hcz12_0
            try clear hcz12_1
            try clear hcz19_0
            try clear hcz19_1
            try clear hcz24_0
            try clear hcz24_1
            try clear hcz25_0
            try clear hcz25_1
            try clear hcz28_0
            try clear hcz28_1
            try clear hcz29_0
            try clear hcz29_1
            try clear hcz44_0
            try clear hcz44_1
            try clear hcz45_0
            try clear hcz45_1
            try clear hcz48_0
            try clear hcz48_1
            try clear hcz49_0
            try clear hcz49_1
            try clear hcz56_0
            try clear hcz56_1
            try clear hcz58_0
            try clear hcz58_1
            try clear hcz65_0
            try clear hcz65_1
            try clear hcz67_0
            try clear hcz67_1
            try clear hcz75_0
            try clear hcz75_1
            try clear hcz81_0
            try clear hcz81_1
            try clear hcz83_0
            try clear hcz83_1
            try clear hcz87_0
            try clear hcz87_1
            try clear hcz89_0
            try clear hcz89_1
            try clear hfz12_0
            try clear hfz12_1
            try clear hfz19_0
            try clear hfz19_1
            try clear hfz24_0
            try clear hfz24_1
            try clear hfz25_0
            try clear hfz25_1
            try clear hfz28_0
            try clear hfz28_1
            try clear hfz29_0
            try clear hfz29_1
            try clear hfz44_0
            try clear hfz44_1
            try clear hfz45_0
            try clear hfz45_1
            try clear hfz48_0
            try clear hfz48_1
            try clear hfz49_0
            try clear hfz49_1
            try clear hfz56_0
            try clear hfz56_1
            try clear hfz58_0
            try clear hfz58_1
            try clear hfz65_0
            try clear hfz65_1
            try clear hfz67_0
            try clear hfz67_1
            try clear hfz75_0
            try clear hfz75_1
            try clear hfz81_0
            try clear hfz81_1
            try clear hfz83_0
            try clear hfz83_1
            try clear hfz87_0
            try clear hfz87_1
            try clear hfz89_0
            try clear hfz89_1
            try clear p2
            obtain ⟨kq,x84_62,rfl,HA,HJ62,HO_782001,HO_791001,HO_811001,BK781,BK790,BK810,HB⟩:=hcut
            have hl791001_62:=(Kd.R_reads' HO_791001.out).1
            rw [hl791001_62] at HO_791001
            (try simp only [hl791001_62])
            (try simp only [hl791001_62] at BK781)
            (try simp only [hl791001_62] at BK790)
            (try simp only [hl791001_62] at BK810)
            (try simp only [hl791001_62] at HO_782001)
            (try simp only [hl791001_62] at HO_811001)
            cases kq with
            | zero=>exact absurd HA.out (by simp [laws_FnExactPartsParty.j2])
            | succ kj62 =>
             have H:=HA.out
             clear HA
             simp only [laws_FnExactPartsParty.j2] at H
             by_cases c91:x84_62=true
             ·subst c91
              have H1:(some false)=some r:=by rw [if_pos rfl] at H;exact H
              clear H
              have H:=H1
              clear H1
              obtain rfl:=Option.some.inj H
              go_wp2
              go_ret
              exact ⟨by first | rfl | (simp [errW_none,errW_some] <;> rfl) | (simp [*,errW_none,errW_some] <;> rfl),by repeat first | exact HB.out | apply zz2 | apply zz0 | apply zz1 | refine zz3 ?_ GE781.out | refine zz3 ?_ GE790.out | refine zz3 ?_ GE810.out⟩
             ·replace c91:=Bool.eq_false_iff.mpr c91
              subst c91
              have H1:((laws_heldParty.f kj62 t785 t800 1).bind fun t812=>(if t812 < 0 then (some false) else (if t812=t799 then (some true) else (some false))))=some r:=by rw [if_neg (show ¬ (false=true) by decide)] at H;exact H
              clear H
              have H:=H1
              clear H1
              replace H:=zz30.mp H
              obtain ⟨t812,A920,H⟩:=H
              replace H:(if t812 < 0 then (some false) else (if t812=t799 then (some true) else (some false)))=some r:=H
              have A92:=Aside0.mk A920
              clear A920
              by_cases c93:t812 < 0
              ·rw [if_pos c93] at H
               have c93b0:decide (t812 < 0)=true:=decide_eq_true c93
               clear c93
               obtain rfl:=Option.some.inj H
               have hnb94:=NB790_781.out
               have hnc94:=NB781_790.out
               have hnb95:=NB790_810.out
               have hnc95:=NB810_790.out
               have hcz96_0:wc.cell? ⟨gb790,0,none⟩=some (.int .i64 t785):=(zz9 BK790.out 0).trans rfl
               have hcz96_1:wc.cell? ⟨gb790,1,none⟩=some (.slice Ao20 t800.length co20):=(zz9 BK790.out 1).trans rfl
               have hfz96_0:=zz10 BK790.out 0
               have hfz96_1:=zz10 BK790.out 1
               go_wp2_with (first | ((with_reducible refine gate_callee (f:=23) rfl ?_);refine goesL_ (some 87) rfl rfl Try.func23 (by kernel_rfl) rfl #[.agg #[.int .i64 t785,.slice Ao20 t800.length co20],.int .i64 1] rfl (by (try simp only [zz26,zz27,zz28]);first | done | rfl | (simp only [zz24,zz25];rfl) | (simp only [zz25];congr;(try simp only [decide_eq_true_eq] at *);omega)) ?_;(with_reducible refine (laws_heldParty.calls kj62 t785 _ _ t800 1 t812 _ ?side1 ?side2 A92.out).mono ?_);(case side1=>repeat (first | exact (Kd.R_reads' HO_791001.out).2.2 | (with_reducible refine zz18 ?_ _) | (with_reducible refine zz19 ?_ _) | (with_reducible refine zz20 ?_)));(case side2=>exact (Kd.R_reads' HO_791001.out).2.1);rintro e w97 ⟨rfl,hb⟩;refine ⟨_,rfl,?_⟩;have n0_:=Aside0.mk (Kd.R_below (by (with_reducible repeat (first | apply zz12 | apply zz13 | apply zz14));exact HO_782001.out) hb);have n1_:=Aside0.mk (Kd.R_below (by (with_reducible repeat (first | apply zz12 | apply zz13 | apply zz14));exact HO_791001.out) hb);have n2_:=Aside0.mk (Kd.R_below (by (with_reducible repeat (first | apply zz12 | apply zz13 | apply zz14));exact HO_811001.out) hb);have n3_:=Aside0.mk (zz11 (g:=gb781) (o:=.cells #[.int .i64 t776,.slice Ao13 t777.length co13] 29 (0,0)) (by (with_reducible repeat (first | refine zz6 ?_ _ | refine zz7 ?_ | refine zz8 ?_ _));exact BK781.out) hb);have n4_:=Aside0.mk (zz11 (g:=gb790) (o:=.cells #[.int .i64 t785,.slice Ao20 t800.length co20] 29 (0,0)) (by (with_reducible repeat (first | refine zz6 ?_ _ | refine zz7 ?_ | refine zz8 ?_ _));exact BK790.out) hb);have n5_:=Aside0.mk (zz11 (g:=gb810) (o:=.cells #[.int .i64 t805,.slice Ao76 t806.length co76] 29 (0,0)) (by (with_reducible repeat (first | refine zz6 ?_ _ | refine zz7 ?_ | refine zz8 ?_ _));exact BK810.out) hb);have n6_:=Aside0.mk (zz4 (by repeat first | exact HB.out | apply zz2 | apply zz0 | apply zz1 | refine zz3 ?_ GE781.out | refine zz3 ?_ GE790.out | refine zz3 ?_ GE810.out) hb);clear HO_782001;clear HO_791001;clear HO_811001;clear BK781;clear BK790;clear BK810;clear HB;have HO_782001:=n0_;have HO_791001:=n1_;have HO_811001:=n2_;have BK781:=n3_;have BK790:=n4_;have BK810:=n5_;have HB:=n6_;clear n0_ n1_ n2_ n3_ n4_ n5_ n6_;(try clear hb);(try clear hb2);(try clear hk);(try clear hi)))
               go_ret
               exact ⟨by first | rfl | (simp [errW_none,errW_some] <;> rfl) | (simp [*,errW_none,errW_some] <;> rfl),by repeat first | exact HB.out | apply zz2 | apply zz0 | apply zz1 | refine zz3 ?_ GE781.out | refine zz3 ?_ GE790.out | refine zz3 ?_ GE810.out⟩
              ·rw [if_neg c93] at H
               have c93b0:decide (t812 < 0)=false:=decide_eq_false c93
               clear c93
               by_cases c98:t812=t799
               ·rw [if_pos c98] at H
                have c98b0:(t812 == t799)=true:=beq_iff_eq.mpr c98
                have c98b1:(t812 != t799)=false:=bne_eq_false_iff_eq.mpr c98
                clear c98
                obtain rfl:=Option.some.inj H
                have hnb99:=NB790_781.out
                have hnc99:=NB781_790.out
                have hnb100:=NB790_810.out
                have hnc100:=NB810_790.out
                have hcz101_0:wc.cell? ⟨gb790,0,none⟩=some (.int .i64 t785):=(zz9 BK790.out 0).trans rfl
                have hcz101_1:wc.cell? ⟨gb790,1,none⟩=some (.slice Ao20 t800.length co20):=(zz9 BK790.out 1).trans rfl
                have hfz101_0:=zz10 BK790.out 0
                have hfz101_1:=zz10 BK790.out 1
                go_wp2_with (first | ((with_reducible refine gate_callee (f:=23) rfl ?_);refine goesL_ (some 87) rfl rfl Try.func23 (by kernel_rfl) rfl #[.agg #[.int .i64 t785,.slice Ao20 t800.length co20],.int .i64 1] rfl (by (try simp only [zz26,zz27,zz28]);first | done | rfl | (simp only [zz24,zz25];rfl) | (simp only [zz25];congr;(try simp only [decide_eq_true_eq] at *);omega)) ?_;(with_reducible refine (laws_heldParty.calls kj62 t785 _ _ t800 1 t812 _ ?side1 ?side2 A92.out).mono ?_);(case side1=>repeat (first | exact (Kd.R_reads' HO_791001.out).2.2 | (with_reducible refine zz18 ?_ _) | (with_reducible refine zz19 ?_ _) | (with_reducible refine zz20 ?_)));(case side2=>exact (Kd.R_reads' HO_791001.out).2.1);rintro e w102 ⟨rfl,hb⟩;refine ⟨_,rfl,?_⟩;have n0_:=Aside0.mk (Kd.R_below (by (with_reducible repeat (first | apply zz12 | apply zz13 | apply zz14));exact HO_782001.out) hb);have n1_:=Aside0.mk (Kd.R_below (by (with_reducible repeat (first | apply zz12 | apply zz13 | apply zz14));exact HO_791001.out) hb);have n2_:=Aside0.mk (Kd.R_below (by (with_reducible repeat (first | apply zz12 | apply zz13 | apply zz14));exact HO_811001.out) hb);have n3_:=Aside0.mk (zz11 (g:=gb781) (o:=.cells #[.int .i64 t776,.slice Ao13 t777.length co13] 29 (0,0)) (by (with_reducible repeat (first | refine zz6 ?_ _ | refine zz7 ?_ | refine zz8 ?_ _));exact BK781.out) hb);have n4_:=Aside0.mk (zz11 (g:=gb790) (o:=.cells #[.int .i64 t785,.slice Ao20 t800.length co20] 29 (0,0)) (by (with_reducible repeat (first | refine zz6 ?_ _ | refine zz7 ?_ | refine zz8 ?_ _));exact BK790.out) hb);have n5_:=Aside0.mk (zz11 (g:=gb810) (o:=.cells #[.int .i64 t805,.slice Ao76 t806.length co76] 29 (0,0)) (by (with_reducible repeat (first | refine zz6 ?_ _ | refine zz7 ?_ | refine zz8 ?_ _));exact BK810.out) hb);have n6_:=Aside0.mk (zz4 (by repeat first | exact HB.out | apply zz2 | apply zz0 | apply zz1 | refine zz3 ?_ GE781.out | refine zz3 ?_ GE790.out | refine zz3 ?_ GE810.out) hb);clear HO_782001;clear HO_791001;clear HO_811001;clear BK781;clear BK790;clear BK810;clear HB;have HO_782001:=n0_;have HO_791001:=n1_;have HO_811001:=n2_;have BK781:=n3_;have BK790:=n4_;have BK810:=n5_;have HB:=n6_;clear n0_ n1_ n2_ n3_ n4_ n5_ n6_;(try clear hb);(try clear hb2);(try clear hk);(try clear hi)))
                go_ret
                exact ⟨by first | rfl | (simp [errW_none,errW_some] <;> rfl) | (simp [*,errW_none,errW_some] <;> rfl),by repeat first | exact HB.out | apply zz2 | apply zz0 | apply zz1 | refine zz3 ?_ GE781.out | refine zz3 ?_ GE790.out | refine zz3 ?_ GE810.out⟩
               ·rw [if_neg c98] at H
                have c98b0:(t812 == t799)=false:=beq_eq_false_iff_ne.mpr c98
                have c98b1:(t812 != t799)=true:=bne_iff_ne.mpr c98
                obtain rfl:=Option.some.inj H
                have hnb103:=NB790_781.out
                have hnc103:=NB781_790.out
                have hnb104:=NB790_810.out
                have hnc104:=NB810_790.out
                have hcz105_0:wc.cell? ⟨gb790,0,none⟩=some (.int .i64 t785):=(zz9 BK790.out 0).trans rfl
                have hcz105_1:wc.cell? ⟨gb790,1,none⟩=some (.slice Ao20 t800.length co20):=(zz9 BK790.out 1).trans rfl
                have hfz105_0:=zz10 BK790.out 0
                have hfz105_1:=zz10 BK790.out 1
                go_wp2_with (first | ((with_reducible refine gate_callee (f:=23) rfl ?_);refine goesL_ (some 87) rfl rfl Try.func23 (by kernel_rfl) rfl #[.agg #[.int .i64 t785,.slice Ao20 t800.length co20],.int .i64 1] rfl (by (try simp only [zz26,zz27,zz28]);first | done | rfl | (simp only [zz24,zz25];rfl) | (simp only [zz25];congr;(try simp only [decide_eq_true_eq] at *);omega)) ?_;(with_reducible refine (laws_heldParty.calls kj62 t785 _ _ t800 1 t812 _ ?side1 ?side2 A92.out).mono ?_);(case side1=>repeat (first | exact (Kd.R_reads' HO_791001.out).2.2 | (with_reducible refine zz18 ?_ _) | (with_reducible refine zz19 ?_ _) | (with_reducible refine zz20 ?_)));(case side2=>exact (Kd.R_reads' HO_791001.out).2.1);rintro e w106 ⟨rfl,hb⟩;refine ⟨_,rfl,?_⟩;have n0_:=Aside0.mk (Kd.R_below (by (with_reducible repeat (first | apply zz12 | apply zz13 | apply zz14));exact HO_782001.out) hb);have n1_:=Aside0.mk (Kd.R_below (by (with_reducible repeat (first | apply zz12 | apply zz13 | apply zz14));exact HO_791001.out) hb);have n2_:=Aside0.mk (Kd.R_below (by (with_reducible repeat (first | apply zz12 | apply zz13 | apply zz14));exact HO_811001.out) hb);have n3_:=Aside0.mk (zz11 (g:=gb781) (o:=.cells #[.int .i64 t776,.slice Ao13 t777.length co13] 29 (0,0)) (by (with_reducible repeat (first | refine zz6 ?_ _ | refine zz7 ?_ | refine zz8 ?_ _));exact BK781.out) hb);have n4_:=Aside0.mk (zz11 (g:=gb790) (o:=.cells #[.int .i64 t785,.slice Ao20 t800.length co20] 29 (0,0)) (by (with_reducible repeat (first | refine zz6 ?_ _ | refine zz7 ?_ | refine zz8 ?_ _));exact BK790.out) hb);have n5_:=Aside0.mk (zz11 (g:=gb810) (o:=.cells #[.int .i64 t805,.slice Ao76 t806.length co76] 29 (0,0)) (by (with_reducible repeat (first | refine zz6 ?_ _ | refine zz7 ?_ | refine zz8 ?_ _));exact BK810.out) hb);have n6_:=Aside0.mk (zz4 (by repeat first | exact HB.out | apply zz2 | apply zz0 | apply zz1 | refine zz3 ?_ GE781.out | refine zz3 ?_ GE790.out | refine zz3 ?_ GE810.out) hb);clear HO_782001;clear HO_791001;clear HO_811001;clear BK781;clear BK790;clear BK810;clear HB;have HO_782001:=n0_;have HO_791001:=n1_;have HO_811001:=n2_;have BK781:=n3_;have BK790:=n4_;have BK810:=n5_;have HB:=n6_;clear n0_ n1_ n2_ n3_ n4_ n5_ n6_;(try clear hb);(try clear hb2);(try clear hk);(try clear hi)))
                go_ret
                exact ⟨by first | rfl | (simp [errW_none,errW_some] <;> rfl) | (simp [*,errW_none,errW_some] <;> rfl),by repeat first | exact HB.out | apply zz2 | apply zz0 | apply zz1 | refine zz3 ?_ GE781.out | refine zz3 ?_ GE790.out | refine zz3 ?_ GE810.out⟩
          ·rw [if_neg c60] at H
           have c60b0:(t801 == t799)=false:=beq_eq_false_iff_ne.mpr c60
           have c60b1:(t801 != t799)=true:=bne_iff_ne.mpr c60
           obtain rfl:=Option.some.inj H
           have hnb107:=NB790_781.out
           have hnc107:=NB781_790.out
           have hcz108_0:wc.cell? ⟨gb790,0,none⟩=some (.int .i64 t785):=(zz9 BK790.out 0).trans rfl
           have hcz108_1:wc.cell? ⟨gb790,1,none⟩=some (.slice Ao20 t786.length co20):=(zz9 BK790.out 1).trans rfl
           have hfz108_0:=zz10 BK790.out 0
           have hfz108_1:=zz10 BK790.out 1
           go_wp2_with (first | ((with_reducible refine gate_callee (f:=22) rfl ?_);refine goesL_ (some 61) rfl rfl Try.func22 (by kernel_rfl) rfl #[.agg #[.int .i64 t785,.slice Ao20 t786.length co20],.int .i64 1] rfl (by (try simp only [zz26,zz27,zz28]);first | done | rfl | (simp only [zz24,zz25];rfl) | (simp only [zz25];congr;(try simp only [decide_eq_true_eq] at *);omega)) ?_;(with_reducible refine (laws_markParty.calls kj35 t785 (fun k_=>some k_=(.slice Ao20 t786.length co20:Value).ownBlock) (.slice Ao20 t786.length co20) t786 1 t799 t800 w _ ?side1 ?side2 A52.out).mono ?_);(case side1=>repeat first | exact HB.out | apply zz2 | apply zz0 | apply zz1 | refine zz3 ?_ GE781.out | refine zz3 ?_ GE790.out);(case side2=>exact Kd.R_tight rfl HO_791001.out);rintro e w109 ⟨rfl,hy0,hb,hkp⟩;refine ⟨_,rfl,?_⟩;have n0_:=Aside0.mk (Kd.R_mono (ok':=fun k_=>some k_ ≠ (.slice Ao20 t786.length co20:Value).ownBlock) (Kd.R_keptB (HO_782001.out) hkp (fun k_ hk_ hs_=>(hk_) hs_)) (fun k_ hk_=>hk_.1));have n1_:=Aside0.mk (Kd.R_reok rfl hy0 (fun k_ e_=>HO_791001.out.1 k_ e_));have n2_:=Aside0.mk (blk_kept (by (with_reducible repeat (first | refine zz6 ?_ _ | refine zz7 ?_ | refine zz8 ?_ _));exact BK781.out) hkp (fun hs_=>(fun e_=>(Kd.R_ne HO_791001.out BK781.out (by decide)) e_) hs_));have n3_:=Aside0.mk (blk_kept (by (with_reducible repeat (first | refine zz6 ?_ _ | refine zz7 ?_ | refine zz8 ?_ _));exact BK790.out) hkp (fun hs_=>(fun e_=>(Kd.R_ne HO_791001.out BK790.out (by decide)) e_) hs_));have n4_:=Aside0.mk (hb);clear HO_782001;clear HO_791001;clear BK781;clear BK790;clear HB;have HO_782001:=n0_;have HO_791001:=n1_;have BK781:=n2_;have BK790:=n3_;have HB:=n4_;clear n0_ n1_ n2_ n3_ n4_;(try clear hb);(try clear hkp);(try clear hy0);have hcz110_0:w109.cell? ⟨gb790,0,none⟩=some (.int .i64 t785):=(zz9 BK790.out 0).trans rfl;have hcz110_1:w109.cell? ⟨gb790,1,none⟩=some (.slice Ao20 t786.length co20):=(zz9 BK790.out 1).trans rfl;have hfz110_0:=zz10 BK790.out 0;have hfz110_1:=zz10 BK790.out 1) | ((with_reducible refine gate_callee (f:=23) rfl ?_);refine goesL_ (some 64) rfl rfl Try.func23 (by kernel_rfl) rfl #[.agg #[.int .i64 t785,.slice Ao20 t800.length co20],.int .i64 1] rfl (by (try simp only [zz26,zz27,zz28]);first | done | (rw [show t800.length=t786.length from (Kd.R_reads' HO_791001.out).1.symm] <;> rfl) | rfl | (simp only [zz24,zz25];rfl)) ?_;(with_reducible refine (laws_heldParty.calls kj35 t785 _ _ t800 1 t801 _ ?side1 ?side2 A53.out).mono ?_);(case side1=>repeat (first | exact (Kd.R_reads' HO_791001.out).2.2 | (with_reducible refine zz18 ?_ _) | (with_reducible refine zz19 ?_ _) | (with_reducible refine zz20 ?_)));(case side2=>rw [show t800.length=t786.length from (Kd.R_reads' HO_791001.out).1.symm];exact (Kd.R_reads' HO_791001.out).2.1);rintro e w111 ⟨rfl,hb⟩;refine ⟨_,rfl,?_⟩;have n0_:=Aside0.mk (Kd.R_below (by (with_reducible repeat (first | apply zz12 | apply zz13 | apply zz14));exact HO_782001.out) hb);have n1_:=Aside0.mk (Kd.R_below (by (with_reducible repeat (first | apply zz12 | apply zz13 | apply zz14));exact HO_791001.out) hb);have n2_:=Aside0.mk (zz11 (g:=gb781) (o:=.cells #[.int .i64 t776,.slice Ao13 t777.length co13] 29 (0,0)) (by (with_reducible repeat (first | refine zz6 ?_ _ | refine zz7 ?_ | refine zz8 ?_ _));exact BK781.out) hb);have n3_:=Aside0.mk (zz11 (g:=gb790) (o:=.cells #[.int .i64 t785,.slice Ao20 t786.length co20] 29 (0,0)) (by (with_reducible repeat (first | refine zz6 ?_ _ | refine zz7 ?_ | refine zz8 ?_ _));exact BK790.out) hb);have n4_:=Aside0.mk (zz4 (by repeat first | exact HB.out | apply zz2 | apply zz0 | apply zz1 | refine zz3 ?_ GE781.out | refine zz3 ?_ GE790.out) hb);clear HO_782001;clear HO_791001;clear BK781;clear BK790;clear HB;have HO_782001:=n0_;have HO_791001:=n1_;have BK781:=n2_;have BK790:=n3_;have HB:=n4_;clear n0_ n1_ n2_ n3_ n4_;(try clear hb);(try clear hb2);(try clear hk);(try clear hi)))
           go_ret
           exact ⟨by first | rfl | (simp [errW_none,errW_some] <;> rfl) | (simp [*,errW_none,errW_some] <;> rfl),by repeat first | exact HB.out | apply zz2 | apply zz0 | apply zz1 | refine zz3 ?_ GE781.out | refine zz3 ?_ GE790.out⟩
     ·replace c34:=Bool.eq_false_iff.mpr c34
      subst c34
      have H1:(some false)=some r:=by rw [if_neg (show ¬ (false=true) by decide)] at H;exact H
      clear H
      have H:=H1
      clear H1
      obtain rfl:=Option.some.inj H
      go_wp2_with (first | ((with_reducible refine gate_callee (f:=31) rfl ?_);refine goesL_ (some 40) rfl rfl Try.func31 (by kernel_rfl) rfl #[.slice A0 l0.length c0] rfl (by (try simp only [zz26,zz27,zz28]);first | done | rfl | (simp only [zz24,zz25];rfl) | (simp only [zz25];congr;(try simp only [decide_eq_true_eq] at *);omega)) ?_;(with_reducible refine (laws_toIntS.calls kj6 _ _ l0 t792 _ ?side1 ?side2 A32.out).mono ?_);(case side1=>repeat (first | exact (Kd.C_below HR0.out HB.out) | (with_reducible refine zz18 ?_ _) | (with_reducible refine zz19 ?_ _) | (with_reducible refine zz20 ?_)));(case side2=>exact HC0.out);rintro e w112 ⟨v793,rfl,ho0,hb⟩;refine ⟨_,rfl,?_⟩;have n0_:=Aside0.mk (Kd.R_elder' (by (with_reducible repeat (first | apply zz12 | apply zz13 | apply zz14));exact HO_5.out) (Kd.R_base ho0) hb);have n1_:=Aside0.mk (Kd.R_below (by (with_reducible repeat (first | apply zz12 | apply zz13 | apply zz14));exact HO_782001.out) hb);have n2_:=Aside0.mk (Kd.R_below (by (with_reducible repeat (first | apply zz12 | apply zz13 | apply zz14));exact HO_791001.out) hb);have n3_:=Aside0.mk (Kd.R_lower (Kd.R_new' ho0 (Kd.R_lt (by (with_reducible repeat (first | apply zz12 | apply zz13 | apply zz14));exact HO_5.out))) (zz5 (by repeat first | exact HB.out | apply zz2 | apply zz0 | apply zz1 | refine zz3 ?_ GE781.out | refine zz3 ?_ GE790.out)));have n4_:=Aside0.mk (zz11 (g:=gb781) (o:=.cells #[.int .i64 t776,.slice Ao13 t777.length co13] 29 (0,0)) (by (with_reducible repeat (first | refine zz6 ?_ _ | refine zz7 ?_ | refine zz8 ?_ _));exact BK781.out) hb);have n5_:=Aside0.mk (zz11 (g:=gb790) (o:=.cells #[.int .i64 t785,.slice Ao20 t786.length co20] 29 (0,0)) (by (with_reducible repeat (first | refine zz6 ?_ _ | refine zz7 ?_ | refine zz8 ?_ _));exact BK790.out) hb);have n6_:=Aside0.mk (zz4 (by repeat first | exact HB.out | apply zz2 | apply zz0 | apply zz1 | refine zz3 ?_ GE781.out | refine zz3 ?_ GE790.out) hb);clear HO_5;clear HO_782001;clear HO_791001;clear BK781;clear BK790;clear HB;have HO_5:=n0_;have HO_782001:=n1_;have HO_791001:=n2_;have HO794:=n3_;have BK781:=n4_;have BK790:=n5_;have HB:=n6_;clear n0_ n1_ n2_ n3_ n4_ n5_ n6_;(try clear hb);(try clear hb2);(try clear hk);(try clear hi);(try clear ho0);obtain ⟨Ao113,co113,eo113⟩:=Kd.R_slice HO794.out;subst eo113) | ((with_reducible refine gate_callee (f:=33) rfl ?_);refine goesL_ (some 41) rfl rfl Try.func33 (by kernel_rfl) rfl #[.slice Ao15 t782.length co15,.slice Ao113 t792.length co113] rfl (by (try simp only [zz26,zz27,zz28]);first | done | rfl | (simp only [zz24,zz25];rfl) | (simp only [zz25];congr;(try simp only [decide_eq_true_eq] at *);omega)) ?_;(with_reducible refine (laws_eqIntS.calls kj6 _ _ t782 _ _ t792 false _ ?side1 ?side2 ?side3 ?side4 A33.out).mono ?_);(case side1=>repeat (first | exact (Kd.R_reads' HO_5.out).2.2 | (with_reducible refine zz18 ?_ _) | (with_reducible refine zz19 ?_ _) | (with_reducible refine zz20 ?_)));(case side2=>exact (Kd.R_reads' HO_5.out).2.1);(case side3=>repeat (first | exact (Kd.R_reads' HO794.out).2.2 | (with_reducible refine zz18 ?_ _) | (with_reducible refine zz19 ?_ _) | (with_reducible refine zz20 ?_)));(case side4=>exact (Kd.R_reads' HO794.out).2.1);rintro e w' ⟨rfl,⟨nd,rfl⟩⟩;refine ⟨_,rfl,?_⟩))
      go_ret
      exact ⟨by first | rfl | (simp [errW_none,errW_some] <;> rfl) | (simp [*,errW_none,errW_some] <;> rfl),by repeat first | exact HB.out | apply zz2 | apply zz0 | apply zz1 | refine zz3 ?_ GE781.out | refine zz3 ?_ GE790.out⟩

/-- THE ONE PURE STATEMENT of laws_FnExactPartsParty: yours. -/
def laws_FnExactPartsParty.Pure:Prop:=∀ (l0:List Int),l0.length≤maxLen→l0.length * 8≤140737488351232→(∀ x ∈ l0,(Lit.int .i64 x).wf=true)→∃ k,laws_FnExactPartsParty.f k l0=some true
theorem laws_FnExactPartsParty.walk (P:laws_FnExactPartsParty.Pure) (a0:Option Addr) (len0 cap0:Nat) (z0:List Int) (w:World) (w0:(a0=none∧len0=0∧cap0=0∧z0=[]) ∨ ∃ x,a0=some x∧len0≤cap0∧cap0≤maxLen∧z0.length=cap0∧(∀ i,i < z0.length→w.cell? (x.add i)=some (.int .i64 (z0.getD i 0)))∧∀ n ∈ z0,(Lit.int .i64 n).wf=true) (y0:len0 * 8≤140737488351232) :
  Calls Try.prog 14 #[.slice a0 len0 cap0] w fun e w'=>e=.returned (.bool true)∧Below w.heap.size w w':=by
 obtain ⟨l0,rfl,hr0,hm0,hw0,hc0⟩:=ReadsInt.ofRowC w0
 obtain ⟨k,h⟩:=P l0 hm0 y0 hw0
 refine (laws_FnExactPartsParty.calls k _ _ l0 true w (Kd.C_of_reads (d:=(0:Int)) (h1:=fun _=>rfl) hr0) hc0 h).mono ?_
 rintro e w' ⟨rfl,hd⟩
 exact ⟨rfl,hd⟩

end Go.Proofs.Ytiopgbpjkjnphaa.P
