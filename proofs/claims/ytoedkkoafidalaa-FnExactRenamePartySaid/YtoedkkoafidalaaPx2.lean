-- PRINTED by print.py (a twelfth state) out of the translation. Not trusted: Lean checks it.
import Derived.Test.YtoedkkoafidalaaPx0
import Derived.Test.YtoedkkoafidalaaPx1
namespace Go.Proofs.Ytoedkkoafidalaa.P
open Go.RowKit Go.Proofs.YtoedkkoafidalaaW.PrintWords Go.Proofs.YtoedkkoafidalaaW.PrintLast Go.Proofs.YtoedkkoafidalaaW.PrintMore
open Bool renaming true → T, false → F
attribute [local go_sem] max2_int min2_int max_two min_two max_three min_three max_four min_four   -- for this text's walks alone
set_option linter.unusedVariables false
set_option linter.unusedSimpArgs false

/-! ### spec_paGood: function 46 -/
mutual
def spec_paGood.j0:Nat→Bool→Int→List (S70)→Option (Bool)
 | 0,_,_,_=>none
 | k+1,x21,x140000,x140001=>if x21=true then (some false) else (spec_paGood.l0 k x140001 (x140001.length:Int) 0 x140000 x140001)
def spec_paGood.l0:Nat→List (S70)→Int→Int→Int→List (S70)→Option (Bool)
 | 0,_,_,_,_,_=>none
 | k+1,x23,x24,x25,x140000,x140001=>if x25 < x24 then (if 0≤x25 then (if x25 < (x23.length:Int) then ((spec_l1In.f ((rd_T70 x23 x25).f0) 0 (wrap64 (x140000 - 1))).bind fun t143=>(if t143=true then ((spec_l1In.f ((rd_T70 x23 x25).f1) (wrap64 (((rd_T70 x23 x25).f0)+1)) (wrap64 (x140000 - 1))).bind fun t144=>(if t144=true then (if x25 > 0 then (if 0≤(wrap64 (x25 - 1)) then (if (wrap64 (x25 - 1)) < (x140001.length:Int) then ((spec_paLess.f ((rd_T70 x140001 (wrap64 (x25 - 1))).f0) ((rd_T70 x140001 (wrap64 (x25 - 1))).f1) ((rd_T70 x23 x25).f0) ((rd_T70 x23 x25).f1)).bind fun t146=>(if t146=true then (spec_paGood.l0 k x23 x24 (wrap64 (x25+1)) x140000 x140001) else (some false))) else (none)) else (none)) else (spec_paGood.l0 k x23 x24 (wrap64 (x25+1)) x140000 x140001)) else (some false))) else (some false))) else (none)) else (none)) else (some true)
end
def spec_paGood.f (k:Nat) (a0_0:Int) (l0_1:List (S70)):Option (Bool):=(spec_paPeople.f a0_0).bind fun t140=>(if t140=true then (spec_paGood.j0 k (decide ((l0_1.length:Int) > (wrap64 (Int.tdiv (wrap64 (a0_0 * (wrap64 (a0_0 - 1)))) 2)))) a0_0 l0_1) else (spec_paGood.j0 k true a0_0 l0_1))
theorem spec_paGood.mono_l:∀ k,(∀ y0 y1 y2,LeO (spec_paGood.j0 k y0 y1 y2) (spec_paGood.j0 (k+1) y0 y1 y2))∧(∀ y0 y1 y2 y3 y4,LeO (spec_paGood.l0 k y0 y1 y2 y3 y4) (spec_paGood.l0 (k+1) y0 y1 y2 y3 y4))
 | 0=>⟨fun _ _ _ r h=>by simp [spec_paGood.j0] at h,fun _ _ _ _ _ r h=>by simp [spec_paGood.l0] at h⟩
 | k+1=>by
  obtain ⟨ih0,ih1⟩:=spec_paGood.mono_l k
  refine ⟨?_,?_⟩
  ·intro y0 y1 y2
   unfold spec_paGood.j0
   repeat' first
   | (with_reducible exact ih0 _ _ _)
   | (with_reducible exact ih1 _ _ _ _ _)
   | (with_reducible exact LeO.refl _)
   | (with_reducible exact LeO.none _)
   | (with_reducible refine LeO.ite ?_ ?_)
   | (with_reducible refine LeO.bind ?_ (fun _=>?_))
   | exact ih0 _ _ _
   | exact ih1 _ _ _ _ _
   | exact LeO.none _
   | refine LeO.ite ?_ ?_
   | refine LeO.bind ?_ (fun _=>?_)
  ·intro y0 y1 y2 y3 y4
   unfold spec_paGood.l0
   repeat' first
   | (with_reducible exact ih0 _ _ _)
   | (with_reducible exact ih1 _ _ _ _ _)
   | (with_reducible exact LeO.refl _)
   | (with_reducible exact LeO.none _)
   | (with_reducible refine LeO.ite ?_ ?_)
   | (with_reducible refine LeO.bind ?_ (fun _=>?_))
   | exact ih0 _ _ _
   | exact ih1 _ _ _ _ _
   | exact LeO.none _
   | refine LeO.ite ?_ ?_
   | refine LeO.bind ?_ (fun _=>?_)
theorem spec_paGood.mono:∀ a0 a1 k,LeO (spec_paGood.f k a0 a1) (spec_paGood.f (k+1) a0 a1):=by
 intro a0 a1 k
 obtain ⟨ih0,ih1⟩:=spec_paGood.mono_l k
 unfold spec_paGood.f
 repeat' first
   | (with_reducible exact ih0 _ _ _)
   | (with_reducible exact ih1 _ _ _ _ _)
   | (with_reducible exact LeO.refl _)
   | (with_reducible exact LeO.none _)
   | (with_reducible refine LeO.ite ?_ ?_)
   | (with_reducible refine LeO.bind ?_ (fun _=>?_))
   | exact ih0 _ _ _
   | exact ih1 _ _ _ _ _
   | exact LeO.none _
   | refine LeO.ite ?_ ?_
   | refine LeO.bind ?_ (fun _=>?_)
def spec_paGood.T6:Bool × List (List Nat × List Nat):=(true,[([],[]),([0],[0]),([],[]),([2],[2]),([3],[3]),([1,4],[1,4]),([5],[5]),([6,5],[6]),([7],[7]),([8,7],[7,8]),([7],[7]),([10,7],[7,10]),([11,7],[7,11]),([7],[7]),([13,7],[7,13]),([14,7],[7,14]),([9,12,15,7,7],[7,9,12,15]),([16,7],[7,16]),([7,17],[7,17]),([18,16],[18]),([19],[19]),([20,19],[19,20]),([21,19,19],[19,21]),([22],[22]),([23,22],[22,23]),([22],[22]),([25,22],[22,25]),([24,26,22],[22,24,26]),([27,22],[22,27]),([22],[22]),([28,29,22,22],[22,28,29]),([30,22],[22,30]),([22,31,19],[19,22,31]),([19,32],[19,32])])
def spec_paGood.B6:List Nat:=[0,1,0,4,12,31,63,127,255,511,255,1279,3327,255,8447,24831,65535,131071,262143,524287,1048575,2097151,4194303,8388607,16777215,8388607,41943039,134217727,268435455,8388607,1073741823,2147483647,4294967295,8589934591]
theorem spec_paGood.tab6:rtab .any (opsOf Try.f46 6)=spec_paGood.T6:=by kernel_rfl
theorem spec_paGood.bits6:waitsOk spec_paGood.T6.2 spec_paGood.B6=true:=by kernel_rfl
set_option maxHeartbeats 8000000 in
set_option maxRecDepth 100000 in
theorem spec_paGood.calls (k:Nat) (a0_0:Int) (A0_1:Option Addr) (c0_1:Nat) (l0_1:List (S70)) (r:Bool) (w:World) (hr0_1:Kd.C k70 w A0_1 l0_1.length l0_1) (hc0_1:l0_1.length≤c0_1) (h:spec_paGood.f k a0_0 l0_1=some r) :
  Calls Try.prog 46 #[.agg #[.int .i64 a0_0,.slice A0_1 l0_1.length c0_1]] w fun e w'=>e=.returned (.bool r)∧Below w.heap.size w w':=by
 have hu30:=Try.underlying30
 have hu70:=Try.underlying70
 have HR0_1:=zz31 hr0_1
 have HC0_1:=zz31 hc0_1
 clear hr0_1 hc0_1
 have HB:=zz31 (Below.refl w.heap.size w)
 have H:((spec_paPeople.f a0_0).bind fun t140=>(if t140=true then (spec_paGood.j0 k (decide ((l0_1.length:Int) > (wrap64 (Int.tdiv (wrap64 (a0_0 * (wrap64 (a0_0 - 1)))) 2)))) a0_0 l0_1) else (spec_paGood.j0 k true a0_0 l0_1)))=some r:=h
 clear h
 have HC2:=zz31 H
 clear H
 go_enter Try.func46,Try.ntmps46
 go_upto_region 1 with (first | ((with_reducible refine gate_dst (N:=1) rfl ?_);(try (refine gate_guard (by rfl) ?_;dsimp only));refine box_event ?hg (N:=1) ?hd (cs:=#[.int .i64 a0_0,.slice A0_1 l0_1.length c0_1]) (t:=30) ?hr ?_;(case hd=>rfl);(case hg=>rfl);(case hr=>first | (go_simp;done) | (go_simp;rfl));intro gb139 hg w3 hbox hb;have n0_:=zz31 (zz4 (by repeat first | exact HB.out | apply zz2 | apply zz0 | apply zz1) hb);have n1_:=zz31 (hbox);have n2_:=zz31 ((by rw [hg];exact (zz5 (by repeat first | exact HB.out | apply zz2 | apply zz0 | apply zz1)):w.heap.size≤gb139));have n3_:=zz31 ((by rw [hg];exact (zz5 (by repeat first | exact HB.out | apply zz2 | apply zz0 | apply zz1)):w.heap.size≤gb139));clear HB;have HB:=n0_;have BK139:=n1_;have GW139:=n2_;have GE139:=n3_;clear n0_ n1_ n2_ n3_;clear hb hbox hg))
 (try simp only [Act.put,zz21,zz22,zz23])
 go_cut [21] (fun v21 wc=>∃ (kq:Nat) (x21_1:Bool),v21=.bool x21_1∧Aside0 (spec_paGood.j0 kq x21_1 a0_0 l0_1=some r)∧Aside0 (kq≤k)∧Aside0 (wc.heap[gb139]?=some (.cells #[.int .i64 a0_0,(.slice A0_1 l0_1.length c0_1)] 30 (0,0)))∧Aside0 (Below w.heap.size w wc))
 case first =>
  have H:=HC2.out
  clear HC2
  replace H:=zz30.mp H
  obtain ⟨t140,A40,H⟩:=H
  replace H:(if t140=true then (spec_paGood.j0 k (decide ((l0_1.length:Int) > (wrap64 (Int.tdiv (wrap64 (a0_0 * (wrap64 (a0_0 - 1)))) 2)))) a0_0 l0_1) else (spec_paGood.j0 k true a0_0 l0_1))=some r:=H
  have A4:=zz31 A40
  clear A40
  by_cases c5:t140=true
  ·subst c5
   have H1:(spec_paGood.j0 k (decide ((l0_1.length:Int) > (wrap64 (Int.tdiv (wrap64 (a0_0 * (wrap64 (a0_0 - 1)))) 2)))) a0_0 l0_1)=some r:=by rw [if_pos rfl] at H;exact H
   clear H
   have H:=H1
   clear H1
   have H':=zz31 H
   clear H
   have hcz6_0:w3.cell? ⟨gb139,0,none⟩=some (.int .i64 a0_0):=(zz9 BK139.out 0).trans rfl
   have hcz6_1:w3.cell? ⟨gb139,1,none⟩=some (.slice A0_1 l0_1.length c0_1):=(zz9 BK139.out 1).trans rfl
   have hfz6_0:=zz10 BK139.out 0
   have hfz6_1:=zz10 BK139.out 1
   go_wp2_with (first | ((with_reducible refine gate_callee (f:=73) rfl ?_);refine goesL_ (some 7) rfl rfl Try.func73 (by kernel_rfl) rfl #[.int .i64 a0_0] rfl (by (try simp only [zz26,zz27,zz28]);first | done | rfl | (simp only [zz24,zz25];rfl)) ?_;(with_reducible refine (spec_paPeople.calls a0_0 true _ A4.out).mono ?_);rintro e w' ⟨rfl,⟨nd,rfl⟩⟩;refine ⟨_,rfl,?_⟩))
   go_meet
   case rel=>exact ⟨_,(decide ((l0_1.length:Int) > (wrap64 (Int.tdiv (wrap64 (a0_0 * (wrap64 (a0_0 - 1)))) 2)))),(by first | rfl | (simp;done) | (simp [*];done)),H',⟨by first | omega | exact Nat.le_refl _⟩,⟨by (with_reducible repeat (first | refine zz6 ?_ _ | refine zz7 ?_ | refine zz8 ?_ _));exact BK139.out⟩,⟨by repeat first | exact HB.out | apply zz2 | apply zz0 | apply zz1 | refine zz3 ?_ GE139.out⟩⟩
  ·replace c5:=Bool.eq_false_iff.mpr c5
   subst c5
   have H1:(spec_paGood.j0 k true a0_0 l0_1)=some r:=by rw [if_neg (show ¬ (false=true) by decide)] at H;exact H
   clear H
   have H:=H1
   clear H1
   have H':=zz31 H
   clear H
   have hcz7_0:w3.cell? ⟨gb139,0,none⟩=some (.int .i64 a0_0):=(zz9 BK139.out 0).trans rfl
   have hcz7_1:w3.cell? ⟨gb139,1,none⟩=some (.slice A0_1 l0_1.length c0_1):=(zz9 BK139.out 1).trans rfl
   have hfz7_0:=zz10 BK139.out 0
   have hfz7_1:=zz10 BK139.out 1
   go_wp2_with (first | ((with_reducible refine gate_callee (f:=73) rfl ?_);refine goesL_ (some 7) rfl rfl Try.func73 (by kernel_rfl) rfl #[.int .i64 a0_0] rfl (by (try simp only [zz26,zz27,zz28]);first | done | rfl | (simp only [zz24,zz25];rfl)) ?_;(with_reducible refine (spec_paPeople.calls a0_0 false _ A4.out).mono ?_);rintro e w' ⟨rfl,⟨nd,rfl⟩⟩;refine ⟨_,rfl,?_⟩))
   go_meet
   case rel=>exact ⟨_,(true),(by first | rfl | (simp;done) | (simp [*];done)),H',⟨by first | omega | exact Nat.le_refl _⟩,⟨by (with_reducible repeat (first | refine zz6 ?_ _ | refine zz7 ?_ | refine zz8 ?_ _));exact BK139.out⟩,⟨by repeat first | exact HB.out | apply zz2 | apply zz0 | apply zz1 | refine zz3 ?_ GE139.out⟩⟩
 case rest =>
  clear HC2
  try clear p2
  try clear c4
  try clear c5
  try clear p6
  try clear c7
  try clear hcz6_0
  try clear hcz6_1
  try clear hcz7_0
  try clear hcz7_1
  try clear hfz6_0
  try clear hfz6_1
  try clear hfz7_0
  try clear hfz7_1
  obtain ⟨kq,x21_1,rfl,HA,HJ1,BK139,HB⟩:=hcut
  cases kq with
  | zero=>exact absurd HA.out (by simp [spec_paGood.j0])
  | succ kj1 =>
   have H:=HA.out
   clear HA
   simp only [spec_paGood.j0] at H
   by_cases c8:x21_1=true
   ·subst c8
    have H1:(some false)=some r:=by rw [if_pos rfl] at H;exact H
    clear H
    have H:=H1
    clear H1
    obtain rfl:=Option.some.inj H
    go_wp2
    go_ret
    exact ⟨by first | rfl | (simp [errW_none,errW_some] <;> rfl) | (simp [*,errW_none,errW_some] <;> rfl),by repeat first | exact HB.out | apply zz2 | apply zz0 | apply zz1 | refine zz3 ?_ GE139.out⟩
   ·replace c8:=Bool.eq_false_iff.mpr c8
    subst c8
    have H1:(spec_paGood.l0 kj1 l0_1 (l0_1.length:Int) 0 a0_0 l0_1)=some r:=by rw [if_neg (show ¬ (false=true) by decide)] at H;exact H
    clear H
    have H:=H1
    clear H1
    have H':=zz31 H
    clear H
    have hcz9_0:wc.cell? ⟨gb139,0,none⟩=some (.int .i64 a0_0):=(zz9 BK139.out 0).trans rfl
    have hcz9_1:wc.cell? ⟨gb139,1,none⟩=some (.slice A0_1 l0_1.length c0_1):=(zz9 BK139.out 1).trans rfl
    have hfz9_0:=zz10 BK139.out 0
    have hfz9_1:=zz10 BK139.out 1
    go_wp2
    go_loopg [25] kj1 (fun kq v25 w'=>∃ (x25_2:Int),v25=.int .i64 x25_2∧Aside0 (spec_paGood.l0 kq l0_1 (l0_1.length:Int) x25_2 a0_0 l0_1=some r)∧Aside0 (kq≤kj1)∧Aside0 (w'.heap[gb139]?=some (.cells #[.int .i64 a0_0,(.slice A0_1 l0_1.length c0_1)] 30 (0,0)))∧Aside0 (Below w.heap.size w w'))
    case atStart=>exact ⟨(0),(by first | rfl | (simp;done) | (simp [*];done)),H',⟨Nat.le_refl _⟩,⟨by (with_reducible repeat (first | refine zz6 ?_ _ | refine zz7 ?_ | refine zz8 ?_ _));exact BK139.out⟩,⟨by repeat first | exact HB.out | apply zz2 | apply zz0 | apply zz1 | refine zz3 ?_ GE139.out⟩⟩
    case round =>
     clear H'
     try clear p2
     try clear c4
     try clear c5
     try clear p6
     try clear c7
     try clear c8
     try clear hcz6_0
     try clear hcz6_1
     try clear hcz7_0
     try clear hcz7_1
     try clear hcz9_0
     try clear hcz9_1
     try clear hfz6_0
     try clear hfz6_1
     try clear hfz7_0
     try clear hfz7_1
     try clear hfz9_0
     try clear hfz9_1
     try clear p2
     try clear p6
     obtain ⟨x25_2,rfl,HA,HK2,BK139,HB⟩:=hrel
     cases gk with
     | zero=>exact absurd HA.out (by simp [spec_paGood.l0])
     | succ k2 =>
      have H:=HA.out
      clear HA
      simp only [spec_paGood.l0] at H
      by_cases c10:x25_2 < (l0_1.length:Int)
      ·rw [if_pos c10] at H
       have c10b0:decide (x25_2 < (l0_1.length:Int))=true:=decide_eq_true c10
       clear c10
       by_cases c11:0≤x25_2
       ·rw [if_pos c11] at H
        have c11b0:decide (0≤x25_2)=true:=decide_eq_true c11
        clear c11
        by_cases c12:x25_2 < (l0_1.length:Int)
        ·rw [if_pos c12] at H
         have c12b0:decide (x25_2 < (l0_1.length:Int))=true:=decide_eq_true c12
         clear c12
         replace H:=zz30.mp H
         obtain ⟨t143,A130,H⟩:=H
         replace H:(if t143=true then ((spec_l1In.f ((rd_T70 l0_1 x25_2).f1) (wrap64 (((rd_T70 l0_1 x25_2).f0)+1)) (wrap64 (a0_0 - 1))).bind fun t144=>(if t144=true then (if x25_2 > 0 then (if 0≤(wrap64 (x25_2 - 1)) then (if (wrap64 (x25_2 - 1)) < (l0_1.length:Int) then ((spec_paLess.f ((rd_T70 l0_1 (wrap64 (x25_2 - 1))).f0) ((rd_T70 l0_1 (wrap64 (x25_2 - 1))).f1) ((rd_T70 l0_1 x25_2).f0) ((rd_T70 l0_1 x25_2).f1)).bind fun t146=>(if t146=true then (spec_paGood.l0 k2 l0_1 (l0_1.length:Int) (wrap64 (x25_2+1)) a0_0 l0_1) else (some false))) else (none)) else (none)) else (spec_paGood.l0 k2 l0_1 (l0_1.length:Int) (wrap64 (x25_2+1)) a0_0 l0_1)) else (some false))) else (some false))=some r:=H
         have A13:=zz31 A130
         clear A130
         by_cases c14:t143=true
         ·subst c14
          have H1:((spec_l1In.f ((rd_T70 l0_1 x25_2).f1) (wrap64 (((rd_T70 l0_1 x25_2).f0)+1)) (wrap64 (a0_0 - 1))).bind fun t144=>(if t144=true then (if x25_2 > 0 then (if 0≤(wrap64 (x25_2 - 1)) then (if (wrap64 (x25_2 - 1)) < (l0_1.length:Int) then ((spec_paLess.f ((rd_T70 l0_1 (wrap64 (x25_2 - 1))).f0) ((rd_T70 l0_1 (wrap64 (x25_2 - 1))).f1) ((rd_T70 l0_1 x25_2).f0) ((rd_T70 l0_1 x25_2).f1)).bind fun t146=>(if t146=true then (spec_paGood.l0 k2 l0_1 (l0_1.length:Int) (wrap64 (x25_2+1)) a0_0 l0_1) else (some false))) else (none)) else (none)) else (spec_paGood.l0 k2 l0_1 (l0_1.length:Int) (wrap64 (x25_2+1)) a0_0 l0_1)) else (some false)))=some r:=by rw [if_pos rfl] at H;exact H
          clear H
          have H:=H1
          clear H1
          replace H:=zz30.mp H
          obtain ⟨t144,A150,H⟩:=H
          replace H:(if t144=true then (if x25_2 > 0 then (if 0≤(wrap64 (x25_2 - 1)) then (if (wrap64 (x25_2 - 1)) < (l0_1.length:Int) then ((spec_paLess.f ((rd_T70 l0_1 (wrap64 (x25_2 - 1))).f0) ((rd_T70 l0_1 (wrap64 (x25_2 - 1))).f1) ((rd_T70 l0_1 x25_2).f0) ((rd_T70 l0_1 x25_2).f1)).bind fun t146=>(if t146=true then (spec_paGood.l0 k2 l0_1 (l0_1.length:Int) (wrap64 (x25_2+1)) a0_0 l0_1) else (some false))) else (none)) else (none)) else (spec_paGood.l0 k2 l0_1 (l0_1.length:Int) (wrap64 (x25_2+1)) a0_0 l0_1)) else (some false))=some r:=H
          have A15:=zz31 A150
          clear A150
          by_cases c16:t144=true
          ·subst c16
           have H1:(if x25_2 > 0 then (if 0≤(wrap64 (x25_2 - 1)) then (if (wrap64 (x25_2 - 1)) < (l0_1.length:Int) then ((spec_paLess.f ((rd_T70 l0_1 (wrap64 (x25_2 - 1))).f0) ((rd_T70 l0_1 (wrap64 (x25_2 - 1))).f1) ((rd_T70 l0_1 x25_2).f0) ((rd_T70 l0_1 x25_2).f1)).bind fun t146=>(if t146=true then (spec_paGood.l0 k2 l0_1 (l0_1.length:Int) (wrap64 (x25_2+1)) a0_0 l0_1) else (some false))) else (none)) else (none)) else (spec_paGood.l0 k2 l0_1 (l0_1.length:Int) (wrap64 (x25_2+1)) a0_0 l0_1))=some r:=by rw [if_pos rfl] at H;exact H
           clear H
           have H:=H1
           clear H1
           by_cases c17:x25_2 > 0
           ·rw [if_pos c17] at H
            have c17b0:decide (0 < x25_2)=true:=decide_eq_true c17
            clear c17
            obtain ⟨ji18,hji18⟩:∃ j_:Int,(wrap64 (x25_2 - 1))=j_:=⟨_,rfl⟩
            replace H:(if 0≤(ji18) then (if (ji18) < (l0_1.length:Int) then ((spec_paLess.f ((rd_T70 l0_1 (ji18)).f0) ((rd_T70 l0_1 (ji18)).f1) ((rd_T70 l0_1 x25_2).f0) ((rd_T70 l0_1 x25_2).f1)).bind fun t146=>(if t146=true then (spec_paGood.l0 k2 l0_1 (l0_1.length:Int) (wrap64 (x25_2+1)) a0_0 l0_1) else (some false))) else (none)) else (none))=some r:=by first | (rw [hji18] at H;exact H) | (simp only [hji18] at H ⊢;exact H)
            (try rw [hji18] at A13)
            (try rw [hji18] at A15)
            have hji18w:(IntKind.i64.wrap (x25_2 - 1))=ji18:=(i64_w _).trans hji18
            by_cases c19:0≤(ji18)
            ·rw [if_pos c19] at H
             have c19b0:decide (0≤(ji18))=true:=decide_eq_true c19
             clear c19
             by_cases c20:(ji18) < (l0_1.length:Int)
             ·rw [if_pos c20] at H
              have c20b0:decide ((ji18) < (l0_1.length:Int))=true:=decide_eq_true c20
              clear c20
              replace H:=zz30.mp H
              obtain ⟨t146,A210,H⟩:=H
              replace H:(if t146=true then (spec_paGood.l0 k2 l0_1 (l0_1.length:Int) (wrap64 (x25_2+1)) a0_0 l0_1) else (some false))=some r:=H
              have A21:=zz31 A210
              clear A210
              by_cases c22:t146=true
              ·subst c22
               have H1:(spec_paGood.l0 k2 l0_1 (l0_1.length:Int) (wrap64 (x25_2+1)) a0_0 l0_1)=some r:=by rw [if_pos rfl] at H;exact H
               clear H
               have H:=H1
               clear H1
               have H':=zz31 H
               clear H
               have p141:0≤(x25_2:Int):=zz29 (by first | (with_reducible assumption) | assumption)
               have q141:x25_2 < (l0_1.length:Int):=zz29 (by first | (with_reducible assumption) | assumption)
               obtain ⟨ad141,e141,hx141_0,hx141_1⟩:=at_T70 HR0_1.out x25_2 p141 q141
               cases e141
               try replace hx141_0:=(HB.out.cell (World.block_lt_of_cell? w _ hx141_0)).trans hx141_0
               try replace hx141_1:=(HB.out.cell (World.block_lt_of_cell? w _ hx141_1)).trans hx141_1
               replace p141:=eq_true p141
               replace q141:=eq_true q141
               try go_wp2_with (first | ((with_reducible refine gate_dst (N:=4) rfl ?_);(try (refine gate_guard (by rfl) ?_;dsimp only));refine box_event ?hg (N:=4) ?hd (cs:=#[.int .i64 0,.int .i64 0]) (t:=70) ?hr ?_;(case hd=>rfl);(case hg=>rfl);(case hr=>first | (go_simp;done) | (go_simp;rfl));intro gb142 hg w23 hbox hb;have n0_:=zz31 (zz11 (g:=gb139) (o:=.cells #[.int .i64 a0_0,.slice (some ad141) l0_1.length c0_1] 30 (0,0)) (by (with_reducible repeat (first | refine zz6 ?_ _ | refine zz7 ?_ | refine zz8 ?_ _));exact BK139.out) hb);have n1_:=zz31 (zz4 (by repeat first | exact HB.out | apply zz2 | apply zz0 | apply zz1 | refine zz3 ?_ GE139.out) hb);have n2_:=zz31 (hbox);have n3_:=zz31 ((by rw [hg];exact (zz5 (by repeat first | exact HB.out | apply zz2 | apply zz0 | apply zz1 | refine zz3 ?_ GE139.out)):w.heap.size≤gb142));have n4_:=zz31 ((by rw [hg];exact (zz5 (by repeat first | exact HB.out | apply zz2 | apply zz0 | apply zz1 | refine zz3 ?_ GE139.out)):w.heap.size≤gb142));have n5_:=zz31 ((by rw [hg];exact Nat.ne_of_lt (blk_lt (g:=gb139) (o:=.cells #[.int .i64 a0_0,.slice (some ad141) l0_1.length c0_1] 30 (0,0)) (by (with_reducible repeat (first | refine zz6 ?_ _ | refine zz7 ?_ | refine zz8 ?_ _));exact BK139.out)):gb139 ≠ gb142));have n6_:=zz31 ((by rw [hg];exact Nat.ne_of_gt (blk_lt (g:=gb139) (o:=.cells #[.int .i64 a0_0,.slice (some ad141) l0_1.length c0_1] 30 (0,0)) (by (with_reducible repeat (first | refine zz6 ?_ _ | refine zz7 ?_ | refine zz8 ?_ _));exact BK139.out)):gb142 ≠ gb139));clear BK139;clear HB;have BK139:=n0_;have HB:=n1_;have BK142:=n2_;have GW142:=n3_;have GE142:=n4_;have NB139_142:=n5_;have NB142_139:=n6_;clear n0_ n1_ n2_ n3_ n4_ n5_ n6_;clear hb hbox hg;have hnb24:=NB142_139.out;have hnc24:=NB139_142.out;have hcz25_0:w23.cell? ⟨gb142,0,none⟩=some (.int .i64 0):=(zz9 BK142.out 0).trans rfl;have hcz25_1:w23.cell? ⟨gb142,1,none⟩=some (.int .i64 0):=(zz9 BK142.out 1).trans rfl;have hfz25_0:=zz10 BK142.out 0;have hfz25_1:=zz10 BK142.out 1))
               have n0_:Aside0 (((w23.setCell ⟨gb142,0,none⟩ (.int .i64 ((rd_T70 l0_1 x25_2).f0))).setCell ⟨gb142,1,none⟩ (.int .i64 ((rd_T70 l0_1 x25_2).f1))).heap[gb139]?=some (.cells #[.int .i64 a0_0,.slice (some ad141) l0_1.length c0_1] 30 (0,0))):=⟨by (with_reducible repeat (first | refine zz6 ?_ _ | refine zz7 ?_ | refine zz8 ?_ _));refine blk_far ?_ NB139_142.out _;(with_reducible repeat (first | refine zz6 ?_ _ | refine zz7 ?_ | refine zz8 ?_ _));refine blk_far ?_ NB139_142.out _;(with_reducible repeat (first | refine zz6 ?_ _ | refine zz7 ?_ | refine zz8 ?_ _));exact BK139.out⟩
               have n1_:Aside0 (((w23.setCell ⟨gb142,0,none⟩ (.int .i64 ((rd_T70 l0_1 x25_2).f0))).setCell ⟨gb142,1,none⟩ (.int .i64 ((rd_T70 l0_1 x25_2).f1))).heap[gb142]?=some (.cells #[.int .i64 ((rd_T70 l0_1 x25_2).f0),.int .i64 ((rd_T70 l0_1 x25_2).f1)] 70 (0,0))):=⟨by (with_reducible repeat (first | refine zz6 ?_ _ | refine zz7 ?_ | refine zz8 ?_ _));refine blk_put (cs:=#[.int .i64 ((rd_T70 l0_1 x25_2).f0),.int .i64 0]) ?_ 1 _ rfl;(with_reducible repeat (first | refine zz6 ?_ _ | refine zz7 ?_ | refine zz8 ?_ _));refine blk_put (cs:=#[.int .i64 0,.int .i64 0]) ?_ 0 _ rfl;(with_reducible repeat (first | refine zz6 ?_ _ | refine zz7 ?_ | refine zz8 ?_ _));exact BK142.out⟩
               have n2_:Aside0 (Below w.heap.size w ((w23.setCell ⟨gb142,0,none⟩ (.int .i64 ((rd_T70 l0_1 x25_2).f0))).setCell ⟨gb142,1,none⟩ (.int .i64 ((rd_T70 l0_1 x25_2).f1)))):=⟨by repeat first | exact HB.out | apply zz2 | apply zz0 | apply zz1 | refine zz3 ?_ GE139.out | refine zz3 ?_ GE142.out⟩
               (try clear BK139)
               (try clear BK142)
               (try clear HB)
               generalize ((w23.setCell ⟨gb142,0,none⟩ (.int .i64 ((rd_T70 l0_1 x25_2).f0))).setCell ⟨gb142,1,none⟩ (.int .i64 ((rd_T70 l0_1 x25_2).f1)))=w26 at n0_ n1_ n2_ ⊢
               have BK139:=n0_
               have BK142:=n1_
               have HB:=n2_
               clear n0_ n1_ n2_
               have n0_:=zz31 (zz7 BK139.out)
               have n1_:=zz31 (zz7 BK142.out)
               have n2_:=zz31 (zz1 HB.out)
               clear BK139
               clear BK142
               clear HB
               have BK139:=n0_
               have BK142:=n1_
               have HB:=n2_
               clear n0_ n1_ n2_
               have p145:0≤((ji18):Int):=zz29 (by first | (with_reducible assumption) | assumption)
               have q145:(ji18) < (l0_1.length:Int):=zz29 (by first | (with_reducible assumption) | assumption)
               obtain ⟨ad145,e145,hx145_0,hx145_1⟩:=at_T70 HR0_1.out (ji18) p145 q145
               have hw145_1:=hx145_1
               have hw145_0:=hx145_0
               obtain rfl:ad141=ad145:=(by injection e145)
               try replace hx145_0:=(HB.out.cell (World.block_lt_of_cell? w _ hx145_0)).trans hx145_0
               try replace hx145_1:=(HB.out.cell (World.block_lt_of_cell? w _ hx145_1)).trans hx145_1
               replace p145:=eq_true p145
               replace q145:=eq_true q145
               refine start_ (n:=34) (S:=fun w'=>w'.cell? ⟨gb142,0,none⟩=some (.int .i64 ((rd_T70 l0_1 x25_2).f0))∧w'.cell? ⟨gb142,1,none⟩=some (.int .i64 ((rd_T70 l0_1 x25_2).f1))∧w'.cell? ⟨gb139,0,none⟩=some (.int .i64 a0_0)∧w'.cell? ⟨gb139,1,none⟩=some (.slice (some ad141) l0_1.length c0_1)∧w'.cell? (ad141.add (((ji18)).toNat * 2))=some (.int .i64 ((rd_T70 l0_1 (ji18)).f0))∧w'.cell? ⟨(ad141.add (((ji18)).toNat * 2)).block,(ad141.add (((ji18)).toNat * 2)).off+1,none⟩=some (.int .i64 ((rd_T70 l0_1 (ji18)).f1))) (ds:=[]) #[F,F,F,F,F,F,F,F,F,F,F,F,F,F,F,F,F,F,F,F,F,F,F,F,F,F,F,F,F,F,F,F,F,F] (by kernel_rfl) rfl rfl ⟨(zz9 BK142.out 0).trans rfl,(zz9 BK142.out 1).trans rfl,(zz9 BK139.out 0).trans rfl,(zz9 BK139.out 1).trans rfl,((HB.out.cell (World.block_lt_of_cell? w _ hw145_0)).trans hw145_0),((HB.out.cell (World.block_lt_of_cell? w _ hw145_1)).trans hw145_1)⟩ (fun hHeld=>?_);refine with_tabW spec_paGood.tab6 spec_paGood.bits6 (fun HT_ HW_=>?_)
               generalize w26.drew=w27 at BK139 BK142 HB hx145_0 hx145_1 hHeld ⊢
               refine pure_ (i:=0) (N:=some 30) (v:=?_) (a':=?_) #[T,F,F,F,F,F,F,F,F,F,F,F,F,F,F,F,F,F,F,F,F,F,F,F,F,F,F,F,F,F,F,F,F,F] rfl rfl (any_of HT_.out (by kernel_rfl)) (fun _ _ _ h=>h) (Or.inl ⟨by rfl,?_⟩) ?_ ?_
               rotate_left
               ·intro w'
                go_simp
                with_reducible rfl
               rotate_left
               ·simp only [Act.put,zz21,zz22,zz23,i64_w,i32_w]
                rfl
               refine pure_ (i:=2) (N:=some 32) (v:=?_) (a':=?_) #[T,F,T,F,F,F,F,F,F,F,F,F,F,F,F,F,F,F,F,F,F,F,F,F,F,F,F,F,F,F,F,F,F,F] rfl rfl (any_of HT_.out (by kernel_rfl)) (fun _ _ _ h=>h) (Or.inl ⟨by rfl,?_⟩) ?_ ?_
               rotate_left
               ·intro w'
                go_simp
                with_reducible rfl
               rotate_left
               ·simp only [Act.put,zz21,zz22,zz23,i64_w,i32_w]
                rfl
               refine take_ (i:=1) (N:=some 31) (v:=?_) (a':=?_) #[T,T,T,F,F,F,F,F,F,F,F,F,F,F,F,F,F,F,F,F,F,F,F,F,F,F,F,F,F,F,F,F,F,F] rfl rfl (take_ofW HT_.out HW_.out (by kernel_rfl)) (fun _ _ _ h=>h) (Or.inl ⟨by rfl,?_⟩) hHeld ?_ ?_
               rotate_left
               ·rintro w' ⟨s0,s1,s2,s3,s4,s5⟩
                go_simp
                with_reducible rfl
               rotate_left
               ·simp only [Act.put,zz21,zz22,zz23,i64_w,i32_w]
                rfl
               refine take_ (i:=3) (N:=some 33) (v:=?_) (a':=?_) #[T,T,T,T,F,F,F,F,F,F,F,F,F,F,F,F,F,F,F,F,F,F,F,F,F,F,F,F,F,F,F,F,F,F] rfl rfl (take_ofW HT_.out HW_.out (by kernel_rfl)) (fun _ _ _ h=>h) (Or.inl ⟨by rfl,?_⟩) hHeld ?_ ?_
               rotate_left
               ·rintro w' ⟨s0,s1,s2,s3,s4,s5⟩
                go_simp
                with_reducible rfl
               rotate_left
               ·simp only [Act.put,zz21,zz22,zz23,i64_w,i32_w]
                rfl
               refine pure_ (i:=4) (N:=some 34) (v:=?_) (a':=?_) #[T,T,T,T,T,F,F,F,F,F,F,F,F,F,F,F,F,F,F,F,F,F,F,F,F,F,F,F,F,F,F,F,F,F] rfl rfl (any_of HT_.out (by kernel_rfl)) (fun _ _ _ h=>h) (Or.inl ⟨by rfl,?_⟩) ?_ ?_
               rotate_left
               ·intro w'
                go_simp
                with_reducible rfl
               rotate_left
               ·simp only [Act.put,zz21,zz22,zz23,i64_w,i32_w]
                rfl
               refine one_ (i:=5) (N:=some 35) #[T,T,T,T,T,T,F,F,F,F,F,F,F,F,F,F,F,F,F,F,F,F,F,F,F,F,F,F,F,F,F,F,F,F] rfl rfl (one_of HT_.out (by kernel_rfl)) (by decide) (fun K hK=>?_)
               refine goes_ Try.func74 (by kernel_rfl) rfl #[.int .i64 ((rd_T70 l0_1 x25_2).f0),.int .i64 0,.int .i64 (wrap64 (a0_0 - 1))] (by rfl) rfl rfl (by (try simp only [zz26,zz27,zz28]);first | done | rfl | (simp only [zz24,zz25];rfl)) ?_
               with_reducible refine (spec_l1In.calls ((rd_T70 l0_1 x25_2).f0) 0 (wrap64 (a0_0 - 1)) true _ A13.out).mono ?_
               rintro e w' ⟨rfl,⟨nd,rfl⟩⟩
               refine ⟨_,rfl,?_⟩
               refine hK.out _ _ ⟨(zz9 BK142.out 0).trans rfl,(zz9 BK142.out 1).trans rfl,(zz9 BK139.out 0).trans rfl,(zz9 BK139.out 1).trans rfl,((HB.out.cell (World.block_lt_of_cell? w _ hw145_0)).trans hw145_0),((HB.out.cell (World.block_lt_of_cell? w _ hw145_1)).trans hw145_1)⟩ (fun hHeld=>?_)
               clear hK K
               refine norm_ (a':=?_) ?_ ?_
               rotate_left
               ·show Act.put _ (some 35) _=_
                simp only [Act.put,zz21,zz22,zz23,i64_w,i32_w]
                rfl
               refine pure_ (i:=6) (N:=some 36) (v:=?_) (a':=?_) #[T,T,T,T,T,T,T,F,F,F,F,F,F,F,F,F,F,F,F,F,F,F,F,F,F,F,F,F,F,F,F,F,F,F] rfl rfl (any_of HT_.out (by kernel_rfl)) (fun _ _ _ h=>h) (Or.inl ⟨by rfl,?_⟩) ?_ ?_
               rotate_left
               ·intro w'
                go_simp
                with_reducible rfl
               rotate_left
               ·simp only [Act.put,zz21,zz22,zz23,i64_w,i32_w]
                rfl
               refine pure_ (i:=7) (N:=some 37) (v:=?_) (a':=?_) #[T,T,T,T,T,T,T,T,F,F,F,F,F,F,F,F,F,F,F,F,F,F,F,F,F,F,F,F,F,F,F,F,F,F] rfl rfl (any_of HT_.out (by kernel_rfl)) (fun _ _ _ h=>h) (Or.inl ⟨by rfl,?_⟩) ?_ ?_
               rotate_left
               ·intro w'
                go_simp
                with_reducible rfl
               rotate_left
               ·simp only [Act.put,zz21,zz22,zz23,i64_w,i32_w]
                rfl
               refine pure_ (i:=8) (N:=some 38) (v:=?_) (a':=?_) #[T,T,T,T,T,T,T,T,T,F,F,F,F,F,F,F,F,F,F,F,F,F,F,F,F,F,F,F,F,F,F,F,F,F] rfl rfl (any_of HT_.out (by kernel_rfl)) (fun _ _ _ h=>h) (Or.inl ⟨by rfl,?_⟩) ?_ ?_
               rotate_left
               ·intro w'
                go_simp
                with_reducible rfl
               rotate_left
               ·simp only [Act.put,zz21,zz22,zz23,i64_w,i32_w]
                rfl
               refine pure_ (i:=10) (N:=some 40) (v:=?_) (a':=?_) #[T,T,T,T,T,T,T,T,T,F,T,F,F,F,F,F,F,F,F,F,F,F,F,F,F,F,F,F,F,F,F,F,F,F] rfl rfl (any_of HT_.out (by kernel_rfl)) (fun _ _ _ h=>h) (Or.inl ⟨by rfl,?_⟩) ?_ ?_
               rotate_left
               ·intro w'
                go_simp
                with_reducible rfl
               rotate_left
               ·simp only [Act.put,zz21,zz22,zz23,i64_w,i32_w]
                rfl
               refine pure_ (i:=13) (N:=some 43) (v:=?_) (a':=?_) #[T,T,T,T,T,T,T,T,T,F,T,F,F,T,F,F,F,F,F,F,F,F,F,F,F,F,F,F,F,F,F,F,F,F] rfl rfl (any_of HT_.out (by kernel_rfl)) (fun _ _ _ h=>h) (Or.inl ⟨by rfl,?_⟩) ?_ ?_
               rotate_left
               ·intro w'
                go_simp
                with_reducible rfl
               rotate_left
               ·simp only [Act.put,zz21,zz22,zz23,i64_w,i32_w]
                rfl
               refine take_ (i:=9) (N:=some 39) (v:=?_) (a':=?_) #[T,T,T,T,T,T,T,T,T,T,T,F,F,T,F,F,F,F,F,F,F,F,F,F,F,F,F,F,F,F,F,F,F,F] rfl rfl (take_ofW HT_.out HW_.out (by kernel_rfl)) (fun _ _ _ h=>h) (Or.inl ⟨by rfl,?_⟩) hHeld ?_ ?_
               rotate_left
               ·rintro w' ⟨s0,s1,s2,s3,s4,s5⟩
                go_simp
                with_reducible rfl
               rotate_left
               ·simp only [Act.put,zz21,zz22,zz23,i64_w,i32_w]
                rfl
               refine take_ (i:=11) (N:=some 41) (v:=?_) (a':=?_) #[T,T,T,T,T,T,T,T,T,T,T,T,F,T,F,F,F,F,F,F,F,F,F,F,F,F,F,F,F,F,F,F,F,F] rfl rfl (take_ofW HT_.out HW_.out (by kernel_rfl)) (fun _ _ _ h=>h) (Or.inl ⟨by rfl,?_⟩) hHeld ?_ ?_
               rotate_left
               ·rintro w' ⟨s0,s1,s2,s3,s4,s5⟩
                go_simp
                with_reducible rfl
               rotate_left
               ·simp only [Act.put,zz21,zz22,zz23,i64_w,i32_w]
                rfl
               refine pure_ (i:=12) (N:=some 42) (v:=?_) (a':=?_) #[T,T,T,T,T,T,T,T,T,T,T,T,T,T,F,F,F,F,F,F,F,F,F,F,F,F,F,F,F,F,F,F,F,F] rfl rfl (any_of HT_.out (by kernel_rfl)) (fun _ _ _ h=>h) (Or.inl ⟨by rfl,?_⟩) ?_ ?_
               rotate_left
               ·intro w'
                go_simp
                with_reducible rfl
               rotate_left
               ·simp only [Act.put,zz21,zz22,zz23,i64_w,i32_w]
                rfl
               refine take_ (i:=14) (N:=some 44) (v:=?_) (a':=?_) #[T,T,T,T,T,T,T,T,T,T,T,T,T,T,T,F,F,F,F,F,F,F,F,F,F,F,F,F,F,F,F,F,F,F] rfl rfl (take_ofW HT_.out HW_.out (by kernel_rfl)) (fun _ _ _ h=>h) (Or.inl ⟨by rfl,?_⟩) hHeld ?_ ?_
               rotate_left
               ·rintro w' ⟨s0,s1,s2,s3,s4,s5⟩
                go_simp
                with_reducible rfl
               rotate_left
               ·simp only [Act.put,zz21,zz22,zz23,i64_w,i32_w]
                rfl
               refine pure_ (i:=15) (N:=some 45) (v:=?_) (a':=?_) #[T,T,T,T,T,T,T,T,T,T,T,T,T,T,T,T,F,F,F,F,F,F,F,F,F,F,F,F,F,F,F,F,F,F] rfl rfl (any_of HT_.out (by kernel_rfl)) (fun _ _ _ h=>h) (Or.inl ⟨by rfl,?_⟩) ?_ ?_
               rotate_left
               ·intro w'
                go_simp
                with_reducible rfl
               rotate_left
               ·simp only [Act.put,zz21,zz22,zz23,i64_w,i32_w]
                rfl
               refine one_ (i:=16) (N:=some 46) #[T,T,T,T,T,T,T,T,T,T,T,T,T,T,T,T,T,F,F,F,F,F,F,F,F,F,F,F,F,F,F,F,F,F] rfl rfl (one_of HT_.out (by kernel_rfl)) (by decide) (fun K hK=>?_)
               refine goes_ Try.func74 (by kernel_rfl) rfl #[.int .i64 ((rd_T70 l0_1 x25_2).f1),.int .i64 (wrap64 (((rd_T70 l0_1 x25_2).f0)+1)),.int .i64 (wrap64 (a0_0 - 1))] (by rfl) rfl rfl (by (try simp only [zz26,zz27,zz28]);first | done | rfl | (simp only [zz24,zz25];rfl)) ?_
               with_reducible refine (spec_l1In.calls ((rd_T70 l0_1 x25_2).f1) (wrap64 (((rd_T70 l0_1 x25_2).f0)+1)) (wrap64 (a0_0 - 1)) true _ A15.out).mono ?_
               rintro e w' ⟨rfl,⟨nd,rfl⟩⟩
               refine ⟨_,rfl,?_⟩
               refine hK.out _ _ ⟨(zz9 BK142.out 0).trans rfl,(zz9 BK142.out 1).trans rfl,(zz9 BK139.out 0).trans rfl,(zz9 BK139.out 1).trans rfl,((HB.out.cell (World.block_lt_of_cell? w _ hw145_0)).trans hw145_0),((HB.out.cell (World.block_lt_of_cell? w _ hw145_1)).trans hw145_1)⟩ (fun hHeld=>?_)
               clear hK K
               refine norm_ (a':=?_) ?_ ?_
               rotate_left
               ·show Act.put _ (some 46) _=_
                simp only [Act.put,zz21,zz22,zz23,i64_w,i32_w]
                rfl
               refine pure_ (i:=17) (N:=some 47) (v:=?_) (a':=?_) #[T,T,T,T,T,T,T,T,T,T,T,T,T,T,T,T,T,T,F,F,F,F,F,F,F,F,F,F,F,F,F,F,F,F] rfl rfl (any_of HT_.out (by kernel_rfl)) (fun _ _ _ h=>h) (Or.inl ⟨by rfl,?_⟩) ?_ ?_
               rotate_left
               ·intro w'
                go_simp
                with_reducible rfl
               rotate_left
               ·simp only [Act.put,zz21,zz22,zz23,i64_w,i32_w]
                rfl
               refine pure_ (i:=18) (N:=some 48) (v:=?_) (a':=?_) #[T,T,T,T,T,T,T,T,T,T,T,T,T,T,T,T,T,T,T,F,F,F,F,F,F,F,F,F,F,F,F,F,F,F] rfl rfl (any_of HT_.out (by kernel_rfl)) (fun _ _ _ h=>h) (Or.inl ⟨by rfl,?_⟩) ?_ ?_
               rotate_left
               ·intro w'
                go_simp
                with_reducible rfl
               rotate_left
               ·simp only [Act.put,zz21,zz22,zz23,i64_w,i32_w]
                rfl
               refine pure_ (i:=19) (N:=some 49) (v:=?_) (a':=?_) #[T,T,T,T,T,T,T,T,T,T,T,T,T,T,T,T,T,T,T,T,F,F,F,F,F,F,F,F,F,F,F,F,F,F] rfl rfl (any_of HT_.out (by kernel_rfl)) (fun _ _ _ h=>h) (Or.inl ⟨by rfl,?_⟩) ?_ ?_
               rotate_left
               ·intro w'
                go_simp
                with_reducible rfl
               rotate_left
               ·simp only [Act.put,zz21,zz22,zz23,i64_w,i32_w]
                rfl
               refine pure_ (i:=20) (N:=some 50) (v:=?_) (a':=?_) #[T,T,T,T,T,T,T,T,T,T,T,T,T,T,T,T,T,T,T,T,T,F,F,F,F,F,F,F,F,F,F,F,F,F] rfl rfl (any_of HT_.out (by kernel_rfl)) (fun _ _ _ h=>h) (Or.inl ⟨by rfl,?_⟩) ?_ ?_
               rotate_left
               ·intro w'
                go_simp
                with_reducible rfl
               rotate_left
               ·simp only [Act.put,zz21,zz22,zz23,i64_w,i32_w]
                rfl
               refine pure_ (i:=21) (N:=some 51) (v:=?_) (a':=?_) #[T,T,T,T,T,T,T,T,T,T,T,T,T,T,T,T,T,T,T,T,T,T,F,F,F,F,F,F,F,F,F,F,F,F] rfl rfl (any_of HT_.out (by kernel_rfl)) (fun _ _ _ h=>h) (Or.inl ⟨by rfl,?_⟩) ?_ ?_
               rotate_left
               ·intro w'
                go_simp
                with_reducible rfl
               rotate_left
               ·simp only [Act.put,zz21,zz22,zz23,i64_w,i32_w]
                rfl
               refine pure_ (i:=22) (N:=some 52) (v:=?_) (a':=?_) #[T,T,T,T,T,T,T,T,T,T,T,T,T,T,T,T,T,T,T,T,T,T,T,F,F,F,F,F,F,F,F,F,F,F] rfl rfl (any_of HT_.out (by kernel_rfl)) (fun _ _ _ h=>h) (Or.inl ⟨by rfl,?_⟩) ?_ ?_
               rotate_left
               ·intro w'
                go_simp
                with_reducible rfl
               rotate_left
               ·simp only [Act.put,zz21,zz22,zz23,i64_w,i32_w]
                rfl
               refine pure_ (i:=23) (N:=some 53) (v:=?_) (a':=?_) #[T,T,T,T,T,T,T,T,T,T,T,T,T,T,T,T,T,T,T,T,T,T,T,T,F,F,F,F,F,F,F,F,F,F] rfl rfl (any_of HT_.out (by kernel_rfl)) (fun _ _ _ h=>h) (Or.inl ⟨by rfl,?_⟩) ?_ ?_
               rotate_left
               ·intro w'
                go_simp
                with_reducible rfl
               rotate_left
               ·simp only [Act.put,zz21,zz22,zz23,i64_w,i32_w]
                rfl
               refine pure_ (i:=25) (N:=some 55) (v:=?_) (a':=?_) #[T,T,T,T,T,T,T,T,T,T,T,T,T,T,T,T,T,T,T,T,T,T,T,T,F,T,F,F,F,F,F,F,F,F] rfl rfl (any_of HT_.out (by kernel_rfl)) (fun _ _ _ h=>h) (Or.inl ⟨by rfl,?_⟩) ?_ ?_
               rotate_left
               ·intro w'
                go_simp
                with_reducible rfl
               rotate_left
               ·simp only [Act.put,zz21,zz22,zz23,i64_w,i32_w]
                rfl
               refine pure_ (i:=26) (N:=some 56) (v:=?_) (a':=?_) #[T,T,T,T,T,T,T,T,T,T,T,T,T,T,T,T,T,T,T,T,T,T,T,T,F,T,T,F,F,F,F,F,F,F] rfl rfl (any_of HT_.out (by kernel_rfl)) (fun _ _ _ h=>h) (Or.inl ⟨by rfl,?_⟩) ?_ ?_
               rotate_left
               ·intro w'
                go_simp
                with_reducible rfl
               rotate_left
               ·simp only [Act.put,zz21,zz22,zz23,i64_w,i32_w]
                rfl
               refine take_ (i:=24) (N:=some 54) (v:=?_) (a':=?_) #[T,T,T,T,T,T,T,T,T,T,T,T,T,T,T,T,T,T,T,T,T,T,T,T,T,T,T,F,F,F,F,F,F,F] rfl rfl (take_ofW HT_.out HW_.out (by kernel_rfl)) (fun _ _ _ h=>h) (Or.inl ⟨by rfl,?_⟩) hHeld ?_ ?_
               rotate_left
               ·rintro w' ⟨s0,s1,s2,s3,s4,s5⟩
                go_simp
                with_reducible rfl
               rotate_left
               ·simp only [Act.put,zz21,zz22,zz23,i64_w,i32_w]
                rfl
               refine pure_ (i:=27) (N:=some 57) (v:=?_) (a':=?_) #[T,T,T,T,T,T,T,T,T,T,T,T,T,T,T,T,T,T,T,T,T,T,T,T,T,T,T,T,F,F,F,F,F,F] rfl rfl (any_of HT_.out (by kernel_rfl)) (fun _ _ _ h=>h) (Or.inl ⟨by rfl,?_⟩) ?_ ?_
               rotate_left
               ·intro w'
                go_simp
                with_reducible rfl
               rotate_left
               ·simp only [Act.put,zz21,zz22,zz23,i64_w,i32_w]
                rfl
               refine take_ (i:=28) (N:=some 58) (v:=?_) (a':=?_) #[T,T,T,T,T,T,T,T,T,T,T,T,T,T,T,T,T,T,T,T,T,T,T,T,T,T,T,T,T,F,F,F,F,F] rfl rfl (take_ofW HT_.out HW_.out (by kernel_rfl)) (fun _ _ _ h=>h) (Or.inl ⟨by rfl,?_⟩) hHeld ?_ ?_
               rotate_left
               ·rintro w' ⟨s0,s1,s2,s3,s4,s5⟩
                go_simp
                with_reducible rfl
               rotate_left
               ·simp only [Act.put,zz21,zz22,zz23,i64_w,i32_w]
                rfl
               refine take_ (i:=29) (N:=some 59) (v:=?_) (a':=?_) #[T,T,T,T,T,T,T,T,T,T,T,T,T,T,T,T,T,T,T,T,T,T,T,T,T,T,T,T,T,T,F,F,F,F] rfl rfl (take_ofW HT_.out HW_.out (by kernel_rfl)) (fun _ _ _ h=>h) (Or.inl ⟨by rfl,?_⟩) hHeld ?_ ?_
               rotate_left
               ·rintro w' ⟨s0,s1,s2,s3,s4,s5⟩
                go_simp
                with_reducible rfl
               rotate_left
               ·simp only [Act.put,zz21,zz22,zz23,i64_w,i32_w]
                rfl
               refine one_ (i:=30) (N:=some 60) #[T,T,T,T,T,T,T,T,T,T,T,T,T,T,T,T,T,T,T,T,T,T,T,T,T,T,T,T,T,T,T,F,F,F] rfl rfl (one_of HT_.out (by kernel_rfl)) (by decide) (fun K hK=>?_)
               refine goes_ Try.func75 (by kernel_rfl) rfl #[.agg #[.int .i64 ((rd_T70 l0_1 (ji18)).f0),.int .i64 ((rd_T70 l0_1 (ji18)).f1)],.agg #[.int .i64 ((rd_T70 l0_1 x25_2).f0),.int .i64 ((rd_T70 l0_1 x25_2).f1)]] (by rfl) rfl rfl (by (try simp only [zz26,zz27,zz28]);first | done | (simp only [hji18];rfl) | rfl | (simp only [zz24,zz25];rfl)) ?_
               with_reducible refine (spec_paLess.calls ((rd_T70 l0_1 (ji18)).f0) ((rd_T70 l0_1 (ji18)).f1) ((rd_T70 l0_1 x25_2).f0) ((rd_T70 l0_1 x25_2).f1) true _ A21.out).mono ?_
               rintro e w28 ⟨rfl,hb⟩
               refine ⟨_,rfl,?_⟩
               have n0_:=zz31 (zz11 (g:=gb139) (o:=.cells #[.int .i64 a0_0,.slice (some ad141) l0_1.length c0_1] 30 (0,0)) (by (with_reducible repeat (first | refine zz6 ?_ _ | refine zz7 ?_ | refine zz8 ?_ _));exact BK139.out) hb)
               have n1_:=zz31 (zz11 (g:=gb142) (o:=.cells #[.int .i64 ((rd_T70 l0_1 x25_2).f0),.int .i64 ((rd_T70 l0_1 x25_2).f1)] 70 (0,0)) (by (with_reducible repeat (first | refine zz6 ?_ _ | refine zz7 ?_ | refine zz8 ?_ _));exact BK142.out) hb)
               have n2_:=zz31 (zz4 (by repeat first | exact HB.out | apply zz2 | apply zz0 | apply zz1 | refine zz3 ?_ GE139.out | refine zz3 ?_ GE142.out) hb)
               clear BK139
               clear BK142
               clear HB
               have BK139:=n0_
               have BK142:=n1_
               have HB:=n2_
               clear n0_ n1_ n2_
               (try clear hb)
               (try clear hb2)
               (try clear hk)
               (try clear hi)
               refine hK.out _ _ ⟨(zz9 BK142.out 0).trans rfl,(zz9 BK142.out 1).trans rfl,(zz9 BK139.out 0).trans rfl,(zz9 BK139.out 1).trans rfl,((HB.out.cell (World.block_lt_of_cell? w _ hw145_0)).trans hw145_0),((HB.out.cell (World.block_lt_of_cell? w _ hw145_1)).trans hw145_1)⟩ (fun hHeld=>?_)
               clear hK K
               refine norm_ (a':=?_) ?_ ?_
               rotate_left
               ·show Act.put _ (some 60) _=_
                simp only [Act.put,zz21,zz22,zz23,i64_w,i32_w]
                rfl
               refine pure_ (i:=31) (N:=some 61) (v:=?_) (a':=?_) #[T,T,T,T,T,T,T,T,T,T,T,T,T,T,T,T,T,T,T,T,T,T,T,T,T,T,T,T,T,T,T,T,F,F] rfl rfl (any_of HT_.out (by kernel_rfl)) (fun _ _ _ h=>h) (Or.inl ⟨by rfl,?_⟩) ?_ ?_
               rotate_left
               ·intro w'
                go_simp
                with_reducible rfl
               rotate_left
               ·simp only [Act.put,zz21,zz22,zz23,i64_w,i32_w]
                rfl
               refine pure_ (i:=32) (N:=some 62) (v:=?_) (a':=?_) #[T,T,T,T,T,T,T,T,T,T,T,T,T,T,T,T,T,T,T,T,T,T,T,T,T,T,T,T,T,T,T,T,T,F] rfl rfl (any_of HT_.out (by kernel_rfl)) (fun _ _ _ h=>h) (Or.inl ⟨by rfl,?_⟩) ?_ ?_
               rotate_left
               ·intro w'
                go_simp
                with_reducible rfl
               rotate_left
               ·simp only [Act.put,zz21,zz22,zz23,i64_w,i32_w]
                rfl
               refine pure_ (i:=33) (N:=some 63) (v:=?_) (a':=?_) #[T,T,T,T,T,T,T,T,T,T,T,T,T,T,T,T,T,T,T,T,T,T,T,T,T,T,T,T,T,T,T,T,T,T] rfl rfl (any_of HT_.out (by kernel_rfl)) (fun _ _ _ h=>h) (Or.inl ⟨by rfl,?_⟩) ?_ ?_
               rotate_left
               ·intro w'
                go_simp
                with_reducible rfl
               rotate_left
               ·simp only [Act.put,zz21,zz22,zz23,i64_w,i32_w]
                rfl
               refine done_ (done_of HT_.out (by kernel_rfl)) ?_
               try go_wp2
               go_roundg k2
               case measure=>have:=HJ1.out;have:=HK2.out;omega
               case rel=>exact ⟨(wrap64 (x25_2+1)),(by first | rfl | (simp;done) | (simp [*];done)),H',⟨by have:=HJ1.out;have:=HK2.out;omega⟩,⟨by (with_reducible repeat (first | refine zz6 ?_ _ | refine zz7 ?_ | refine zz8 ?_ _));exact BK139.out⟩,⟨by repeat first | exact HB.out | apply zz2 | apply zz0 | apply zz1 | refine zz3 ?_ GE139.out | refine zz3 ?_ GE142.out⟩⟩
              ·replace c22:=Bool.eq_false_iff.mpr c22
               subst c22
               have H1:(some false)=some r:=by rw [if_neg (show ¬ (false=true) by decide)] at H;exact H
               clear H
               have H:=H1
               clear H1
               obtain rfl:=Option.some.inj H
               have p141:0≤(x25_2:Int):=zz29 (by first | (with_reducible assumption) | assumption)
               have q141:x25_2 < (l0_1.length:Int):=zz29 (by first | (with_reducible assumption) | assumption)
               obtain ⟨ad141,e141,hx141_0,hx141_1⟩:=at_T70 HR0_1.out x25_2 p141 q141
               cases e141
               try replace hx141_0:=(HB.out.cell (World.block_lt_of_cell? w _ hx141_0)).trans hx141_0
               try replace hx141_1:=(HB.out.cell (World.block_lt_of_cell? w _ hx141_1)).trans hx141_1
               replace p141:=eq_true p141
               replace q141:=eq_true q141
               try go_wp2_with (first | ((with_reducible refine gate_dst (N:=4) rfl ?_);(try (refine gate_guard (by rfl) ?_;dsimp only));refine box_event ?hg (N:=4) ?hd (cs:=#[.int .i64 0,.int .i64 0]) (t:=70) ?hr ?_;(case hd=>rfl);(case hg=>rfl);(case hr=>first | (go_simp;done) | (go_simp;rfl));intro gb142 hg w29 hbox hb;have n0_:=zz31 (zz11 (g:=gb139) (o:=.cells #[.int .i64 a0_0,.slice (some ad141) l0_1.length c0_1] 30 (0,0)) (by (with_reducible repeat (first | refine zz6 ?_ _ | refine zz7 ?_ | refine zz8 ?_ _));exact BK139.out) hb);have n1_:=zz31 (zz4 (by repeat first | exact HB.out | apply zz2 | apply zz0 | apply zz1 | refine zz3 ?_ GE139.out) hb);have n2_:=zz31 (hbox);have n3_:=zz31 ((by rw [hg];exact (zz5 (by repeat first | exact HB.out | apply zz2 | apply zz0 | apply zz1 | refine zz3 ?_ GE139.out)):w.heap.size≤gb142));have n4_:=zz31 ((by rw [hg];exact (zz5 (by repeat first | exact HB.out | apply zz2 | apply zz0 | apply zz1 | refine zz3 ?_ GE139.out)):w.heap.size≤gb142));have n5_:=zz31 ((by rw [hg];exact Nat.ne_of_lt (blk_lt (g:=gb139) (o:=.cells #[.int .i64 a0_0,.slice (some ad141) l0_1.length c0_1] 30 (0,0)) (by (with_reducible repeat (first | refine zz6 ?_ _ | refine zz7 ?_ | refine zz8 ?_ _));exact BK139.out)):gb139 ≠ gb142));have n6_:=zz31 ((by rw [hg];exact Nat.ne_of_gt (blk_lt (g:=gb139) (o:=.cells #[.int .i64 a0_0,.slice (some ad141) l0_1.length c0_1] 30 (0,0)) (by (with_reducible repeat (first | refine zz6 ?_ _ | refine zz7 ?_ | refine zz8 ?_ _));exact BK139.out)):gb142 ≠ gb139));clear BK139;clear HB;have BK139:=n0_;have HB:=n1_;have BK142:=n2_;have GW142:=n3_;have GE142:=n4_;have NB139_142:=n5_;have NB142_139:=n6_;clear n0_ n1_ n2_ n3_ n4_ n5_ n6_;clear hb hbox hg;have hnb30:=NB142_139.out;have hnc30:=NB139_142.out;have hcz31_0:w29.cell? ⟨gb142,0,none⟩=some (.int .i64 0):=(zz9 BK142.out 0).trans rfl;have hcz31_1:w29.cell? ⟨gb142,1,none⟩=some (.int .i64 0):=(zz9 BK142.out 1).trans rfl;have hfz31_0:=zz10 BK142.out 0;have hfz31_1:=zz10 BK142.out 1))
               have n0_:Aside0 (((w29.setCell ⟨gb142,0,none⟩ (.int .i64 ((rd_T70 l0_1 x25_2).f0))).setCell ⟨gb142,1,none⟩ (.int .i64 ((rd_T70 l0_1 x25_2).f1))).heap[gb139]?=some (.cells #[.int .i64 a0_0,.slice (some ad141) l0_1.length c0_1] 30 (0,0))):=⟨by (with_reducible repeat (first | refine zz6 ?_ _ | refine zz7 ?_ | refine zz8 ?_ _));refine blk_far ?_ NB139_142.out _;(with_reducible repeat (first | refine zz6 ?_ _ | refine zz7 ?_ | refine zz8 ?_ _));refine blk_far ?_ NB139_142.out _;(with_reducible repeat (first | refine zz6 ?_ _ | refine zz7 ?_ | refine zz8 ?_ _));exact BK139.out⟩
               have n1_:Aside0 (((w29.setCell ⟨gb142,0,none⟩ (.int .i64 ((rd_T70 l0_1 x25_2).f0))).setCell ⟨gb142,1,none⟩ (.int .i64 ((rd_T70 l0_1 x25_2).f1))).heap[gb142]?=some (.cells #[.int .i64 ((rd_T70 l0_1 x25_2).f0),.int .i64 ((rd_T70 l0_1 x25_2).f1)] 70 (0,0))):=⟨by (with_reducible repeat (first | refine zz6 ?_ _ | refine zz7 ?_ | refine zz8 ?_ _));refine blk_put (cs:=#[.int .i64 ((rd_T70 l0_1 x25_2).f0),.int .i64 0]) ?_ 1 _ rfl;(with_reducible repeat (first | refine zz6 ?_ _ | refine zz7 ?_ | refine zz8 ?_ _));refine blk_put (cs:=#[.int .i64 0,.int .i64 0]) ?_ 0 _ rfl;(with_reducible repeat (first | refine zz6 ?_ _ | refine zz7 ?_ | refine zz8 ?_ _));exact BK142.out⟩
               have n2_:Aside0 (Below w.heap.size w ((w29.setCell ⟨gb142,0,none⟩ (.int .i64 ((rd_T70 l0_1 x25_2).f0))).setCell ⟨gb142,1,none⟩ (.int .i64 ((rd_T70 l0_1 x25_2).f1)))):=⟨by repeat first | exact HB.out | apply zz2 | apply zz0 | apply zz1 | refine zz3 ?_ GE139.out | refine zz3 ?_ GE142.out⟩
               (try clear BK139)
               (try clear BK142)
               (try clear HB)
               generalize ((w29.setCell ⟨gb142,0,none⟩ (.int .i64 ((rd_T70 l0_1 x25_2).f0))).setCell ⟨gb142,1,none⟩ (.int .i64 ((rd_T70 l0_1 x25_2).f1)))=w32 at n0_ n1_ n2_ ⊢
               have BK139:=n0_
               have BK142:=n1_
               have HB:=n2_
               clear n0_ n1_ n2_
               have n0_:=zz31 (zz7 BK139.out)
               have n1_:=zz31 (zz7 BK142.out)
               have n2_:=zz31 (zz1 HB.out)
               clear BK139
               clear BK142
               clear HB
               have BK139:=n0_
               have BK142:=n1_
               have HB:=n2_
               clear n0_ n1_ n2_
               have p145:0≤((ji18):Int):=zz29 (by first | (with_reducible assumption) | assumption)
               have q145:(ji18) < (l0_1.length:Int):=zz29 (by first | (with_reducible assumption) | assumption)
               obtain ⟨ad145,e145,hx145_0,hx145_1⟩:=at_T70 HR0_1.out (ji18) p145 q145
               have hw145_1:=hx145_1
               have hw145_0:=hx145_0
               obtain rfl:ad141=ad145:=(by injection e145)
               try replace hx145_0:=(HB.out.cell (World.block_lt_of_cell? w _ hx145_0)).trans hx145_0
               try replace hx145_1:=(HB.out.cell (World.block_lt_of_cell? w _ hx145_1)).trans hx145_1
               replace p145:=eq_true p145
               replace q145:=eq_true q145
               refine start_ (n:=34) (S:=fun w'=>w'.cell? ⟨gb142,0,none⟩=some (.int .i64 ((rd_T70 l0_1 x25_2).f0))∧w'.cell? ⟨gb142,1,none⟩=some (.int .i64 ((rd_T70 l0_1 x25_2).f1))∧w'.cell? ⟨gb139,0,none⟩=some (.int .i64 a0_0)∧w'.cell? ⟨gb139,1,none⟩=some (.slice (some ad141) l0_1.length c0_1)∧w'.cell? (ad141.add (((ji18)).toNat * 2))=some (.int .i64 ((rd_T70 l0_1 (ji18)).f0))∧w'.cell? ⟨(ad141.add (((ji18)).toNat * 2)).block,(ad141.add (((ji18)).toNat * 2)).off+1,none⟩=some (.int .i64 ((rd_T70 l0_1 (ji18)).f1))) (ds:=[]) #[F,F,F,F,F,F,F,F,F,F,F,F,F,F,F,F,F,F,F,F,F,F,F,F,F,F,F,F,F,F,F,F,F,F] (by kernel_rfl) rfl rfl ⟨(zz9 BK142.out 0).trans rfl,(zz9 BK142.out 1).trans rfl,(zz9 BK139.out 0).trans rfl,(zz9 BK139.out 1).trans rfl,((HB.out.cell (World.block_lt_of_cell? w _ hw145_0)).trans hw145_0),((HB.out.cell (World.block_lt_of_cell? w _ hw145_1)).trans hw145_1)⟩ (fun hHeld=>?_);refine with_tabW spec_paGood.tab6 spec_paGood.bits6 (fun HT_ HW_=>?_)
               generalize w32.drew=w33 at BK139 BK142 HB hx145_0 hx145_1 hHeld ⊢
               refine pure_ (i:=0) (N:=some 30) (v:=?_) (a':=?_) #[T,F,F,F,F,F,F,F,F,F,F,F,F,F,F,F,F,F,F,F,F,F,F,F,F,F,F,F,F,F,F,F,F,F] rfl rfl (any_of HT_.out (by kernel_rfl)) (fun _ _ _ h=>h) (Or.inl ⟨by rfl,?_⟩) ?_ ?_
               rotate_left
               ·intro w'
                go_simp
                with_reducible rfl
               rotate_left
               ·simp only [Act.put,zz21,zz22,zz23,i64_w,i32_w]
                rfl
               refine pure_ (i:=2) (N:=some 32) (v:=?_) (a':=?_) #[T,F,T,F,F,F,F,F,F,F,F,F,F,F,F,F,F,F,F,F,F,F,F,F,F,F,F,F,F,F,F,F,F,F] rfl rfl (any_of HT_.out (by kernel_rfl)) (fun _ _ _ h=>h) (Or.inl ⟨by rfl,?_⟩) ?_ ?_
               rotate_left
               ·intro w'
                go_simp
                with_reducible rfl
               rotate_left
               ·simp only [Act.put,zz21,zz22,zz23,i64_w,i32_w]
                rfl
               refine take_ (i:=1) (N:=some 31) (v:=?_) (a':=?_) #[T,T,T,F,F,F,F,F,F,F,F,F,F,F,F,F,F,F,F,F,F,F,F,F,F,F,F,F,F,F,F,F,F,F] rfl rfl (take_ofW HT_.out HW_.out (by kernel_rfl)) (fun _ _ _ h=>h) (Or.inl ⟨by rfl,?_⟩) hHeld ?_ ?_
               rotate_left
               ·rintro w' ⟨s0,s1,s2,s3,s4,s5⟩
                go_simp
                with_reducible rfl
               rotate_left
               ·simp only [Act.put,zz21,zz22,zz23,i64_w,i32_w]
                rfl
               refine take_ (i:=3) (N:=some 33) (v:=?_) (a':=?_) #[T,T,T,T,F,F,F,F,F,F,F,F,F,F,F,F,F,F,F,F,F,F,F,F,F,F,F,F,F,F,F,F,F,F] rfl rfl (take_ofW HT_.out HW_.out (by kernel_rfl)) (fun _ _ _ h=>h) (Or.inl ⟨by rfl,?_⟩) hHeld ?_ ?_
               rotate_left
               ·rintro w' ⟨s0,s1,s2,s3,s4,s5⟩
                go_simp
                with_reducible rfl
               rotate_left
               ·simp only [Act.put,zz21,zz22,zz23,i64_w,i32_w]
                rfl
               refine pure_ (i:=4) (N:=some 34) (v:=?_) (a':=?_) #[T,T,T,T,T,F,F,F,F,F,F,F,F,F,F,F,F,F,F,F,F,F,F,F,F,F,F,F,F,F,F,F,F,F] rfl rfl (any_of HT_.out (by kernel_rfl)) (fun _ _ _ h=>h) (Or.inl ⟨by rfl,?_⟩) ?_ ?_
               rotate_left
               ·intro w'
                go_simp
                with_reducible rfl
               rotate_left
               ·simp only [Act.put,zz21,zz22,zz23,i64_w,i32_w]
                rfl
               refine one_ (i:=5) (N:=some 35) #[T,T,T,T,T,T,F,F,F,F,F,F,F,F,F,F,F,F,F,F,F,F,F,F,F,F,F,F,F,F,F,F,F,F] rfl rfl (one_of HT_.out (by kernel_rfl)) (by decide) (fun K hK=>?_)
               refine goes_ Try.func74 (by kernel_rfl) rfl #[.int .i64 ((rd_T70 l0_1 x25_2).f0),.int .i64 0,.int .i64 (wrap64 (a0_0 - 1))] (by rfl) rfl rfl (by (try simp only [zz26,zz27,zz28]);first | done | rfl | (simp only [zz24,zz25];rfl)) ?_
               with_reducible refine (spec_l1In.calls ((rd_T70 l0_1 x25_2).f0) 0 (wrap64 (a0_0 - 1)) true _ A13.out).mono ?_
               rintro e w' ⟨rfl,⟨nd,rfl⟩⟩
               refine ⟨_,rfl,?_⟩
               refine hK.out _ _ ⟨(zz9 BK142.out 0).trans rfl,(zz9 BK142.out 1).trans rfl,(zz9 BK139.out 0).trans rfl,(zz9 BK139.out 1).trans rfl,((HB.out.cell (World.block_lt_of_cell? w _ hw145_0)).trans hw145_0),((HB.out.cell (World.block_lt_of_cell? w _ hw145_1)).trans hw145_1)⟩ (fun hHeld=>?_)
               clear hK K
               refine norm_ (a':=?_) ?_ ?_
               rotate_left
               ·show Act.put _ (some 35) _=_
                simp only [Act.put,zz21,zz22,zz23,i64_w,i32_w]
                rfl
               refine pure_ (i:=6) (N:=some 36) (v:=?_) (a':=?_) #[T,T,T,T,T,T,T,F,F,F,F,F,F,F,F,F,F,F,F,F,F,F,F,F,F,F,F,F,F,F,F,F,F,F] rfl rfl (any_of HT_.out (by kernel_rfl)) (fun _ _ _ h=>h) (Or.inl ⟨by rfl,?_⟩) ?_ ?_
               rotate_left
               ·intro w'
                go_simp
                with_reducible rfl
               rotate_left
               ·simp only [Act.put,zz21,zz22,zz23,i64_w,i32_w]
                rfl
               refine pure_ (i:=7) (N:=some 37) (v:=?_) (a':=?_) #[T,T,T,T,T,T,T,T,F,F,F,F,F,F,F,F,F,F,F,F,F,F,F,F,F,F,F,F,F,F,F,F,F,F] rfl rfl (any_of HT_.out (by kernel_rfl)) (fun _ _ _ h=>h) (Or.inl ⟨by rfl,?_⟩) ?_ ?_
               rotate_left
               ·intro w'
                go_simp
                with_reducible rfl
               rotate_left
               ·simp only [Act.put,zz21,zz22,zz23,i64_w,i32_w]
                rfl
               refine pure_ (i:=8) (N:=some 38) (v:=?_) (a':=?_) #[T,T,T,T,T,T,T,T,T,F,F,F,F,F,F,F,F,F,F,F,F,F,F,F,F,F,F,F,F,F,F,F,F,F] rfl rfl (any_of HT_.out (by kernel_rfl)) (fun _ _ _ h=>h) (Or.inl ⟨by rfl,?_⟩) ?_ ?_
               rotate_left
               ·intro w'
                go_simp
                with_reducible rfl
               rotate_left
               ·simp only [Act.put,zz21,zz22,zz23,i64_w,i32_w]
                rfl
               refine pure_ (i:=10) (N:=some 40) (v:=?_) (a':=?_) #[T,T,T,T,T,T,T,T,T,F,T,F,F,F,F,F,F,F,F,F,F,F,F,F,F,F,F,F,F,F,F,F,F,F] rfl rfl (any_of HT_.out (by kernel_rfl)) (fun _ _ _ h=>h) (Or.inl ⟨by rfl,?_⟩) ?_ ?_
               rotate_left
               ·intro w'
                go_simp
                with_reducible rfl
               rotate_left
               ·simp only [Act.put,zz21,zz22,zz23,i64_w,i32_w]
                rfl
               refine pure_ (i:=13) (N:=some 43) (v:=?_) (a':=?_) #[T,T,T,T,T,T,T,T,T,F,T,F,F,T,F,F,F,F,F,F,F,F,F,F,F,F,F,F,F,F,F,F,F,F] rfl rfl (any_of HT_.out (by kernel_rfl)) (fun _ _ _ h=>h) (Or.inl ⟨by rfl,?_⟩) ?_ ?_
               rotate_left
               ·intro w'
                go_simp
                with_reducible rfl
               rotate_left
               ·simp only [Act.put,zz21,zz22,zz23,i64_w,i32_w]
                rfl
               refine take_ (i:=9) (N:=some 39) (v:=?_) (a':=?_) #[T,T,T,T,T,T,T,T,T,T,T,F,F,T,F,F,F,F,F,F,F,F,F,F,F,F,F,F,F,F,F,F,F,F] rfl rfl (take_ofW HT_.out HW_.out (by kernel_rfl)) (fun _ _ _ h=>h) (Or.inl ⟨by rfl,?_⟩) hHeld ?_ ?_
               rotate_left
               ·rintro w' ⟨s0,s1,s2,s3,s4,s5⟩
                go_simp
                with_reducible rfl
               rotate_left
               ·simp only [Act.put,zz21,zz22,zz23,i64_w,i32_w]
                rfl
               refine take_ (i:=11) (N:=some 41) (v:=?_) (a':=?_) #[T,T,T,T,T,T,T,T,T,T,T,T,F,T,F,F,F,F,F,F,F,F,F,F,F,F,F,F,F,F,F,F,F,F] rfl rfl (take_ofW HT_.out HW_.out (by kernel_rfl)) (fun _ _ _ h=>h) (Or.inl ⟨by rfl,?_⟩) hHeld ?_ ?_
               rotate_left
               ·rintro w' ⟨s0,s1,s2,s3,s4,s5⟩
                go_simp
                with_reducible rfl
               rotate_left
               ·simp only [Act.put,zz21,zz22,zz23,i64_w,i32_w]
                rfl
               refine pure_ (i:=12) (N:=some 42) (v:=?_) (a':=?_) #[T,T,T,T,T,T,T,T,T,T,T,T,T,T,F,F,F,F,F,F,F,F,F,F,F,F,F,F,F,F,F,F,F,F] rfl rfl (any_of HT_.out (by kernel_rfl)) (fun _ _ _ h=>h) (Or.inl ⟨by rfl,?_⟩) ?_ ?_
               rotate_left
               ·intro w'
                go_simp
                with_reducible rfl
               rotate_left
               ·simp only [Act.put,zz21,zz22,zz23,i64_w,i32_w]
                rfl
               refine take_ (i:=14) (N:=some 44) (v:=?_) (a':=?_) #[T,T,T,T,T,T,T,T,T,T,T,T,T,T,T,F,F,F,F,F,F,F,F,F,F,F,F,F,F,F,F,F,F,F] rfl rfl (take_ofW HT_.out HW_.out (by kernel_rfl)) (fun _ _ _ h=>h) (Or.inl ⟨by rfl,?_⟩) hHeld ?_ ?_
               rotate_left
               ·rintro w' ⟨s0,s1,s2,s3,s4,s5⟩
                go_simp
                with_reducible rfl
               rotate_left
               ·simp only [Act.put,zz21,zz22,zz23,i64_w,i32_w]
                rfl
               refine pure_ (i:=15) (N:=some 45) (v:=?_) (a':=?_) #[T,T,T,T,T,T,T,T,T,T,T,T,T,T,T,T,F,F,F,F,F,F,F,F,F,F,F,F,F,F,F,F,F,F] rfl rfl (any_of HT_.out (by kernel_rfl)) (fun _ _ _ h=>h) (Or.inl ⟨by rfl,?_⟩) ?_ ?_
               rotate_left
               ·intro w'
                go_simp
                with_reducible rfl
               rotate_left
               ·simp only [Act.put,zz21,zz22,zz23,i64_w,i32_w]
                rfl
               refine one_ (i:=16) (N:=some 46) #[T,T,T,T,T,T,T,T,T,T,T,T,T,T,T,T,T,F,F,F,F,F,F,F,F,F,F,F,F,F,F,F,F,F] rfl rfl (one_of HT_.out (by kernel_rfl)) (by decide) (fun K hK=>?_)
               refine goes_ Try.func74 (by kernel_rfl) rfl #[.int .i64 ((rd_T70 l0_1 x25_2).f1),.int .i64 (wrap64 (((rd_T70 l0_1 x25_2).f0)+1)),.int .i64 (wrap64 (a0_0 - 1))] (by rfl) rfl rfl (by (try simp only [zz26,zz27,zz28]);first | done | rfl | (simp only [zz24,zz25];rfl)) ?_
               with_reducible refine (spec_l1In.calls ((rd_T70 l0_1 x25_2).f1) (wrap64 (((rd_T70 l0_1 x25_2).f0)+1)) (wrap64 (a0_0 - 1)) true _ A15.out).mono ?_
               rintro e w' ⟨rfl,⟨nd,rfl⟩⟩
               refine ⟨_,rfl,?_⟩
               refine hK.out _ _ ⟨(zz9 BK142.out 0).trans rfl,(zz9 BK142.out 1).trans rfl,(zz9 BK139.out 0).trans rfl,(zz9 BK139.out 1).trans rfl,((HB.out.cell (World.block_lt_of_cell? w _ hw145_0)).trans hw145_0),((HB.out.cell (World.block_lt_of_cell? w _ hw145_1)).trans hw145_1)⟩ (fun hHeld=>?_)
               clear hK K
               refine norm_ (a':=?_) ?_ ?_
               rotate_left
               ·show Act.put _ (some 46) _=_
                simp only [Act.put,zz21,zz22,zz23,i64_w,i32_w]
                rfl
               refine pure_ (i:=17) (N:=some 47) (v:=?_) (a':=?_) #[T,T,T,T,T,T,T,T,T,T,T,T,T,T,T,T,T,T,F,F,F,F,F,F,F,F,F,F,F,F,F,F,F,F] rfl rfl (any_of HT_.out (by kernel_rfl)) (fun _ _ _ h=>h) (Or.inl ⟨by rfl,?_⟩) ?_ ?_
               rotate_left
               ·intro w'
                go_simp
                with_reducible rfl
               rotate_left
               ·simp only [Act.put,zz21,zz22,zz23,i64_w,i32_w]
                rfl
               refine pure_ (i:=18) (N:=some 48) (v:=?_) (a':=?_) #[T,T,T,T,T,T,T,T,T,T,T,T,T,T,T,T,T,T,T,F,F,F,F,F,F,F,F,F,F,F,F,F,F,F] rfl rfl (any_of HT_.out (by kernel_rfl)) (fun _ _ _ h=>h) (Or.inl ⟨by rfl,?_⟩) ?_ ?_
               rotate_left
               ·intro w'
                go_simp
                with_reducible rfl
               rotate_left
               ·simp only [Act.put,zz21,zz22,zz23,i64_w,i32_w]
                rfl
               refine pure_ (i:=19) (N:=some 49) (v:=?_) (a':=?_) #[T,T,T,T,T,T,T,T,T,T,T,T,T,T,T,T,T,T,T,T,F,F,F,F,F,F,F,F,F,F,F,F,F,F] rfl rfl (any_of HT_.out (by kernel_rfl)) (fun _ _ _ h=>h) (Or.inl ⟨by rfl,?_⟩) ?_ ?_
               rotate_left
               ·intro w'
                go_simp
                with_reducible rfl
               rotate_left
               ·simp only [Act.put,zz21,zz22,zz23,i64_w,i32_w]
                rfl
               refine pure_ (i:=20) (N:=some 50) (v:=?_) (a':=?_) #[T,T,T,T,T,T,T,T,T,T,T,T,T,T,T,T,T,T,T,T,T,F,F,F,F,F,F,F,F,F,F,F,F,F] rfl rfl (any_of HT_.out (by kernel_rfl)) (fun _ _ _ h=>h) (Or.inl ⟨by rfl,?_⟩) ?_ ?_
               rotate_left
               ·intro w'
                go_simp
                with_reducible rfl
               rotate_left
               ·simp only [Act.put,zz21,zz22,zz23,i64_w,i32_w]
                rfl
               refine pure_ (i:=21) (N:=some 51) (v:=?_) (a':=?_) #[T,T,T,T,T,T,T,T,T,T,T,T,T,T,T,T,T,T,T,T,T,T,F,F,F,F,F,F,F,F,F,F,F,F] rfl rfl (any_of HT_.out (by kernel_rfl)) (fun _ _ _ h=>h) (Or.inl ⟨by rfl,?_⟩) ?_ ?_
               rotate_left
               ·intro w'
                go_simp
                with_reducible rfl
               rotate_left
               ·simp only [Act.put,zz21,zz22,zz23,i64_w,i32_w]
                rfl
               refine pure_ (i:=22) (N:=some 52) (v:=?_) (a':=?_) #[T,T,T,T,T,T,T,T,T,T,T,T,T,T,T,T,T,T,T,T,T,T,T,F,F,F,F,F,F,F,F,F,F,F] rfl rfl (any_of HT_.out (by kernel_rfl)) (fun _ _ _ h=>h) (Or.inl ⟨by rfl,?_⟩) ?_ ?_
               rotate_left
               ·intro w'
                go_simp
                with_reducible rfl
               rotate_left
               ·simp only [Act.put,zz21,zz22,zz23,i64_w,i32_w]
                rfl
               refine pure_ (i:=23) (N:=some 53) (v:=?_) (a':=?_) #[T,T,T,T,T,T,T,T,T,T,T,T,T,T,T,T,T,T,T,T,T,T,T,T,F,F,F,F,F,F,F,F,F,F] rfl rfl (any_of HT_.out (by kernel_rfl)) (fun _ _ _ h=>h) (Or.inl ⟨by rfl,?_⟩) ?_ ?_
               rotate_left
               ·intro w'
                go_simp
                with_reducible rfl
               rotate_left
               ·simp only [Act.put,zz21,zz22,zz23,i64_w,i32_w]
                rfl
               refine pure_ (i:=25) (N:=some 55) (v:=?_) (a':=?_) #[T,T,T,T,T,T,T,T,T,T,T,T,T,T,T,T,T,T,T,T,T,T,T,T,F,T,F,F,F,F,F,F,F,F] rfl rfl (any_of HT_.out (by kernel_rfl)) (fun _ _ _ h=>h) (Or.inl ⟨by rfl,?_⟩) ?_ ?_
               rotate_left
               ·intro w'
                go_simp
                with_reducible rfl
               rotate_left
               ·simp only [Act.put,zz21,zz22,zz23,i64_w,i32_w]
                rfl
               refine pure_ (i:=26) (N:=some 56) (v:=?_) (a':=?_) #[T,T,T,T,T,T,T,T,T,T,T,T,T,T,T,T,T,T,T,T,T,T,T,T,F,T,T,F,F,F,F,F,F,F] rfl rfl (any_of HT_.out (by kernel_rfl)) (fun _ _ _ h=>h) (Or.inl ⟨by rfl,?_⟩) ?_ ?_
               rotate_left
               ·intro w'
                go_simp
                with_reducible rfl
               rotate_left
               ·simp only [Act.put,zz21,zz22,zz23,i64_w,i32_w]
                rfl
               refine take_ (i:=24) (N:=some 54) (v:=?_) (a':=?_) #[T,T,T,T,T,T,T,T,T,T,T,T,T,T,T,T,T,T,T,T,T,T,T,T,T,T,T,F,F,F,F,F,F,F] rfl rfl (take_ofW HT_.out HW_.out (by kernel_rfl)) (fun _ _ _ h=>h) (Or.inl ⟨by rfl,?_⟩) hHeld ?_ ?_
               rotate_left
               ·rintro w' ⟨s0,s1,s2,s3,s4,s5⟩
                go_simp
                with_reducible rfl
               rotate_left
               ·simp only [Act.put,zz21,zz22,zz23,i64_w,i32_w]
                rfl
               refine pure_ (i:=27) (N:=some 57) (v:=?_) (a':=?_) #[T,T,T,T,T,T,T,T,T,T,T,T,T,T,T,T,T,T,T,T,T,T,T,T,T,T,T,T,F,F,F,F,F,F] rfl rfl (any_of HT_.out (by kernel_rfl)) (fun _ _ _ h=>h) (Or.inl ⟨by rfl,?_⟩) ?_ ?_
               rotate_left
               ·intro w'
                go_simp
                with_reducible rfl
               rotate_left
               ·simp only [Act.put,zz21,zz22,zz23,i64_w,i32_w]
                rfl
               refine take_ (i:=28) (N:=some 58) (v:=?_) (a':=?_) #[T,T,T,T,T,T,T,T,T,T,T,T,T,T,T,T,T,T,T,T,T,T,T,T,T,T,T,T,T,F,F,F,F,F] rfl rfl (take_ofW HT_.out HW_.out (by kernel_rfl)) (fun _ _ _ h=>h) (Or.inl ⟨by rfl,?_⟩) hHeld ?_ ?_
               rotate_left
               ·rintro w' ⟨s0,s1,s2,s3,s4,s5⟩
                go_simp
                with_reducible rfl
               rotate_left
               ·simp only [Act.put,zz21,zz22,zz23,i64_w,i32_w]
                rfl
               refine take_ (i:=29) (N:=some 59) (v:=?_) (a':=?_) #[T,T,T,T,T,T,T,T,T,T,T,T,T,T,T,T,T,T,T,T,T,T,T,T,T,T,T,T,T,T,F,F,F,F] rfl rfl (take_ofW HT_.out HW_.out (by kernel_rfl)) (fun _ _ _ h=>h) (Or.inl ⟨by rfl,?_⟩) hHeld ?_ ?_
               rotate_left
               ·rintro w' ⟨s0,s1,s2,s3,s4,s5⟩
                go_simp
                with_reducible rfl
               rotate_left
               ·simp only [Act.put,zz21,zz22,zz23,i64_w,i32_w]
                rfl
               refine one_ (i:=30) (N:=some 60) #[T,T,T,T,T,T,T,T,T,T,T,T,T,T,T,T,T,T,T,T,T,T,T,T,T,T,T,T,T,T,T,F,F,F] rfl rfl (one_of HT_.out (by kernel_rfl)) (by decide) (fun K hK=>?_)
               refine goes_ Try.func75 (by kernel_rfl) rfl #[.agg #[.int .i64 ((rd_T70 l0_1 (ji18)).f0),.int .i64 ((rd_T70 l0_1 (ji18)).f1)],.agg #[.int .i64 ((rd_T70 l0_1 x25_2).f0),.int .i64 ((rd_T70 l0_1 x25_2).f1)]] (by rfl) rfl rfl (by (try simp only [zz26,zz27,zz28]);first | done | (simp only [hji18];rfl) | rfl | (simp only [zz24,zz25];rfl)) ?_
               with_reducible refine (spec_paLess.calls ((rd_T70 l0_1 (ji18)).f0) ((rd_T70 l0_1 (ji18)).f1) ((rd_T70 l0_1 x25_2).f0) ((rd_T70 l0_1 x25_2).f1) false _ A21.out).mono ?_
               rintro e w34 ⟨rfl,hb⟩
               refine ⟨_,rfl,?_⟩
               have n0_:=zz31 (zz11 (g:=gb139) (o:=.cells #[.int .i64 a0_0,.slice (some ad141) l0_1.length c0_1] 30 (0,0)) (by (with_reducible repeat (first | refine zz6 ?_ _ | refine zz7 ?_ | refine zz8 ?_ _));exact BK139.out) hb)
               have n1_:=zz31 (zz11 (g:=gb142) (o:=.cells #[.int .i64 ((rd_T70 l0_1 x25_2).f0),.int .i64 ((rd_T70 l0_1 x25_2).f1)] 70 (0,0)) (by (with_reducible repeat (first | refine zz6 ?_ _ | refine zz7 ?_ | refine zz8 ?_ _));exact BK142.out) hb)
               have n2_:=zz31 (zz4 (by repeat first | exact HB.out | apply zz2 | apply zz0 | apply zz1 | refine zz3 ?_ GE139.out | refine zz3 ?_ GE142.out) hb)
               clear BK139
               clear BK142
               clear HB
               have BK139:=n0_
               have BK142:=n1_
               have HB:=n2_
               clear n0_ n1_ n2_
               (try clear hb)
               (try clear hb2)
               (try clear hk)
               (try clear hi)
               refine hK.out _ _ ⟨(zz9 BK142.out 0).trans rfl,(zz9 BK142.out 1).trans rfl,(zz9 BK139.out 0).trans rfl,(zz9 BK139.out 1).trans rfl,((HB.out.cell (World.block_lt_of_cell? w _ hw145_0)).trans hw145_0),((HB.out.cell (World.block_lt_of_cell? w _ hw145_1)).trans hw145_1)⟩ (fun hHeld=>?_)
               clear hK K
               refine norm_ (a':=?_) ?_ ?_
               rotate_left
               ·show Act.put _ (some 60) _=_
                simp only [Act.put,zz21,zz22,zz23,i64_w,i32_w]
                rfl
               refine pure_ (i:=31) (N:=some 61) (v:=?_) (a':=?_) #[T,T,T,T,T,T,T,T,T,T,T,T,T,T,T,T,T,T,T,T,T,T,T,T,T,T,T,T,T,T,T,T,F,F] rfl rfl (any_of HT_.out (by kernel_rfl)) (fun _ _ _ h=>h) (Or.inl ⟨by rfl,?_⟩) ?_ ?_
               rotate_left
               ·intro w'
                go_simp
                with_reducible rfl
               rotate_left
               ·simp only [Act.put,zz21,zz22,zz23,i64_w,i32_w]
                rfl
               refine pure_ (i:=32) (N:=some 62) (v:=?_) (a':=?_) #[T,T,T,T,T,T,T,T,T,T,T,T,T,T,T,T,T,T,T,T,T,T,T,T,T,T,T,T,T,T,T,T,T,F] rfl rfl (any_of HT_.out (by kernel_rfl)) (fun _ _ _ h=>h) (Or.inl ⟨by rfl,?_⟩) ?_ ?_
               rotate_left
               ·intro w'
                go_simp
                with_reducible rfl
               rotate_left
               ·simp only [Act.put,zz21,zz22,zz23,i64_w,i32_w]
                rfl
               refine pure_ (i:=33) (N:=some 63) (v:=?_) (a':=?_) #[T,T,T,T,T,T,T,T,T,T,T,T,T,T,T,T,T,T,T,T,T,T,T,T,T,T,T,T,T,T,T,T,T,T] rfl rfl (any_of HT_.out (by kernel_rfl)) (fun _ _ _ h=>h) (Or.inl ⟨by rfl,?_⟩) ?_ ?_
               rotate_left
               ·intro w'
                go_simp
                with_reducible rfl
               rotate_left
               ·simp only [Act.put,zz21,zz22,zz23,i64_w,i32_w]
                rfl
               refine done_ (done_of HT_.out (by kernel_rfl)) ?_
               try go_wp2
               go_ret
               exact ⟨by first | rfl | (simp [errW_none,errW_some] <;> rfl) | (simp only [← hji18];first | rfl | (simp [errW_none,errW_some] <;> rfl)) | (simp [*,errW_none,errW_some] <;> rfl),by repeat first | exact HB.out | apply zz2 | apply zz0 | apply zz1 | refine zz3 ?_ GE139.out | refine zz3 ?_ GE142.out⟩
             ·rw [if_neg c20] at H
              exact absurd H (by simp)
            ·rw [if_neg c19] at H
             exact absurd H (by simp)
           ·rw [if_neg c17] at H
            have c17b0:decide (0 < x25_2)=false:=decide_eq_false c17
            clear c17
            have H':=zz31 H
            clear H
            have p141:0≤(x25_2:Int):=zz29 (by first | (with_reducible assumption) | assumption)
            have q141:x25_2 < (l0_1.length:Int):=zz29 (by first | (with_reducible assumption) | assumption)
            obtain ⟨ad141,e141,hx141_0,hx141_1⟩:=at_T70 HR0_1.out x25_2 p141 q141
            cases e141
            try replace hx141_0:=(HB.out.cell (World.block_lt_of_cell? w _ hx141_0)).trans hx141_0
            try replace hx141_1:=(HB.out.cell (World.block_lt_of_cell? w _ hx141_1)).trans hx141_1
            replace p141:=eq_true p141
            replace q141:=eq_true q141
            try go_wp2_with (first | ((with_reducible refine gate_dst (N:=4) rfl ?_);(try (refine gate_guard (by rfl) ?_;dsimp only));refine box_event ?hg (N:=4) ?hd (cs:=#[.int .i64 0,.int .i64 0]) (t:=70) ?hr ?_;(case hd=>rfl);(case hg=>rfl);(case hr=>first | (go_simp;done) | (go_simp;rfl));intro gb142 hg w35 hbox hb;have n0_:=zz31 (zz11 (g:=gb139) (o:=.cells #[.int .i64 a0_0,.slice (some ad141) l0_1.length c0_1] 30 (0,0)) (by (with_reducible repeat (first | refine zz6 ?_ _ | refine zz7 ?_ | refine zz8 ?_ _));exact BK139.out) hb);have n1_:=zz31 (zz4 (by repeat first | exact HB.out | apply zz2 | apply zz0 | apply zz1 | refine zz3 ?_ GE139.out) hb);have n2_:=zz31 (hbox);have n3_:=zz31 ((by rw [hg];exact (zz5 (by repeat first | exact HB.out | apply zz2 | apply zz0 | apply zz1 | refine zz3 ?_ GE139.out)):w.heap.size≤gb142));have n4_:=zz31 ((by rw [hg];exact (zz5 (by repeat first | exact HB.out | apply zz2 | apply zz0 | apply zz1 | refine zz3 ?_ GE139.out)):w.heap.size≤gb142));have n5_:=zz31 ((by rw [hg];exact Nat.ne_of_lt (blk_lt (g:=gb139) (o:=.cells #[.int .i64 a0_0,.slice (some ad141) l0_1.length c0_1] 30 (0,0)) (by (with_reducible repeat (first | refine zz6 ?_ _ | refine zz7 ?_ | refine zz8 ?_ _));exact BK139.out)):gb139 ≠ gb142));have n6_:=zz31 ((by rw [hg];exact Nat.ne_of_gt (blk_lt (g:=gb139) (o:=.cells #[.int .i64 a0_0,.slice (some ad141) l0_1.length c0_1] 30 (0,0)) (by (with_reducible repeat (first | refine zz6 ?_ _ | refine zz7 ?_ | refine zz8 ?_ _));exact BK139.out)):gb142 ≠ gb139));clear BK139;clear HB;have BK139:=n0_;have HB:=n1_;have BK142:=n2_;have GW142:=n3_;have GE142:=n4_;have NB139_142:=n5_;have NB142_139:=n6_;clear n0_ n1_ n2_ n3_ n4_ n5_ n6_;clear hb hbox hg;have hnb36:=NB142_139.out;have hnc36:=NB139_142.out;have hcz37_0:w35.cell? ⟨gb142,0,none⟩=some (.int .i64 0):=(zz9 BK142.out 0).trans rfl;have hcz37_1:w35.cell? ⟨gb142,1,none⟩=some (.int .i64 0):=(zz9 BK142.out 1).trans rfl;have hfz37_0:=zz10 BK142.out 0;have hfz37_1:=zz10 BK142.out 1))
            have n0_:Aside0 (((w35.setCell ⟨gb142,0,none⟩ (.int .i64 ((rd_T70 l0_1 x25_2).f0))).setCell ⟨gb142,1,none⟩ (.int .i64 ((rd_T70 l0_1 x25_2).f1))).heap[gb139]?=some (.cells #[.int .i64 a0_0,.slice (some ad141) l0_1.length c0_1] 30 (0,0))):=⟨by (with_reducible repeat (first | refine zz6 ?_ _ | refine zz7 ?_ | refine zz8 ?_ _));refine blk_far ?_ NB139_142.out _;(with_reducible repeat (first | refine zz6 ?_ _ | refine zz7 ?_ | refine zz8 ?_ _));refine blk_far ?_ NB139_142.out _;(with_reducible repeat (first | refine zz6 ?_ _ | refine zz7 ?_ | refine zz8 ?_ _));exact BK139.out⟩
            have n1_:Aside0 (((w35.setCell ⟨gb142,0,none⟩ (.int .i64 ((rd_T70 l0_1 x25_2).f0))).setCell ⟨gb142,1,none⟩ (.int .i64 ((rd_T70 l0_1 x25_2).f1))).heap[gb142]?=some (.cells #[.int .i64 ((rd_T70 l0_1 x25_2).f0),.int .i64 ((rd_T70 l0_1 x25_2).f1)] 70 (0,0))):=⟨by (with_reducible repeat (first | refine zz6 ?_ _ | refine zz7 ?_ | refine zz8 ?_ _));refine blk_put (cs:=#[.int .i64 ((rd_T70 l0_1 x25_2).f0),.int .i64 0]) ?_ 1 _ rfl;(with_reducible repeat (first | refine zz6 ?_ _ | refine zz7 ?_ | refine zz8 ?_ _));refine blk_put (cs:=#[.int .i64 0,.int .i64 0]) ?_ 0 _ rfl;(with_reducible repeat (first | refine zz6 ?_ _ | refine zz7 ?_ | refine zz8 ?_ _));exact BK142.out⟩
            have n2_:Aside0 (Below w.heap.size w ((w35.setCell ⟨gb142,0,none⟩ (.int .i64 ((rd_T70 l0_1 x25_2).f0))).setCell ⟨gb142,1,none⟩ (.int .i64 ((rd_T70 l0_1 x25_2).f1)))):=⟨by repeat first | exact HB.out | apply zz2 | apply zz0 | apply zz1 | refine zz3 ?_ GE139.out | refine zz3 ?_ GE142.out⟩
            (try clear BK139)
            (try clear BK142)
            (try clear HB)
            generalize ((w35.setCell ⟨gb142,0,none⟩ (.int .i64 ((rd_T70 l0_1 x25_2).f0))).setCell ⟨gb142,1,none⟩ (.int .i64 ((rd_T70 l0_1 x25_2).f1)))=w38 at n0_ n1_ n2_ ⊢
            have BK139:=n0_
            have BK142:=n1_
            have HB:=n2_
            clear n0_ n1_ n2_
            have n0_:=zz31 (zz7 BK139.out)
            have n1_:=zz31 (zz7 BK142.out)
            have n2_:=zz31 (zz1 HB.out)
            clear BK139
            clear BK142
            clear HB
            have BK139:=n0_
            have BK142:=n1_
            have HB:=n2_
            clear n0_ n1_ n2_
            refine start_ (n:=34) (S:=fun w'=>w'.cell? ⟨gb142,0,none⟩=some (.int .i64 ((rd_T70 l0_1 x25_2).f0))∧w'.cell? ⟨gb142,1,none⟩=some (.int .i64 ((rd_T70 l0_1 x25_2).f1))∧w'.cell? ⟨gb139,0,none⟩=some (.int .i64 a0_0)∧w'.cell? ⟨gb139,1,none⟩=some (.slice (some ad141) l0_1.length c0_1)) (ds:=[]) #[F,F,F,F,F,F,F,F,F,F,F,F,F,F,F,F,F,F,F,F,F,F,F,F,F,F,F,F,F,F,F,F,F,F] (by kernel_rfl) rfl rfl ⟨(zz9 BK142.out 0).trans rfl,(zz9 BK142.out 1).trans rfl,(zz9 BK139.out 0).trans rfl,(zz9 BK139.out 1).trans rfl⟩ (fun hHeld=>?_);refine with_tabW spec_paGood.tab6 spec_paGood.bits6 (fun HT_ HW_=>?_)
            generalize w38.drew=w39 at BK139 BK142 HB hHeld ⊢
            refine pure_ (i:=0) (N:=some 30) (v:=?_) (a':=?_) #[T,F,F,F,F,F,F,F,F,F,F,F,F,F,F,F,F,F,F,F,F,F,F,F,F,F,F,F,F,F,F,F,F,F] rfl rfl (any_of HT_.out (by kernel_rfl)) (fun _ _ _ h=>h) (Or.inl ⟨by rfl,?_⟩) ?_ ?_
            rotate_left
            ·intro w'
             go_simp
             with_reducible rfl
            rotate_left
            ·simp only [Act.put,zz21,zz22,zz23,i64_w,i32_w]
             rfl
            refine pure_ (i:=2) (N:=some 32) (v:=?_) (a':=?_) #[T,F,T,F,F,F,F,F,F,F,F,F,F,F,F,F,F,F,F,F,F,F,F,F,F,F,F,F,F,F,F,F,F,F] rfl rfl (any_of HT_.out (by kernel_rfl)) (fun _ _ _ h=>h) (Or.inl ⟨by rfl,?_⟩) ?_ ?_
            rotate_left
            ·intro w'
             go_simp
             with_reducible rfl
            rotate_left
            ·simp only [Act.put,zz21,zz22,zz23,i64_w,i32_w]
             rfl
            refine take_ (i:=1) (N:=some 31) (v:=?_) (a':=?_) #[T,T,T,F,F,F,F,F,F,F,F,F,F,F,F,F,F,F,F,F,F,F,F,F,F,F,F,F,F,F,F,F,F,F] rfl rfl (take_ofW HT_.out HW_.out (by kernel_rfl)) (fun _ _ _ h=>h) (Or.inl ⟨by rfl,?_⟩) hHeld ?_ ?_
            rotate_left
            ·rintro w' ⟨s0,s1,s2,s3⟩
             go_simp
             with_reducible rfl
            rotate_left
            ·simp only [Act.put,zz21,zz22,zz23,i64_w,i32_w]
             rfl
            refine take_ (i:=3) (N:=some 33) (v:=?_) (a':=?_) #[T,T,T,T,F,F,F,F,F,F,F,F,F,F,F,F,F,F,F,F,F,F,F,F,F,F,F,F,F,F,F,F,F,F] rfl rfl (take_ofW HT_.out HW_.out (by kernel_rfl)) (fun _ _ _ h=>h) (Or.inl ⟨by rfl,?_⟩) hHeld ?_ ?_
            rotate_left
            ·rintro w' ⟨s0,s1,s2,s3⟩
             go_simp
             with_reducible rfl
            rotate_left
            ·simp only [Act.put,zz21,zz22,zz23,i64_w,i32_w]
             rfl
            refine pure_ (i:=4) (N:=some 34) (v:=?_) (a':=?_) #[T,T,T,T,T,F,F,F,F,F,F,F,F,F,F,F,F,F,F,F,F,F,F,F,F,F,F,F,F,F,F,F,F,F] rfl rfl (any_of HT_.out (by kernel_rfl)) (fun _ _ _ h=>h) (Or.inl ⟨by rfl,?_⟩) ?_ ?_
            rotate_left
            ·intro w'
             go_simp
             with_reducible rfl
            rotate_left
            ·simp only [Act.put,zz21,zz22,zz23,i64_w,i32_w]
             rfl
            refine one_ (i:=5) (N:=some 35) #[T,T,T,T,T,T,F,F,F,F,F,F,F,F,F,F,F,F,F,F,F,F,F,F,F,F,F,F,F,F,F,F,F,F] rfl rfl (one_of HT_.out (by kernel_rfl)) (by decide) (fun K hK=>?_)
            refine goes_ Try.func74 (by kernel_rfl) rfl #[.int .i64 ((rd_T70 l0_1 x25_2).f0),.int .i64 0,.int .i64 (wrap64 (a0_0 - 1))] (by rfl) rfl rfl (by (try simp only [zz26,zz27,zz28]);first | done | rfl | (simp only [zz24,zz25];rfl)) ?_
            with_reducible refine (spec_l1In.calls ((rd_T70 l0_1 x25_2).f0) 0 (wrap64 (a0_0 - 1)) true _ A13.out).mono ?_
            rintro e w' ⟨rfl,⟨nd,rfl⟩⟩
            refine ⟨_,rfl,?_⟩
            refine hK.out _ _ ⟨(zz9 BK142.out 0).trans rfl,(zz9 BK142.out 1).trans rfl,(zz9 BK139.out 0).trans rfl,(zz9 BK139.out 1).trans rfl⟩ (fun hHeld=>?_)
            clear hK K
            refine norm_ (a':=?_) ?_ ?_
            rotate_left
            ·show Act.put _ (some 35) _=_
             simp only [Act.put,zz21,zz22,zz23,i64_w,i32_w]
             rfl
            refine pure_ (i:=6) (N:=some 36) (v:=?_) (a':=?_) #[T,T,T,T,T,T,T,F,F,F,F,F,F,F,F,F,F,F,F,F,F,F,F,F,F,F,F,F,F,F,F,F,F,F] rfl rfl (any_of HT_.out (by kernel_rfl)) (fun _ _ _ h=>h) (Or.inl ⟨by rfl,?_⟩) ?_ ?_
            rotate_left
            ·intro w'
             go_simp
             with_reducible rfl
            rotate_left
            ·simp only [Act.put,zz21,zz22,zz23,i64_w,i32_w]
             rfl
            refine pure_ (i:=7) (N:=some 37) (v:=?_) (a':=?_) #[T,T,T,T,T,T,T,T,F,F,F,F,F,F,F,F,F,F,F,F,F,F,F,F,F,F,F,F,F,F,F,F,F,F] rfl rfl (any_of HT_.out (by kernel_rfl)) (fun _ _ _ h=>h) (Or.inl ⟨by rfl,?_⟩) ?_ ?_
            rotate_left
            ·intro w'
             go_simp
             with_reducible rfl
            rotate_left
            ·simp only [Act.put,zz21,zz22,zz23,i64_w,i32_w]
             rfl
            refine pure_ (i:=8) (N:=some 38) (v:=?_) (a':=?_) #[T,T,T,T,T,T,T,T,T,F,F,F,F,F,F,F,F,F,F,F,F,F,F,F,F,F,F,F,F,F,F,F,F,F] rfl rfl (any_of HT_.out (by kernel_rfl)) (fun _ _ _ h=>h) (Or.inl ⟨by rfl,?_⟩) ?_ ?_
            rotate_left
            ·intro w'
             go_simp
             with_reducible rfl
            rotate_left
            ·simp only [Act.put,zz21,zz22,zz23,i64_w,i32_w]
             rfl
            refine pure_ (i:=10) (N:=some 40) (v:=?_) (a':=?_) #[T,T,T,T,T,T,T,T,T,F,T,F,F,F,F,F,F,F,F,F,F,F,F,F,F,F,F,F,F,F,F,F,F,F] rfl rfl (any_of HT_.out (by kernel_rfl)) (fun _ _ _ h=>h) (Or.inl ⟨by rfl,?_⟩) ?_ ?_
            rotate_left
            ·intro w'
             go_simp
             with_reducible rfl
            rotate_left
            ·simp only [Act.put,zz21,zz22,zz23,i64_w,i32_w]
             rfl
            refine pure_ (i:=13) (N:=some 43) (v:=?_) (a':=?_) #[T,T,T,T,T,T,T,T,T,F,T,F,F,T,F,F,F,F,F,F,F,F,F,F,F,F,F,F,F,F,F,F,F,F] rfl rfl (any_of HT_.out (by kernel_rfl)) (fun _ _ _ h=>h) (Or.inl ⟨by rfl,?_⟩) ?_ ?_
            rotate_left
            ·intro w'
             go_simp
             with_reducible rfl
            rotate_left
            ·simp only [Act.put,zz21,zz22,zz23,i64_w,i32_w]
             rfl
            refine take_ (i:=9) (N:=some 39) (v:=?_) (a':=?_) #[T,T,T,T,T,T,T,T,T,T,T,F,F,T,F,F,F,F,F,F,F,F,F,F,F,F,F,F,F,F,F,F,F,F] rfl rfl (take_ofW HT_.out HW_.out (by kernel_rfl)) (fun _ _ _ h=>h) (Or.inl ⟨by rfl,?_⟩) hHeld ?_ ?_
            rotate_left
            ·rintro w' ⟨s0,s1,s2,s3⟩
             go_simp
             with_reducible rfl
            rotate_left
            ·simp only [Act.put,zz21,zz22,zz23,i64_w,i32_w]
             rfl
            refine take_ (i:=11) (N:=some 41) (v:=?_) (a':=?_) #[T,T,T,T,T,T,T,T,T,T,T,T,F,T,F,F,F,F,F,F,F,F,F,F,F,F,F,F,F,F,F,F,F,F] rfl rfl (take_ofW HT_.out HW_.out (by kernel_rfl)) (fun _ _ _ h=>h) (Or.inl ⟨by rfl,?_⟩) hHeld ?_ ?_
            rotate_left
            ·rintro w' ⟨s0,s1,s2,s3⟩
             go_simp
             with_reducible rfl
            rotate_left
            ·simp only [Act.put,zz21,zz22,zz23,i64_w,i32_w]
             rfl
            refine pure_ (i:=12) (N:=some 42) (v:=?_) (a':=?_) #[T,T,T,T,T,T,T,T,T,T,T,T,T,T,F,F,F,F,F,F,F,F,F,F,F,F,F,F,F,F,F,F,F,F] rfl rfl (any_of HT_.out (by kernel_rfl)) (fun _ _ _ h=>h) (Or.inl ⟨by rfl,?_⟩) ?_ ?_
            rotate_left
            ·intro w'
             go_simp
             with_reducible rfl
            rotate_left
            ·simp only [Act.put,zz21,zz22,zz23,i64_w,i32_w]
             rfl
            refine take_ (i:=14) (N:=some 44) (v:=?_) (a':=?_) #[T,T,T,T,T,T,T,T,T,T,T,T,T,T,T,F,F,F,F,F,F,F,F,F,F,F,F,F,F,F,F,F,F,F] rfl rfl (take_ofW HT_.out HW_.out (by kernel_rfl)) (fun _ _ _ h=>h) (Or.inl ⟨by rfl,?_⟩) hHeld ?_ ?_
            rotate_left
            ·rintro w' ⟨s0,s1,s2,s3⟩
             go_simp
             with_reducible rfl
            rotate_left
            ·simp only [Act.put,zz21,zz22,zz23,i64_w,i32_w]
             rfl
            refine pure_ (i:=15) (N:=some 45) (v:=?_) (a':=?_) #[T,T,T,T,T,T,T,T,T,T,T,T,T,T,T,T,F,F,F,F,F,F,F,F,F,F,F,F,F,F,F,F,F,F] rfl rfl (any_of HT_.out (by kernel_rfl)) (fun _ _ _ h=>h) (Or.inl ⟨by rfl,?_⟩) ?_ ?_
            rotate_left
            ·intro w'
             go_simp
             with_reducible rfl
            rotate_left
            ·simp only [Act.put,zz21,zz22,zz23,i64_w,i32_w]
             rfl
            refine one_ (i:=16) (N:=some 46) #[T,T,T,T,T,T,T,T,T,T,T,T,T,T,T,T,T,F,F,F,F,F,F,F,F,F,F,F,F,F,F,F,F,F] rfl rfl (one_of HT_.out (by kernel_rfl)) (by decide) (fun K hK=>?_)
            refine goes_ Try.func74 (by kernel_rfl) rfl #[.int .i64 ((rd_T70 l0_1 x25_2).f1),.int .i64 (wrap64 (((rd_T70 l0_1 x25_2).f0)+1)),.int .i64 (wrap64 (a0_0 - 1))] (by rfl) rfl rfl (by (try simp only [zz26,zz27,zz28]);first | done | rfl | (simp only [zz24,zz25];rfl)) ?_
            with_reducible refine (spec_l1In.calls ((rd_T70 l0_1 x25_2).f1) (wrap64 (((rd_T70 l0_1 x25_2).f0)+1)) (wrap64 (a0_0 - 1)) true _ A15.out).mono ?_
            rintro e w' ⟨rfl,⟨nd,rfl⟩⟩
            refine ⟨_,rfl,?_⟩
            refine hK.out _ _ ⟨(zz9 BK142.out 0).trans rfl,(zz9 BK142.out 1).trans rfl,(zz9 BK139.out 0).trans rfl,(zz9 BK139.out 1).trans rfl⟩ (fun hHeld=>?_)
            clear hK K
            refine norm_ (a':=?_) ?_ ?_
            rotate_left
            ·show Act.put _ (some 46) _=_
             simp only [Act.put,zz21,zz22,zz23,i64_w,i32_w]
             rfl
            refine pure_ (i:=17) (N:=some 47) (v:=?_) (a':=?_) #[T,T,T,T,T,T,T,T,T,T,T,T,T,T,T,T,T,T,F,F,F,F,F,F,F,F,F,F,F,F,F,F,F,F] rfl rfl (any_of HT_.out (by kernel_rfl)) (fun _ _ _ h=>h) (Or.inl ⟨by rfl,?_⟩) ?_ ?_
            rotate_left
            ·intro w'
             go_simp
             with_reducible rfl
            rotate_left
            ·simp only [Act.put,zz21,zz22,zz23,i64_w,i32_w]
             rfl
            refine pure_ (i:=18) (N:=some 48) (v:=?_) (a':=?_) #[T,T,T,T,T,T,T,T,T,T,T,T,T,T,T,T,T,T,T,F,F,F,F,F,F,F,F,F,F,F,F,F,F,F] rfl rfl (any_of HT_.out (by kernel_rfl)) (fun _ _ _ h=>h) (Or.inl ⟨by rfl,?_⟩) ?_ ?_
            rotate_left
            ·intro w'
             go_simp
             with_reducible rfl
            rotate_left
            ·simp only [Act.put,zz21,zz22,zz23,i64_w,i32_w]
             rfl
            refine pure_ (i:=19) (N:=some 49) (v:=?_) (a':=?_) #[T,T,T,T,T,T,T,T,T,T,T,T,T,T,T,T,T,T,T,T,F,F,F,F,F,F,F,F,F,F,F,F,F,F] rfl rfl (any_of HT_.out (by kernel_rfl)) (fun _ _ _ h=>h) (Or.inl ⟨by rfl,?_⟩) ?_ ?_
            rotate_left
            ·intro w'
             go_simp
             with_reducible rfl
            rotate_left
            ·simp only [Act.put,zz21,zz22,zz23,i64_w,i32_w]
             rfl
            refine pure_ (i:=20) (N:=some 50) (v:=?_) (a':=?_) #[T,T,T,T,T,T,T,T,T,T,T,T,T,T,T,T,T,T,T,T,T,F,F,F,F,F,F,F,F,F,F,F,F,F] rfl rfl (any_of HT_.out (by kernel_rfl)) (fun _ _ _ h=>h) (Or.inl ⟨by rfl,?_⟩) ?_ ?_
            rotate_left
            ·intro w'
             go_simp
             with_reducible rfl
            rotate_left
            ·simp only [Act.put,zz21,zz22,zz23,i64_w,i32_w]
             rfl
            refine pure_ (i:=21) (N:=some 51) (v:=?_) (a':=?_) #[T,T,T,T,T,T,T,T,T,T,T,T,T,T,T,T,T,T,T,T,T,T,F,F,F,F,F,F,F,F,F,F,F,F] rfl rfl (any_of HT_.out (by kernel_rfl)) (fun _ _ _ h=>h) (Or.inl ⟨by rfl,?_⟩) ?_ ?_
            rotate_left
            ·intro w'
             go_simp
             with_reducible rfl
            rotate_left
            ·simp only [Act.put,zz21,zz22,zz23,i64_w,i32_w]
             rfl
            refine pure_ (i:=22) (N:=some 52) (v:=?_) (a':=?_) #[T,T,T,T,T,T,T,T,T,T,T,T,T,T,T,T,T,T,T,T,T,T,T,F,F,F,F,F,F,F,F,F,F,F] rfl rfl (any_of HT_.out (by kernel_rfl)) (fun _ _ _ h=>h) (Or.inl ⟨by rfl,?_⟩) ?_ ?_
            rotate_left
            ·intro w'
             go_simp
             with_reducible rfl
            rotate_left
            ·simp only [Act.put,zz21,zz22,zz23,i64_w,i32_w]
             rfl
            refine pure_ (i:=23) (N:=some 53) (v:=undef) (a':=?_) #[T,T,T,T,T,T,T,T,T,T,T,T,T,T,T,T,T,T,T,T,T,T,T,T,F,F,F,F,F,F,F,F,F,F] rfl rfl (any_of HT_.out (by kernel_rfl)) (fun _ _ _ h=>h) (Or.inr ⟨by rfl,rfl⟩) ?_ ?_
            rotate_left
            ·simp only [Act.put,zz21,zz22,zz23,i64_w,i32_w]
             rfl
            refine pure_ (i:=24) (N:=some 54) (v:=undef) (a':=?_) #[T,T,T,T,T,T,T,T,T,T,T,T,T,T,T,T,T,T,T,T,T,T,T,T,T,F,F,F,F,F,F,F,F,F] rfl rfl (any_of HT_.out (by kernel_rfl)) (fun _ _ _ h=>h) (Or.inr ⟨by rfl,rfl⟩) ?_ ?_
            rotate_left
            ·simp only [Act.put,zz21,zz22,zz23,i64_w,i32_w]
             rfl
            refine pure_ (i:=25) (N:=some 55) (v:=undef) (a':=?_) #[T,T,T,T,T,T,T,T,T,T,T,T,T,T,T,T,T,T,T,T,T,T,T,T,T,T,F,F,F,F,F,F,F,F] rfl rfl (any_of HT_.out (by kernel_rfl)) (fun _ _ _ h=>h) (Or.inr ⟨by rfl,rfl⟩) ?_ ?_
            rotate_left
            ·simp only [Act.put,zz21,zz22,zz23,i64_w,i32_w]
             rfl
            refine pure_ (i:=26) (N:=some 56) (v:=undef) (a':=?_) #[T,T,T,T,T,T,T,T,T,T,T,T,T,T,T,T,T,T,T,T,T,T,T,T,T,T,T,F,F,F,F,F,F,F] rfl rfl (any_of HT_.out (by kernel_rfl)) (fun _ _ _ h=>h) (Or.inr ⟨by rfl,rfl⟩) ?_ ?_
            rotate_left
            ·simp only [Act.put,zz21,zz22,zz23,i64_w,i32_w]
             rfl
            refine pure_ (i:=27) (N:=some 57) (v:=undef) (a':=?_) #[T,T,T,T,T,T,T,T,T,T,T,T,T,T,T,T,T,T,T,T,T,T,T,T,T,T,T,T,F,F,F,F,F,F] rfl rfl (any_of HT_.out (by kernel_rfl)) (fun _ _ _ h=>h) (Or.inr ⟨by rfl,rfl⟩) ?_ ?_
            rotate_left
            ·simp only [Act.put,zz21,zz22,zz23,i64_w,i32_w]
             rfl
            refine pure_ (i:=28) (N:=some 58) (v:=undef) (a':=?_) #[T,T,T,T,T,T,T,T,T,T,T,T,T,T,T,T,T,T,T,T,T,T,T,T,T,T,T,T,T,F,F,F,F,F] rfl rfl (any_of HT_.out (by kernel_rfl)) (fun _ _ _ h=>h) (Or.inr ⟨by rfl,rfl⟩) ?_ ?_
            rotate_left
            ·simp only [Act.put,zz21,zz22,zz23,i64_w,i32_w]
             rfl
            refine pure_ (i:=29) (N:=some 59) (v:=undef) (a':=?_) #[T,T,T,T,T,T,T,T,T,T,T,T,T,T,T,T,T,T,T,T,T,T,T,T,T,T,T,T,T,T,F,F,F,F] rfl rfl (any_of HT_.out (by kernel_rfl)) (fun _ _ _ h=>h) (Or.inr ⟨by rfl,rfl⟩) ?_ ?_
            rotate_left
            ·simp only [Act.put,zz21,zz22,zz23,i64_w,i32_w]
             rfl
            refine pure_ (i:=30) (N:=some 60) (v:=undef) (a':=?_) #[T,T,T,T,T,T,T,T,T,T,T,T,T,T,T,T,T,T,T,T,T,T,T,T,T,T,T,T,T,T,T,F,F,F] rfl rfl (any_of HT_.out (by kernel_rfl)) (fun _ _ _ h=>h) (Or.inr ⟨by rfl,rfl⟩) ?_ ?_
            rotate_left
            ·simp only [Act.put,zz21,zz22,zz23,i64_w,i32_w]
             rfl
            refine pure_ (i:=31) (N:=some 61) (v:=undef) (a':=?_) #[T,T,T,T,T,T,T,T,T,T,T,T,T,T,T,T,T,T,T,T,T,T,T,T,T,T,T,T,T,T,T,T,F,F] rfl rfl (any_of HT_.out (by kernel_rfl)) (fun _ _ _ h=>h) (Or.inr ⟨by rfl,rfl⟩) ?_ ?_
            rotate_left
            ·simp only [Act.put,zz21,zz22,zz23,i64_w,i32_w]
             rfl
            refine pure_ (i:=32) (N:=some 62) (v:=?_) (a':=?_) #[T,T,T,T,T,T,T,T,T,T,T,T,T,T,T,T,T,T,T,T,T,T,T,T,T,T,T,T,T,T,T,T,T,F] rfl rfl (any_of HT_.out (by kernel_rfl)) (fun _ _ _ h=>h) (Or.inl ⟨by rfl,?_⟩) ?_ ?_
            rotate_left
            ·intro w'
             go_simp
             with_reducible rfl
            rotate_left
            ·simp only [Act.put,zz21,zz22,zz23,i64_w,i32_w]
             rfl
            refine pure_ (i:=33) (N:=some 63) (v:=?_) (a':=?_) #[T,T,T,T,T,T,T,T,T,T,T,T,T,T,T,T,T,T,T,T,T,T,T,T,T,T,T,T,T,T,T,T,T,T] rfl rfl (any_of HT_.out (by kernel_rfl)) (fun _ _ _ h=>h) (Or.inl ⟨by rfl,?_⟩) ?_ ?_
            rotate_left
            ·intro w'
             go_simp
             with_reducible rfl
            rotate_left
            ·simp only [Act.put,zz21,zz22,zz23,i64_w,i32_w]
             rfl
            refine done_ (done_of HT_.out (by kernel_rfl)) ?_
            try go_wp2
            go_roundg k2
            case measure=>have:=HJ1.out;have:=HK2.out;omega
            case rel=>exact ⟨(wrap64 (x25_2+1)),(by first | rfl | (simp;done) | (simp [*];done)),H',⟨by have:=HJ1.out;have:=HK2.out;omega⟩,⟨by (with_reducible repeat (first | refine zz6 ?_ _ | refine zz7 ?_ | refine zz8 ?_ _));exact BK139.out⟩,⟨by repeat first | exact HB.out | apply zz2 | apply zz0 | apply zz1 | refine zz3 ?_ GE139.out | refine zz3 ?_ GE142.out⟩⟩
          ·replace c16:=Bool.eq_false_iff.mpr c16
           subst c16
           have H1:(some false)=some r:=by rw [if_neg (show ¬ (false=true) by decide)] at H;exact H
           clear H
           have H:=H1
           clear H1
           obtain rfl:=Option.some.inj H
           have p141:0≤(x25_2:Int):=zz29 (by first | (with_reducible assumption) | assumption)
           have q141:x25_2 < (l0_1.length:Int):=zz29 (by first | (with_reducible assumption) | assumption)
           obtain ⟨ad141,e141,hx141_0,hx141_1⟩:=at_T70 HR0_1.out x25_2 p141 q141
           cases e141
           try replace hx141_0:=(HB.out.cell (World.block_lt_of_cell? w _ hx141_0)).trans hx141_0
           try replace hx141_1:=(HB.out.cell (World.block_lt_of_cell? w _ hx141_1)).trans hx141_1
           replace p141:=eq_true p141
           replace q141:=eq_true q141
           try go_wp2_with (first | ((with_reducible refine gate_dst (N:=4) rfl ?_);(try (refine gate_guard (by rfl) ?_;dsimp only));refine box_event ?hg (N:=4) ?hd (cs:=#[.int .i64 0,.int .i64 0]) (t:=70) ?hr ?_;(case hd=>rfl);(case hg=>rfl);(case hr=>first | (go_simp;done) | (go_simp;rfl));intro gb142 hg w40 hbox hb;have n0_:=zz31 (zz11 (g:=gb139) (o:=.cells #[.int .i64 a0_0,.slice (some ad141) l0_1.length c0_1] 30 (0,0)) (by (with_reducible repeat (first | refine zz6 ?_ _ | refine zz7 ?_ | refine zz8 ?_ _));exact BK139.out) hb);have n1_:=zz31 (zz4 (by repeat first | exact HB.out | apply zz2 | apply zz0 | apply zz1 | refine zz3 ?_ GE139.out) hb);have n2_:=zz31 (hbox);have n3_:=zz31 ((by rw [hg];exact (zz5 (by repeat first | exact HB.out | apply zz2 | apply zz0 | apply zz1 | refine zz3 ?_ GE139.out)):w.heap.size≤gb142));have n4_:=zz31 ((by rw [hg];exact (zz5 (by repeat first | exact HB.out | apply zz2 | apply zz0 | apply zz1 | refine zz3 ?_ GE139.out)):w.heap.size≤gb142));have n5_:=zz31 ((by rw [hg];exact Nat.ne_of_lt (blk_lt (g:=gb139) (o:=.cells #[.int .i64 a0_0,.slice (some ad141) l0_1.length c0_1] 30 (0,0)) (by (with_reducible repeat (first | refine zz6 ?_ _ | refine zz7 ?_ | refine zz8 ?_ _));exact BK139.out)):gb139 ≠ gb142));have n6_:=zz31 ((by rw [hg];exact Nat.ne_of_gt (blk_lt (g:=gb139) (o:=.cells #[.int .i64 a0_0,.slice (some ad141) l0_1.length c0_1] 30 (0,0)) (by (with_reducible repeat (first | refine zz6 ?_ _ | refine zz7 ?_ | refine zz8 ?_ _));exact BK139.out)):gb142 ≠ gb139));clear BK139;clear HB;have BK139:=n0_;have HB:=n1_;have BK142:=n2_;have GW142:=n3_;have GE142:=n4_;have NB139_142:=n5_;have NB142_139:=n6_;clear n0_ n1_ n2_ n3_ n4_ n5_ n6_;clear hb hbox hg;have hnb41:=NB142_139.out;have hnc41:=NB139_142.out;have hcz42_0:w40.cell? ⟨gb142,0,none⟩=some (.int .i64 0):=(zz9 BK142.out 0).trans rfl;have hcz42_1:w40.cell? ⟨gb142,1,none⟩=some (.int .i64 0):=(zz9 BK142.out 1).trans rfl;have hfz42_0:=zz10 BK142.out 0;have hfz42_1:=zz10 BK142.out 1))
           have n0_:Aside0 (((w40.setCell ⟨gb142,0,none⟩ (.int .i64 ((rd_T70 l0_1 x25_2).f0))).setCell ⟨gb142,1,none⟩ (.int .i64 ((rd_T70 l0_1 x25_2).f1))).heap[gb139]?=some (.cells #[.int .i64 a0_0,.slice (some ad141) l0_1.length c0_1] 30 (0,0))):=⟨by (with_reducible repeat (first | refine zz6 ?_ _ | refine zz7 ?_ | refine zz8 ?_ _));refine blk_far ?_ NB139_142.out _;(with_reducible repeat (first | refine zz6 ?_ _ | refine zz7 ?_ | refine zz8 ?_ _));refine blk_far ?_ NB139_142.out _;(with_reducible repeat (first | refine zz6 ?_ _ | refine zz7 ?_ | refine zz8 ?_ _));exact BK139.out⟩
           have n1_:Aside0 (((w40.setCell ⟨gb142,0,none⟩ (.int .i64 ((rd_T70 l0_1 x25_2).f0))).setCell ⟨gb142,1,none⟩ (.int .i64 ((rd_T70 l0_1 x25_2).f1))).heap[gb142]?=some (.cells #[.int .i64 ((rd_T70 l0_1 x25_2).f0),.int .i64 ((rd_T70 l0_1 x25_2).f1)] 70 (0,0))):=⟨by (with_reducible repeat (first | refine zz6 ?_ _ | refine zz7 ?_ | refine zz8 ?_ _));refine blk_put (cs:=#[.int .i64 ((rd_T70 l0_1 x25_2).f0),.int .i64 0]) ?_ 1 _ rfl;(with_reducible repeat (first | refine zz6 ?_ _ | refine zz7 ?_ | refine zz8 ?_ _));refine blk_put (cs:=#[.int .i64 0,.int .i64 0]) ?_ 0 _ rfl;(with_reducible repeat (first | refine zz6 ?_ _ | refine zz7 ?_ | refine zz8 ?_ _));exact BK142.out⟩
           have n2_:Aside0 (Below w.heap.size w ((w40.setCell ⟨gb142,0,none⟩ (.int .i64 ((rd_T70 l0_1 x25_2).f0))).setCell ⟨gb142,1,none⟩ (.int .i64 ((rd_T70 l0_1 x25_2).f1)))):=⟨by repeat first | exact HB.out | apply zz2 | apply zz0 | apply zz1 | refine zz3 ?_ GE139.out | refine zz3 ?_ GE142.out⟩
           (try clear BK139)
           (try clear BK142)
           (try clear HB)
           generalize ((w40.setCell ⟨gb142,0,none⟩ (.int .i64 ((rd_T70 l0_1 x25_2).f0))).setCell ⟨gb142,1,none⟩ (.int .i64 ((rd_T70 l0_1 x25_2).f1)))=w43 at n0_ n1_ n2_ ⊢
           have BK139:=n0_
           have BK142:=n1_
           have HB:=n2_
           clear n0_ n1_ n2_
           have n0_:=zz31 (zz7 BK139.out)
           have n1_:=zz31 (zz7 BK142.out)
           have n2_:=zz31 (zz1 HB.out)
           clear BK139
           clear BK142
           clear HB
           have BK139:=n0_
           have BK142:=n1_
           have HB:=n2_
           clear n0_ n1_ n2_
           refine start_ (n:=34) (S:=fun w'=>w'.cell? ⟨gb142,0,none⟩=some (.int .i64 ((rd_T70 l0_1 x25_2).f0))∧w'.cell? ⟨gb142,1,none⟩=some (.int .i64 ((rd_T70 l0_1 x25_2).f1))∧w'.cell? ⟨gb139,0,none⟩=some (.int .i64 a0_0)∧w'.cell? ⟨gb139,1,none⟩=some (.slice (some ad141) l0_1.length c0_1)) (ds:=[]) #[F,F,F,F,F,F,F,F,F,F,F,F,F,F,F,F,F,F,F,F,F,F,F,F,F,F,F,F,F,F,F,F,F,F] (by kernel_rfl) rfl rfl ⟨(zz9 BK142.out 0).trans rfl,(zz9 BK142.out 1).trans rfl,(zz9 BK139.out 0).trans rfl,(zz9 BK139.out 1).trans rfl⟩ (fun hHeld=>?_);refine with_tabW spec_paGood.tab6 spec_paGood.bits6 (fun HT_ HW_=>?_)
           generalize w43.drew=w44 at BK139 BK142 HB hHeld ⊢
           refine pure_ (i:=0) (N:=some 30) (v:=?_) (a':=?_) #[T,F,F,F,F,F,F,F,F,F,F,F,F,F,F,F,F,F,F,F,F,F,F,F,F,F,F,F,F,F,F,F,F,F] rfl rfl (any_of HT_.out (by kernel_rfl)) (fun _ _ _ h=>h) (Or.inl ⟨by rfl,?_⟩) ?_ ?_
           rotate_left
           ·intro w'
            go_simp
            with_reducible rfl
           rotate_left
           ·simp only [Act.put,zz21,zz22,zz23,i64_w,i32_w]
            rfl
           refine pure_ (i:=2) (N:=some 32) (v:=?_) (a':=?_) #[T,F,T,F,F,F,F,F,F,F,F,F,F,F,F,F,F,F,F,F,F,F,F,F,F,F,F,F,F,F,F,F,F,F] rfl rfl (any_of HT_.out (by kernel_rfl)) (fun _ _ _ h=>h) (Or.inl ⟨by rfl,?_⟩) ?_ ?_
           rotate_left
           ·intro w'
            go_simp
            with_reducible rfl
           rotate_left
           ·simp only [Act.put,zz21,zz22,zz23,i64_w,i32_w]
            rfl
           refine take_ (i:=1) (N:=some 31) (v:=?_) (a':=?_) #[T,T,T,F,F,F,F,F,F,F,F,F,F,F,F,F,F,F,F,F,F,F,F,F,F,F,F,F,F,F,F,F,F,F] rfl rfl (take_ofW HT_.out HW_.out (by kernel_rfl)) (fun _ _ _ h=>h) (Or.inl ⟨by rfl,?_⟩) hHeld ?_ ?_
           rotate_left
           ·rintro w' ⟨s0,s1,s2,s3⟩
            go_simp
            with_reducible rfl
           rotate_left
           ·simp only [Act.put,zz21,zz22,zz23,i64_w,i32_w]
            rfl
           refine take_ (i:=3) (N:=some 33) (v:=?_) (a':=?_) #[T,T,T,T,F,F,F,F,F,F,F,F,F,F,F,F,F,F,F,F,F,F,F,F,F,F,F,F,F,F,F,F,F,F] rfl rfl (take_ofW HT_.out HW_.out (by kernel_rfl)) (fun _ _ _ h=>h) (Or.inl ⟨by rfl,?_⟩) hHeld ?_ ?_
           rotate_left
           ·rintro w' ⟨s0,s1,s2,s3⟩
            go_simp
            with_reducible rfl
           rotate_left
           ·simp only [Act.put,zz21,zz22,zz23,i64_w,i32_w]
            rfl
           refine pure_ (i:=4) (N:=some 34) (v:=?_) (a':=?_) #[T,T,T,T,T,F,F,F,F,F,F,F,F,F,F,F,F,F,F,F,F,F,F,F,F,F,F,F,F,F,F,F,F,F] rfl rfl (any_of HT_.out (by kernel_rfl)) (fun _ _ _ h=>h) (Or.inl ⟨by rfl,?_⟩) ?_ ?_
           rotate_left
           ·intro w'
            go_simp
            with_reducible rfl
           rotate_left
           ·simp only [Act.put,zz21,zz22,zz23,i64_w,i32_w]
            rfl
           refine one_ (i:=5) (N:=some 35) #[T,T,T,T,T,T,F,F,F,F,F,F,F,F,F,F,F,F,F,F,F,F,F,F,F,F,F,F,F,F,F,F,F,F] rfl rfl (one_of HT_.out (by kernel_rfl)) (by decide) (fun K hK=>?_)
           refine goes_ Try.func74 (by kernel_rfl) rfl #[.int .i64 ((rd_T70 l0_1 x25_2).f0),.int .i64 0,.int .i64 (wrap64 (a0_0 - 1))] (by rfl) rfl rfl (by (try simp only [zz26,zz27,zz28]);first | done | rfl | (simp only [zz24,zz25];rfl)) ?_
           with_reducible refine (spec_l1In.calls ((rd_T70 l0_1 x25_2).f0) 0 (wrap64 (a0_0 - 1)) true _ A13.out).mono ?_
           rintro e w' ⟨rfl,⟨nd,rfl⟩⟩
           refine ⟨_,rfl,?_⟩
           refine hK.out _ _ ⟨(zz9 BK142.out 0).trans rfl,(zz9 BK142.out 1).trans rfl,(zz9 BK139.out 0).trans rfl,(zz9 BK139.out 1).trans rfl⟩ (fun hHeld=>?_)
           clear hK K
           refine norm_ (a':=?_) ?_ ?_
           rotate_left
           ·show Act.put _ (some 35) _=_
            simp only [Act.put,zz21,zz22,zz23,i64_w,i32_w]
            rfl
           refine pure_ (i:=6) (N:=some 36) (v:=?_) (a':=?_) #[T,T,T,T,T,T,T,F,F,F,F,F,F,F,F,F,F,F,F,F,F,F,F,F,F,F,F,F,F,F,F,F,F,F] rfl rfl (any_of HT_.out (by kernel_rfl)) (fun _ _ _ h=>h) (Or.inl ⟨by rfl,?_⟩) ?_ ?_
           rotate_left
           ·intro w'
            go_simp
            with_reducible rfl
           rotate_left
           ·simp only [Act.put,zz21,zz22,zz23,i64_w,i32_w]
            rfl
           refine pure_ (i:=7) (N:=some 37) (v:=?_) (a':=?_) #[T,T,T,T,T,T,T,T,F,F,F,F,F,F,F,F,F,F,F,F,F,F,F,F,F,F,F,F,F,F,F,F,F,F] rfl rfl (any_of HT_.out (by kernel_rfl)) (fun _ _ _ h=>h) (Or.inl ⟨by rfl,?_⟩) ?_ ?_
           rotate_left
           ·intro w'
            go_simp
            with_reducible rfl
           rotate_left
           ·simp only [Act.put,zz21,zz22,zz23,i64_w,i32_w]
            rfl
           refine pure_ (i:=8) (N:=some 38) (v:=?_) (a':=?_) #[T,T,T,T,T,T,T,T,T,F,F,F,F,F,F,F,F,F,F,F,F,F,F,F,F,F,F,F,F,F,F,F,F,F] rfl rfl (any_of HT_.out (by kernel_rfl)) (fun _ _ _ h=>h) (Or.inl ⟨by rfl,?_⟩) ?_ ?_
           rotate_left
           ·intro w'
            go_simp
            with_reducible rfl
           rotate_left
           ·simp only [Act.put,zz21,zz22,zz23,i64_w,i32_w]
            rfl
           refine pure_ (i:=10) (N:=some 40) (v:=?_) (a':=?_) #[T,T,T,T,T,T,T,T,T,F,T,F,F,F,F,F,F,F,F,F,F,F,F,F,F,F,F,F,F,F,F,F,F,F] rfl rfl (any_of HT_.out (by kernel_rfl)) (fun _ _ _ h=>h) (Or.inl ⟨by rfl,?_⟩) ?_ ?_
           rotate_left
           ·intro w'
            go_simp
            with_reducible rfl
           rotate_left
           ·simp only [Act.put,zz21,zz22,zz23,i64_w,i32_w]
            rfl
           refine pure_ (i:=13) (N:=some 43) (v:=?_) (a':=?_) #[T,T,T,T,T,T,T,T,T,F,T,F,F,T,F,F,F,F,F,F,F,F,F,F,F,F,F,F,F,F,F,F,F,F] rfl rfl (any_of HT_.out (by kernel_rfl)) (fun _ _ _ h=>h) (Or.inl ⟨by rfl,?_⟩) ?_ ?_
           rotate_left
           ·intro w'
            go_simp
            with_reducible rfl
           rotate_left
           ·simp only [Act.put,zz21,zz22,zz23,i64_w,i32_w]
            rfl
           refine take_ (i:=9) (N:=some 39) (v:=?_) (a':=?_) #[T,T,T,T,T,T,T,T,T,T,T,F,F,T,F,F,F,F,F,F,F,F,F,F,F,F,F,F,F,F,F,F,F,F] rfl rfl (take_ofW HT_.out HW_.out (by kernel_rfl)) (fun _ _ _ h=>h) (Or.inl ⟨by rfl,?_⟩) hHeld ?_ ?_
           rotate_left
           ·rintro w' ⟨s0,s1,s2,s3⟩
            go_simp
            with_reducible rfl
           rotate_left
           ·simp only [Act.put,zz21,zz22,zz23,i64_w,i32_w]
            rfl
           refine take_ (i:=11) (N:=some 41) (v:=?_) (a':=?_) #[T,T,T,T,T,T,T,T,T,T,T,T,F,T,F,F,F,F,F,F,F,F,F,F,F,F,F,F,F,F,F,F,F,F] rfl rfl (take_ofW HT_.out HW_.out (by kernel_rfl)) (fun _ _ _ h=>h) (Or.inl ⟨by rfl,?_⟩) hHeld ?_ ?_
           rotate_left
           ·rintro w' ⟨s0,s1,s2,s3⟩
            go_simp
            with_reducible rfl
           rotate_left
           ·simp only [Act.put,zz21,zz22,zz23,i64_w,i32_w]
            rfl
           refine pure_ (i:=12) (N:=some 42) (v:=?_) (a':=?_) #[T,T,T,T,T,T,T,T,T,T,T,T,T,T,F,F,F,F,F,F,F,F,F,F,F,F,F,F,F,F,F,F,F,F] rfl rfl (any_of HT_.out (by kernel_rfl)) (fun _ _ _ h=>h) (Or.inl ⟨by rfl,?_⟩) ?_ ?_
           rotate_left
           ·intro w'
            go_simp
            with_reducible rfl
           rotate_left
           ·simp only [Act.put,zz21,zz22,zz23,i64_w,i32_w]
            rfl
           refine take_ (i:=14) (N:=some 44) (v:=?_) (a':=?_) #[T,T,T,T,T,T,T,T,T,T,T,T,T,T,T,F,F,F,F,F,F,F,F,F,F,F,F,F,F,F,F,F,F,F] rfl rfl (take_ofW HT_.out HW_.out (by kernel_rfl)) (fun _ _ _ h=>h) (Or.inl ⟨by rfl,?_⟩) hHeld ?_ ?_
           rotate_left
           ·rintro w' ⟨s0,s1,s2,s3⟩
            go_simp
            with_reducible rfl
           rotate_left
           ·simp only [Act.put,zz21,zz22,zz23,i64_w,i32_w]
            rfl
           refine pure_ (i:=15) (N:=some 45) (v:=?_) (a':=?_) #[T,T,T,T,T,T,T,T,T,T,T,T,T,T,T,T,F,F,F,F,F,F,F,F,F,F,F,F,F,F,F,F,F,F] rfl rfl (any_of HT_.out (by kernel_rfl)) (fun _ _ _ h=>h) (Or.inl ⟨by rfl,?_⟩) ?_ ?_
           rotate_left
           ·intro w'
            go_simp
            with_reducible rfl
           rotate_left
           ·simp only [Act.put,zz21,zz22,zz23,i64_w,i32_w]
            rfl
           refine one_ (i:=16) (N:=some 46) #[T,T,T,T,T,T,T,T,T,T,T,T,T,T,T,T,T,F,F,F,F,F,F,F,F,F,F,F,F,F,F,F,F,F] rfl rfl (one_of HT_.out (by kernel_rfl)) (by decide) (fun K hK=>?_)
           refine goes_ Try.func74 (by kernel_rfl) rfl #[.int .i64 ((rd_T70 l0_1 x25_2).f1),.int .i64 (wrap64 (((rd_T70 l0_1 x25_2).f0)+1)),.int .i64 (wrap64 (a0_0 - 1))] (by rfl) rfl rfl (by (try simp only [zz26,zz27,zz28]);first | done | rfl | (simp only [zz24,zz25];rfl)) ?_
           with_reducible refine (spec_l1In.calls ((rd_T70 l0_1 x25_2).f1) (wrap64 (((rd_T70 l0_1 x25_2).f0)+1)) (wrap64 (a0_0 - 1)) false _ A15.out).mono ?_
           rintro e w' ⟨rfl,⟨nd,rfl⟩⟩
           refine ⟨_,rfl,?_⟩
           refine hK.out _ _ ⟨(zz9 BK142.out 0).trans rfl,(zz9 BK142.out 1).trans rfl,(zz9 BK139.out 0).trans rfl,(zz9 BK139.out 1).trans rfl⟩ (fun hHeld=>?_)
           clear hK K
           refine norm_ (a':=?_) ?_ ?_
           rotate_left
           ·show Act.put _ (some 46) _=_
            simp only [Act.put,zz21,zz22,zz23,i64_w,i32_w]
            rfl
           refine pure_ (i:=17) (N:=some 47) (v:=?_) (a':=?_) #[T,T,T,T,T,T,T,T,T,T,T,T,T,T,T,T,T,T,F,F,F,F,F,F,F,F,F,F,F,F,F,F,F,F] rfl rfl (any_of HT_.out (by kernel_rfl)) (fun _ _ _ h=>h) (Or.inl ⟨by rfl,?_⟩) ?_ ?_
           rotate_left
           ·intro w'
            go_simp
            with_reducible rfl
           rotate_left
           ·simp only [Act.put,zz21,zz22,zz23,i64_w,i32_w]
            rfl
           refine pure_ (i:=18) (N:=some 48) (v:=?_) (a':=?_) #[T,T,T,T,T,T,T,T,T,T,T,T,T,T,T,T,T,T,T,F,F,F,F,F,F,F,F,F,F,F,F,F,F,F] rfl rfl (any_of HT_.out (by kernel_rfl)) (fun _ _ _ h=>h) (Or.inl ⟨by rfl,?_⟩) ?_ ?_
           rotate_left
           ·intro w'
            go_simp
            with_reducible rfl
           rotate_left
           ·simp only [Act.put,zz21,zz22,zz23,i64_w,i32_w]
            rfl
           refine pure_ (i:=19) (N:=some 49) (v:=?_) (a':=?_) #[T,T,T,T,T,T,T,T,T,T,T,T,T,T,T,T,T,T,T,T,F,F,F,F,F,F,F,F,F,F,F,F,F,F] rfl rfl (any_of HT_.out (by kernel_rfl)) (fun _ _ _ h=>h) (Or.inl ⟨by rfl,?_⟩) ?_ ?_
           rotate_left
           ·intro w'
            go_simp
            with_reducible rfl
           rotate_left
           ·simp only [Act.put,zz21,zz22,zz23,i64_w,i32_w]
            rfl
           refine pure_ (i:=20) (N:=some 50) (v:=undef) (a':=?_) #[T,T,T,T,T,T,T,T,T,T,T,T,T,T,T,T,T,T,T,T,T,F,F,F,F,F,F,F,F,F,F,F,F,F] rfl rfl (any_of HT_.out (by kernel_rfl)) (fun _ _ _ h=>h) (Or.inr ⟨by rfl,rfl⟩) ?_ ?_
           rotate_left
           ·simp only [Act.put,zz21,zz22,zz23,i64_w,i32_w]
            rfl
           refine pure_ (i:=21) (N:=some 51) (v:=undef) (a':=?_) #[T,T,T,T,T,T,T,T,T,T,T,T,T,T,T,T,T,T,T,T,T,T,F,F,F,F,F,F,F,F,F,F,F,F] rfl rfl (any_of HT_.out (by kernel_rfl)) (fun _ _ _ h=>h) (Or.inr ⟨by rfl,rfl⟩) ?_ ?_
           rotate_left
           ·simp only [Act.put,zz21,zz22,zz23,i64_w,i32_w]
            rfl
           refine pure_ (i:=22) (N:=some 52) (v:=undef) (a':=?_) #[T,T,T,T,T,T,T,T,T,T,T,T,T,T,T,T,T,T,T,T,T,T,T,F,F,F,F,F,F,F,F,F,F,F] rfl rfl (any_of HT_.out (by kernel_rfl)) (fun _ _ _ h=>h) (Or.inr ⟨by rfl,rfl⟩) ?_ ?_
           rotate_left
           ·simp only [Act.put,zz21,zz22,zz23,i64_w,i32_w]
            rfl
           refine pure_ (i:=23) (N:=some 53) (v:=undef) (a':=?_) #[T,T,T,T,T,T,T,T,T,T,T,T,T,T,T,T,T,T,T,T,T,T,T,T,F,F,F,F,F,F,F,F,F,F] rfl rfl (any_of HT_.out (by kernel_rfl)) (fun _ _ _ h=>h) (Or.inr ⟨by rfl,rfl⟩) ?_ ?_
           rotate_left
           ·simp only [Act.put,zz21,zz22,zz23,i64_w,i32_w]
            rfl
           refine pure_ (i:=24) (N:=some 54) (v:=undef) (a':=?_) #[T,T,T,T,T,T,T,T,T,T,T,T,T,T,T,T,T,T,T,T,T,T,T,T,T,F,F,F,F,F,F,F,F,F] rfl rfl (any_of HT_.out (by kernel_rfl)) (fun _ _ _ h=>h) (Or.inr ⟨by rfl,rfl⟩) ?_ ?_
           rotate_left
           ·simp only [Act.put,zz21,zz22,zz23,i64_w,i32_w]
            rfl
           refine pure_ (i:=25) (N:=some 55) (v:=undef) (a':=?_) #[T,T,T,T,T,T,T,T,T,T,T,T,T,T,T,T,T,T,T,T,T,T,T,T,T,T,F,F,F,F,F,F,F,F] rfl rfl (any_of HT_.out (by kernel_rfl)) (fun _ _ _ h=>h) (Or.inr ⟨by rfl,rfl⟩) ?_ ?_
           rotate_left
           ·simp only [Act.put,zz21,zz22,zz23,i64_w,i32_w]
            rfl
           refine pure_ (i:=26) (N:=some 56) (v:=undef) (a':=?_) #[T,T,T,T,T,T,T,T,T,T,T,T,T,T,T,T,T,T,T,T,T,T,T,T,T,T,T,F,F,F,F,F,F,F] rfl rfl (any_of HT_.out (by kernel_rfl)) (fun _ _ _ h=>h) (Or.inr ⟨by rfl,rfl⟩) ?_ ?_
           rotate_left
           ·simp only [Act.put,zz21,zz22,zz23,i64_w,i32_w]
            rfl
           refine pure_ (i:=27) (N:=some 57) (v:=undef) (a':=?_) #[T,T,T,T,T,T,T,T,T,T,T,T,T,T,T,T,T,T,T,T,T,T,T,T,T,T,T,T,F,F,F,F,F,F] rfl rfl (any_of HT_.out (by kernel_rfl)) (fun _ _ _ h=>h) (Or.inr ⟨by rfl,rfl⟩) ?_ ?_
           rotate_left
           ·simp only [Act.put,zz21,zz22,zz23,i64_w,i32_w]
            rfl
           refine pure_ (i:=28) (N:=some 58) (v:=undef) (a':=?_) #[T,T,T,T,T,T,T,T,T,T,T,T,T,T,T,T,T,T,T,T,T,T,T,T,T,T,T,T,T,F,F,F,F,F] rfl rfl (any_of HT_.out (by kernel_rfl)) (fun _ _ _ h=>h) (Or.inr ⟨by rfl,rfl⟩) ?_ ?_
           rotate_left
           ·simp only [Act.put,zz21,zz22,zz23,i64_w,i32_w]
            rfl
           refine pure_ (i:=29) (N:=some 59) (v:=undef) (a':=?_) #[T,T,T,T,T,T,T,T,T,T,T,T,T,T,T,T,T,T,T,T,T,T,T,T,T,T,T,T,T,T,F,F,F,F] rfl rfl (any_of HT_.out (by kernel_rfl)) (fun _ _ _ h=>h) (Or.inr ⟨by rfl,rfl⟩) ?_ ?_
           rotate_left
           ·simp only [Act.put,zz21,zz22,zz23,i64_w,i32_w]
            rfl
           refine pure_ (i:=30) (N:=some 60) (v:=undef) (a':=?_) #[T,T,T,T,T,T,T,T,T,T,T,T,T,T,T,T,T,T,T,T,T,T,T,T,T,T,T,T,T,T,T,F,F,F] rfl rfl (any_of HT_.out (by kernel_rfl)) (fun _ _ _ h=>h) (Or.inr ⟨by rfl,rfl⟩) ?_ ?_
           rotate_left
           ·simp only [Act.put,zz21,zz22,zz23,i64_w,i32_w]
            rfl
           refine pure_ (i:=31) (N:=some 61) (v:=undef) (a':=?_) #[T,T,T,T,T,T,T,T,T,T,T,T,T,T,T,T,T,T,T,T,T,T,T,T,T,T,T,T,T,T,T,T,F,F] rfl rfl (any_of HT_.out (by kernel_rfl)) (fun _ _ _ h=>h) (Or.inr ⟨by rfl,rfl⟩) ?_ ?_
           rotate_left
           ·simp only [Act.put,zz21,zz22,zz23,i64_w,i32_w]
            rfl
           refine pure_ (i:=32) (N:=some 62) (v:=undef) (a':=?_) #[T,T,T,T,T,T,T,T,T,T,T,T,T,T,T,T,T,T,T,T,T,T,T,T,T,T,T,T,T,T,T,T,T,F] rfl rfl (any_of HT_.out (by kernel_rfl)) (fun _ _ _ h=>h) (Or.inr ⟨by rfl,rfl⟩) ?_ ?_
           rotate_left
           ·simp only [Act.put,zz21,zz22,zz23,i64_w,i32_w]
            rfl
           refine pure_ (i:=33) (N:=some 63) (v:=?_) (a':=?_) #[T,T,T,T,T,T,T,T,T,T,T,T,T,T,T,T,T,T,T,T,T,T,T,T,T,T,T,T,T,T,T,T,T,T] rfl rfl (any_of HT_.out (by kernel_rfl)) (fun _ _ _ h=>h) (Or.inl ⟨by rfl,?_⟩) ?_ ?_
           rotate_left
           ·intro w'
            go_simp
            with_reducible rfl
           rotate_left
           ·simp only [Act.put,zz21,zz22,zz23,i64_w,i32_w]
            rfl
           refine done_ (done_of HT_.out (by kernel_rfl)) ?_
           try go_wp2
           go_ret
           exact ⟨by first | rfl | (simp [errW_none,errW_some] <;> rfl) | (simp [*,errW_none,errW_some] <;> rfl),by repeat first | exact HB.out | apply zz2 | apply zz0 | apply zz1 | refine zz3 ?_ GE139.out | refine zz3 ?_ GE142.out⟩
         ·replace c14:=Bool.eq_false_iff.mpr c14
          subst c14
          have H1:(some false)=some r:=by rw [if_neg (show ¬ (false=true) by decide)] at H;exact H
          clear H
          have H:=H1
          clear H1
          obtain rfl:=Option.some.inj H
          have p141:0≤(x25_2:Int):=zz29 (by first | (with_reducible assumption) | assumption)
          have q141:x25_2 < (l0_1.length:Int):=zz29 (by first | (with_reducible assumption) | assumption)
          obtain ⟨ad141,e141,hx141_0,hx141_1⟩:=at_T70 HR0_1.out x25_2 p141 q141
          cases e141
          try replace hx141_0:=(HB.out.cell (World.block_lt_of_cell? w _ hx141_0)).trans hx141_0
          try replace hx141_1:=(HB.out.cell (World.block_lt_of_cell? w _ hx141_1)).trans hx141_1
          replace p141:=eq_true p141
          replace q141:=eq_true q141
          try go_wp2_with (first | ((with_reducible refine gate_dst (N:=4) rfl ?_);(try (refine gate_guard (by rfl) ?_;dsimp only));refine box_event ?hg (N:=4) ?hd (cs:=#[.int .i64 0,.int .i64 0]) (t:=70) ?hr ?_;(case hd=>rfl);(case hg=>rfl);(case hr=>first | (go_simp;done) | (go_simp;rfl));intro gb142 hg w45 hbox hb;have n0_:=zz31 (zz11 (g:=gb139) (o:=.cells #[.int .i64 a0_0,.slice (some ad141) l0_1.length c0_1] 30 (0,0)) (by (with_reducible repeat (first | refine zz6 ?_ _ | refine zz7 ?_ | refine zz8 ?_ _));exact BK139.out) hb);have n1_:=zz31 (zz4 (by repeat first | exact HB.out | apply zz2 | apply zz0 | apply zz1 | refine zz3 ?_ GE139.out) hb);have n2_:=zz31 (hbox);have n3_:=zz31 ((by rw [hg];exact (zz5 (by repeat first | exact HB.out | apply zz2 | apply zz0 | apply zz1 | refine zz3 ?_ GE139.out)):w.heap.size≤gb142));have n4_:=zz31 ((by rw [hg];exact (zz5 (by repeat first | exact HB.out | apply zz2 | apply zz0 | apply zz1 | refine zz3 ?_ GE139.out)):w.heap.size≤gb142));have n5_:=zz31 ((by rw [hg];exact Nat.ne_of_lt (blk_lt (g:=gb139) (o:=.cells #[.int .i64 a0_0,.slice (some ad141) l0_1.length c0_1] 30 (0,0)) (by (with_reducible repeat (first | refine zz6 ?_ _ | refine zz7 ?_ | refine zz8 ?_ _));exact BK139.out)):gb139 ≠ gb142));have n6_:=zz31 ((by rw [hg];exact Nat.ne_of_gt (blk_lt (g:=gb139) (o:=.cells #[.int .i64 a0_0,.slice (some ad141) l0_1.length c0_1] 30 (0,0)) (by (with_reducible repeat (first | refine zz6 ?_ _ | refine zz7 ?_ | refine zz8 ?_ _));exact BK139.out)):gb142 ≠ gb139));clear BK139;clear HB;have BK139:=n0_;have HB:=n1_;have BK142:=n2_;have GW142:=n3_;have GE142:=n4_;have NB139_142:=n5_;have NB142_139:=n6_;clear n0_ n1_ n2_ n3_ n4_ n5_ n6_;clear hb hbox hg;have hnb46:=NB142_139.out;have hnc46:=NB139_142.out;have hcz47_0:w45.cell? ⟨gb142,0,none⟩=some (.int .i64 0):=(zz9 BK142.out 0).trans rfl;have hcz47_1:w45.cell? ⟨gb142,1,none⟩=some (.int .i64 0):=(zz9 BK142.out 1).trans rfl;have hfz47_0:=zz10 BK142.out 0;have hfz47_1:=zz10 BK142.out 1))
          have n0_:Aside0 (((w45.setCell ⟨gb142,0,none⟩ (.int .i64 ((rd_T70 l0_1 x25_2).f0))).setCell ⟨gb142,1,none⟩ (.int .i64 ((rd_T70 l0_1 x25_2).f1))).heap[gb139]?=some (.cells #[.int .i64 a0_0,.slice (some ad141) l0_1.length c0_1] 30 (0,0))):=⟨by (with_reducible repeat (first | refine zz6 ?_ _ | refine zz7 ?_ | refine zz8 ?_ _));refine blk_far ?_ NB139_142.out _;(with_reducible repeat (first | refine zz6 ?_ _ | refine zz7 ?_ | refine zz8 ?_ _));refine blk_far ?_ NB139_142.out _;(with_reducible repeat (first | refine zz6 ?_ _ | refine zz7 ?_ | refine zz8 ?_ _));exact BK139.out⟩
          have n1_:Aside0 (((w45.setCell ⟨gb142,0,none⟩ (.int .i64 ((rd_T70 l0_1 x25_2).f0))).setCell ⟨gb142,1,none⟩ (.int .i64 ((rd_T70 l0_1 x25_2).f1))).heap[gb142]?=some (.cells #[.int .i64 ((rd_T70 l0_1 x25_2).f0),.int .i64 ((rd_T70 l0_1 x25_2).f1)] 70 (0,0))):=⟨by (with_reducible repeat (first | refine zz6 ?_ _ | refine zz7 ?_ | refine zz8 ?_ _));refine blk_put (cs:=#[.int .i64 ((rd_T70 l0_1 x25_2).f0),.int .i64 0]) ?_ 1 _ rfl;(with_reducible repeat (first | refine zz6 ?_ _ | refine zz7 ?_ | refine zz8 ?_ _));refine blk_put (cs:=#[.int .i64 0,.int .i64 0]) ?_ 0 _ rfl;(with_reducible repeat (first | refine zz6 ?_ _ | refine zz7 ?_ | refine zz8 ?_ _));exact BK142.out⟩
          have n2_:Aside0 (Below w.heap.size w ((w45.setCell ⟨gb142,0,none⟩ (.int .i64 ((rd_T70 l0_1 x25_2).f0))).setCell ⟨gb142,1,none⟩ (.int .i64 ((rd_T70 l0_1 x25_2).f1)))):=⟨by repeat first | exact HB.out | apply zz2 | apply zz0 | apply zz1 | refine zz3 ?_ GE139.out | refine zz3 ?_ GE142.out⟩
          (try clear BK139)
          (try clear BK142)
          (try clear HB)
          generalize ((w45.setCell ⟨gb142,0,none⟩ (.int .i64 ((rd_T70 l0_1 x25_2).f0))).setCell ⟨gb142,1,none⟩ (.int .i64 ((rd_T70 l0_1 x25_2).f1)))=w48 at n0_ n1_ n2_ ⊢
          have BK139:=n0_
          have BK142:=n1_
          have HB:=n2_
          clear n0_ n1_ n2_
          have n0_:=zz31 (zz7 BK139.out)
          have n1_:=zz31 (zz7 BK142.out)
          have n2_:=zz31 (zz1 HB.out)
          clear BK139
          clear BK142
          clear HB
          have BK139:=n0_
          have BK142:=n1_
          have HB:=n2_
          clear n0_ n1_ n2_
          refine start_ (n:=34) (S:=fun w'=>w'.cell? ⟨gb142,0,none⟩=some (.int .i64 ((rd_T70 l0_1 x25_2).f0))∧w'.cell? ⟨gb142,1,none⟩=some (.int .i64 ((rd_T70 l0_1 x25_2).f1))∧w'.cell? ⟨gb139,0,none⟩=some (.int .i64 a0_0)∧w'.cell? ⟨gb139,1,none⟩=some (.slice (some ad141) l0_1.length c0_1)) (ds:=[]) #[F,F,F,F,F,F,F,F,F,F,F,F,F,F,F,F,F,F,F,F,F,F,F,F,F,F,F,F,F,F,F,F,F,F] (by kernel_rfl) rfl rfl ⟨(zz9 BK142.out 0).trans rfl,(zz9 BK142.out 1).trans rfl,(zz9 BK139.out 0).trans rfl,(zz9 BK139.out 1).trans rfl⟩ (fun hHeld=>?_);refine with_tabW spec_paGood.tab6 spec_paGood.bits6 (fun HT_ HW_=>?_)
          generalize w48.drew=w49 at BK139 BK142 HB hHeld ⊢
          refine pure_ (i:=0) (N:=some 30) (v:=?_) (a':=?_) #[T,F,F,F,F,F,F,F,F,F,F,F,F,F,F,F,F,F,F,F,F,F,F,F,F,F,F,F,F,F,F,F,F,F] rfl rfl (any_of HT_.out (by kernel_rfl)) (fun _ _ _ h=>h) (Or.inl ⟨by rfl,?_⟩) ?_ ?_
          rotate_left
          ·intro w'
           go_simp
           with_reducible rfl
          rotate_left
          ·simp only [Act.put,zz21,zz22,zz23,i64_w,i32_w]
           rfl
          refine pure_ (i:=2) (N:=some 32) (v:=?_) (a':=?_) #[T,F,T,F,F,F,F,F,F,F,F,F,F,F,F,F,F,F,F,F,F,F,F,F,F,F,F,F,F,F,F,F,F,F] rfl rfl (any_of HT_.out (by kernel_rfl)) (fun _ _ _ h=>h) (Or.inl ⟨by rfl,?_⟩) ?_ ?_
          rotate_left
          ·intro w'
           go_simp
           with_reducible rfl
          rotate_left
          ·simp only [Act.put,zz21,zz22,zz23,i64_w,i32_w]
           rfl
          refine take_ (i:=1) (N:=some 31) (v:=?_) (a':=?_) #[T,T,T,F,F,F,F,F,F,F,F,F,F,F,F,F,F,F,F,F,F,F,F,F,F,F,F,F,F,F,F,F,F,F] rfl rfl (take_ofW HT_.out HW_.out (by kernel_rfl)) (fun _ _ _ h=>h) (Or.inl ⟨by rfl,?_⟩) hHeld ?_ ?_
          rotate_left
          ·rintro w' ⟨s0,s1,s2,s3⟩
           go_simp
           with_reducible rfl
          rotate_left
          ·simp only [Act.put,zz21,zz22,zz23,i64_w,i32_w]
           rfl
          refine take_ (i:=3) (N:=some 33) (v:=?_) (a':=?_) #[T,T,T,T,F,F,F,F,F,F,F,F,F,F,F,F,F,F,F,F,F,F,F,F,F,F,F,F,F,F,F,F,F,F] rfl rfl (take_ofW HT_.out HW_.out (by kernel_rfl)) (fun _ _ _ h=>h) (Or.inl ⟨by rfl,?_⟩) hHeld ?_ ?_
          rotate_left
          ·rintro w' ⟨s0,s1,s2,s3⟩
           go_simp
           with_reducible rfl
          rotate_left
          ·simp only [Act.put,zz21,zz22,zz23,i64_w,i32_w]
           rfl
          refine pure_ (i:=4) (N:=some 34) (v:=?_) (a':=?_) #[T,T,T,T,T,F,F,F,F,F,F,F,F,F,F,F,F,F,F,F,F,F,F,F,F,F,F,F,F,F,F,F,F,F] rfl rfl (any_of HT_.out (by kernel_rfl)) (fun _ _ _ h=>h) (Or.inl ⟨by rfl,?_⟩) ?_ ?_
          rotate_left
          ·intro w'
           go_simp
           with_reducible rfl
          rotate_left
          ·simp only [Act.put,zz21,zz22,zz23,i64_w,i32_w]
           rfl
          refine one_ (i:=5) (N:=some 35) #[T,T,T,T,T,T,F,F,F,F,F,F,F,F,F,F,F,F,F,F,F,F,F,F,F,F,F,F,F,F,F,F,F,F] rfl rfl (one_of HT_.out (by kernel_rfl)) (by decide) (fun K hK=>?_)
          refine goes_ Try.func74 (by kernel_rfl) rfl #[.int .i64 ((rd_T70 l0_1 x25_2).f0),.int .i64 0,.int .i64 (wrap64 (a0_0 - 1))] (by rfl) rfl rfl (by (try simp only [zz26,zz27,zz28]);first | done | rfl | (simp only [zz24,zz25];rfl)) ?_
          with_reducible refine (spec_l1In.calls ((rd_T70 l0_1 x25_2).f0) 0 (wrap64 (a0_0 - 1)) false _ A13.out).mono ?_
          rintro e w' ⟨rfl,⟨nd,rfl⟩⟩
          refine ⟨_,rfl,?_⟩
          refine hK.out _ _ ⟨(zz9 BK142.out 0).trans rfl,(zz9 BK142.out 1).trans rfl,(zz9 BK139.out 0).trans rfl,(zz9 BK139.out 1).trans rfl⟩ (fun hHeld=>?_)
          clear hK K
          refine norm_ (a':=?_) ?_ ?_
          rotate_left
          ·show Act.put _ (some 35) _=_
           simp only [Act.put,zz21,zz22,zz23,i64_w,i32_w]
           rfl
          refine pure_ (i:=6) (N:=some 36) (v:=?_) (a':=?_) #[T,T,T,T,T,T,T,F,F,F,F,F,F,F,F,F,F,F,F,F,F,F,F,F,F,F,F,F,F,F,F,F,F,F] rfl rfl (any_of HT_.out (by kernel_rfl)) (fun _ _ _ h=>h) (Or.inl ⟨by rfl,?_⟩) ?_ ?_
          rotate_left
          ·intro w'
           go_simp
           with_reducible rfl
          rotate_left
          ·simp only [Act.put,zz21,zz22,zz23,i64_w,i32_w]
           rfl
          refine pure_ (i:=7) (N:=some 37) (v:=?_) (a':=?_) #[T,T,T,T,T,T,T,T,F,F,F,F,F,F,F,F,F,F,F,F,F,F,F,F,F,F,F,F,F,F,F,F,F,F] rfl rfl (any_of HT_.out (by kernel_rfl)) (fun _ _ _ h=>h) (Or.inl ⟨by rfl,?_⟩) ?_ ?_
          rotate_left
          ·intro w'
           go_simp
           with_reducible rfl
          rotate_left
          ·simp only [Act.put,zz21,zz22,zz23,i64_w,i32_w]
           rfl
          refine pure_ (i:=8) (N:=some 38) (v:=undef) (a':=?_) #[T,T,T,T,T,T,T,T,T,F,F,F,F,F,F,F,F,F,F,F,F,F,F,F,F,F,F,F,F,F,F,F,F,F] rfl rfl (any_of HT_.out (by kernel_rfl)) (fun _ _ _ h=>h) (Or.inr ⟨by rfl,rfl⟩) ?_ ?_
          rotate_left
          ·simp only [Act.put,zz21,zz22,zz23,i64_w,i32_w]
           rfl
          refine pure_ (i:=9) (N:=some 39) (v:=undef) (a':=?_) #[T,T,T,T,T,T,T,T,T,T,F,F,F,F,F,F,F,F,F,F,F,F,F,F,F,F,F,F,F,F,F,F,F,F] rfl rfl (any_of HT_.out (by kernel_rfl)) (fun _ _ _ h=>h) (Or.inr ⟨by rfl,rfl⟩) ?_ ?_
          rotate_left
          ·simp only [Act.put,zz21,zz22,zz23,i64_w,i32_w]
           rfl
          refine pure_ (i:=10) (N:=some 40) (v:=undef) (a':=?_) #[T,T,T,T,T,T,T,T,T,T,T,F,F,F,F,F,F,F,F,F,F,F,F,F,F,F,F,F,F,F,F,F,F,F] rfl rfl (any_of HT_.out (by kernel_rfl)) (fun _ _ _ h=>h) (Or.inr ⟨by rfl,rfl⟩) ?_ ?_
          rotate_left
          ·simp only [Act.put,zz21,zz22,zz23,i64_w,i32_w]
           rfl
          refine pure_ (i:=11) (N:=some 41) (v:=undef) (a':=?_) #[T,T,T,T,T,T,T,T,T,T,T,T,F,F,F,F,F,F,F,F,F,F,F,F,F,F,F,F,F,F,F,F,F,F] rfl rfl (any_of HT_.out (by kernel_rfl)) (fun _ _ _ h=>h) (Or.inr ⟨by rfl,rfl⟩) ?_ ?_
          rotate_left
          ·simp only [Act.put,zz21,zz22,zz23,i64_w,i32_w]
           rfl
          refine pure_ (i:=12) (N:=some 42) (v:=undef) (a':=?_) #[T,T,T,T,T,T,T,T,T,T,T,T,T,F,F,F,F,F,F,F,F,F,F,F,F,F,F,F,F,F,F,F,F,F] rfl rfl (any_of HT_.out (by kernel_rfl)) (fun _ _ _ h=>h) (Or.inr ⟨by rfl,rfl⟩) ?_ ?_
          rotate_left
          ·simp only [Act.put,zz21,zz22,zz23,i64_w,i32_w]
           rfl
          refine pure_ (i:=13) (N:=some 43) (v:=undef) (a':=?_) #[T,T,T,T,T,T,T,T,T,T,T,T,T,T,F,F,F,F,F,F,F,F,F,F,F,F,F,F,F,F,F,F,F,F] rfl rfl (any_of HT_.out (by kernel_rfl)) (fun _ _ _ h=>h) (Or.inr ⟨by rfl,rfl⟩) ?_ ?_
          rotate_left
          ·simp only [Act.put,zz21,zz22,zz23,i64_w,i32_w]
           rfl
          refine pure_ (i:=14) (N:=some 44) (v:=undef) (a':=?_) #[T,T,T,T,T,T,T,T,T,T,T,T,T,T,T,F,F,F,F,F,F,F,F,F,F,F,F,F,F,F,F,F,F,F] rfl rfl (any_of HT_.out (by kernel_rfl)) (fun _ _ _ h=>h) (Or.inr ⟨by rfl,rfl⟩) ?_ ?_
          rotate_left
          ·simp only [Act.put,zz21,zz22,zz23,i64_w,i32_w]
           rfl
          refine pure_ (i:=15) (N:=some 45) (v:=undef) (a':=?_) #[T,T,T,T,T,T,T,T,T,T,T,T,T,T,T,T,F,F,F,F,F,F,F,F,F,F,F,F,F,F,F,F,F,F] rfl rfl (any_of HT_.out (by kernel_rfl)) (fun _ _ _ h=>h) (Or.inr ⟨by rfl,rfl⟩) ?_ ?_
          rotate_left
          ·simp only [Act.put,zz21,zz22,zz23,i64_w,i32_w]
           rfl
          refine pure_ (i:=16) (N:=some 46) (v:=undef) (a':=?_) #[T,T,T,T,T,T,T,T,T,T,T,T,T,T,T,T,T,F,F,F,F,F,F,F,F,F,F,F,F,F,F,F,F,F] rfl rfl (any_of HT_.out (by kernel_rfl)) (fun _ _ _ h=>h) (Or.inr ⟨by rfl,rfl⟩) ?_ ?_
          rotate_left
          ·simp only [Act.put,zz21,zz22,zz23,i64_w,i32_w]
           rfl
          refine pure_ (i:=17) (N:=some 47) (v:=undef) (a':=?_) #[T,T,T,T,T,T,T,T,T,T,T,T,T,T,T,T,T,T,F,F,F,F,F,F,F,F,F,F,F,F,F,F,F,F] rfl rfl (any_of HT_.out (by kernel_rfl)) (fun _ _ _ h=>h) (Or.inr ⟨by rfl,rfl⟩) ?_ ?_
          rotate_left
          ·simp only [Act.put,zz21,zz22,zz23,i64_w,i32_w]
           rfl
          refine pure_ (i:=18) (N:=some 48) (v:=?_) (a':=?_) #[T,T,T,T,T,T,T,T,T,T,T,T,T,T,T,T,T,T,T,F,F,F,F,F,F,F,F,F,F,F,F,F,F,F] rfl rfl (any_of HT_.out (by kernel_rfl)) (fun _ _ _ h=>h) (Or.inl ⟨by rfl,?_⟩) ?_ ?_
          rotate_left
          ·intro w'
           go_simp
           with_reducible rfl
          rotate_left
          ·simp only [Act.put,zz21,zz22,zz23,i64_w,i32_w]
           rfl
          refine pure_ (i:=19) (N:=some 49) (v:=?_) (a':=?_) #[T,T,T,T,T,T,T,T,T,T,T,T,T,T,T,T,T,T,T,T,F,F,F,F,F,F,F,F,F,F,F,F,F,F] rfl rfl (any_of HT_.out (by kernel_rfl)) (fun _ _ _ h=>h) (Or.inl ⟨by rfl,?_⟩) ?_ ?_
          rotate_left
          ·intro w'
           go_simp
           with_reducible rfl
          rotate_left
          ·simp only [Act.put,zz21,zz22,zz23,i64_w,i32_w]
           rfl
          refine pure_ (i:=20) (N:=some 50) (v:=undef) (a':=?_) #[T,T,T,T,T,T,T,T,T,T,T,T,T,T,T,T,T,T,T,T,T,F,F,F,F,F,F,F,F,F,F,F,F,F] rfl rfl (any_of HT_.out (by kernel_rfl)) (fun _ _ _ h=>h) (Or.inr ⟨by rfl,rfl⟩) ?_ ?_
          rotate_left
          ·simp only [Act.put,zz21,zz22,zz23,i64_w,i32_w]
           rfl
          refine pure_ (i:=21) (N:=some 51) (v:=undef) (a':=?_) #[T,T,T,T,T,T,T,T,T,T,T,T,T,T,T,T,T,T,T,T,T,T,F,F,F,F,F,F,F,F,F,F,F,F] rfl rfl (any_of HT_.out (by kernel_rfl)) (fun _ _ _ h=>h) (Or.inr ⟨by rfl,rfl⟩) ?_ ?_
          rotate_left
          ·simp only [Act.put,zz21,zz22,zz23,i64_w,i32_w]
           rfl
          refine pure_ (i:=22) (N:=some 52) (v:=undef) (a':=?_) #[T,T,T,T,T,T,T,T,T,T,T,T,T,T,T,T,T,T,T,T,T,T,T,F,F,F,F,F,F,F,F,F,F,F] rfl rfl (any_of HT_.out (by kernel_rfl)) (fun _ _ _ h=>h) (Or.inr ⟨by rfl,rfl⟩) ?_ ?_
          rotate_left
          ·simp only [Act.put,zz21,zz22,zz23,i64_w,i32_w]
           rfl
          refine pure_ (i:=23) (N:=some 53) (v:=undef) (a':=?_) #[T,T,T,T,T,T,T,T,T,T,T,T,T,T,T,T,T,T,T,T,T,T,T,T,F,F,F,F,F,F,F,F,F,F] rfl rfl (any_of HT_.out (by kernel_rfl)) (fun _ _ _ h=>h) (Or.inr ⟨by rfl,rfl⟩) ?_ ?_
          rotate_left
          ·simp only [Act.put,zz21,zz22,zz23,i64_w,i32_w]
           rfl
          refine pure_ (i:=24) (N:=some 54) (v:=undef) (a':=?_) #[T,T,T,T,T,T,T,T,T,T,T,T,T,T,T,T,T,T,T,T,T,T,T,T,T,F,F,F,F,F,F,F,F,F] rfl rfl (any_of HT_.out (by kernel_rfl)) (fun _ _ _ h=>h) (Or.inr ⟨by rfl,rfl⟩) ?_ ?_
          rotate_left
          ·simp only [Act.put,zz21,zz22,zz23,i64_w,i32_w]
           rfl
          refine pure_ (i:=25) (N:=some 55) (v:=undef) (a':=?_) #[T,T,T,T,T,T,T,T,T,T,T,T,T,T,T,T,T,T,T,T,T,T,T,T,T,T,F,F,F,F,F,F,F,F] rfl rfl (any_of HT_.out (by kernel_rfl)) (fun _ _ _ h=>h) (Or.inr ⟨by rfl,rfl⟩) ?_ ?_
          rotate_left
          ·simp only [Act.put,zz21,zz22,zz23,i64_w,i32_w]
           rfl
          refine pure_ (i:=26) (N:=some 56) (v:=undef) (a':=?_) #[T,T,T,T,T,T,T,T,T,T,T,T,T,T,T,T,T,T,T,T,T,T,T,T,T,T,T,F,F,F,F,F,F,F] rfl rfl (any_of HT_.out (by kernel_rfl)) (fun _ _ _ h=>h) (Or.inr ⟨by rfl,rfl⟩) ?_ ?_
          rotate_left
          ·simp only [Act.put,zz21,zz22,zz23,i64_w,i32_w]
           rfl
          refine pure_ (i:=27) (N:=some 57) (v:=undef) (a':=?_) #[T,T,T,T,T,T,T,T,T,T,T,T,T,T,T,T,T,T,T,T,T,T,T,T,T,T,T,T,F,F,F,F,F,F] rfl rfl (any_of HT_.out (by kernel_rfl)) (fun _ _ _ h=>h) (Or.inr ⟨by rfl,rfl⟩) ?_ ?_
          rotate_left
          ·simp only [Act.put,zz21,zz22,zz23,i64_w,i32_w]
           rfl
          refine pure_ (i:=28) (N:=some 58) (v:=undef) (a':=?_) #[T,T,T,T,T,T,T,T,T,T,T,T,T,T,T,T,T,T,T,T,T,T,T,T,T,T,T,T,T,F,F,F,F,F] rfl rfl (any_of HT_.out (by kernel_rfl)) (fun _ _ _ h=>h) (Or.inr ⟨by rfl,rfl⟩) ?_ ?_
          rotate_left
          ·simp only [Act.put,zz21,zz22,zz23,i64_w,i32_w]
           rfl
          refine pure_ (i:=29) (N:=some 59) (v:=undef) (a':=?_) #[T,T,T,T,T,T,T,T,T,T,T,T,T,T,T,T,T,T,T,T,T,T,T,T,T,T,T,T,T,T,F,F,F,F] rfl rfl (any_of HT_.out (by kernel_rfl)) (fun _ _ _ h=>h) (Or.inr ⟨by rfl,rfl⟩) ?_ ?_
          rotate_left
          ·simp only [Act.put,zz21,zz22,zz23,i64_w,i32_w]
           rfl
          refine pure_ (i:=30) (N:=some 60) (v:=undef) (a':=?_) #[T,T,T,T,T,T,T,T,T,T,T,T,T,T,T,T,T,T,T,T,T,T,T,T,T,T,T,T,T,T,T,F,F,F] rfl rfl (any_of HT_.out (by kernel_rfl)) (fun _ _ _ h=>h) (Or.inr ⟨by rfl,rfl⟩) ?_ ?_
          rotate_left
          ·simp only [Act.put,zz21,zz22,zz23,i64_w,i32_w]
           rfl
          refine pure_ (i:=31) (N:=some 61) (v:=undef) (a':=?_) #[T,T,T,T,T,T,T,T,T,T,T,T,T,T,T,T,T,T,T,T,T,T,T,T,T,T,T,T,T,T,T,T,F,F] rfl rfl (any_of HT_.out (by kernel_rfl)) (fun _ _ _ h=>h) (Or.inr ⟨by rfl,rfl⟩) ?_ ?_
          rotate_left
          ·simp only [Act.put,zz21,zz22,zz23,i64_w,i32_w]
           rfl
          refine pure_ (i:=32) (N:=some 62) (v:=undef) (a':=?_) #[T,T,T,T,T,T,T,T,T,T,T,T,T,T,T,T,T,T,T,T,T,T,T,T,T,T,T,T,T,T,T,T,T,F] rfl rfl (any_of HT_.out (by kernel_rfl)) (fun _ _ _ h=>h) (Or.inr ⟨by rfl,rfl⟩) ?_ ?_
          rotate_left
          ·simp only [Act.put,zz21,zz22,zz23,i64_w,i32_w]
           rfl
          refine pure_ (i:=33) (N:=some 63) (v:=?_) (a':=?_) #[T,T,T,T,T,T,T,T,T,T,T,T,T,T,T,T,T,T,T,T,T,T,T,T,T,T,T,T,T,T,T,T,T,T] rfl rfl (any_of HT_.out (by kernel_rfl)) (fun _ _ _ h=>h) (Or.inl ⟨by rfl,?_⟩) ?_ ?_
          rotate_left
          ·intro w'
           go_simp
           with_reducible rfl
          rotate_left
          ·simp only [Act.put,zz21,zz22,zz23,i64_w,i32_w]
           rfl
          refine done_ (done_of HT_.out (by kernel_rfl)) ?_
          try go_wp2
          go_ret
          exact ⟨by first | rfl | (simp [errW_none,errW_some] <;> rfl) | (simp [*,errW_none,errW_some] <;> rfl),by repeat first | exact HB.out | apply zz2 | apply zz0 | apply zz1 | refine zz3 ?_ GE139.out | refine zz3 ?_ GE142.out⟩
        ·rw [if_neg c12] at H
         exact absurd H (by simp)
       ·rw [if_neg c11] at H
        exact absurd H (by simp)
      ·rw [if_neg c10] at H
       have c10b0:decide (x25_2 < (l0_1.length:Int))=false:=decide_eq_false c10
       clear c10
       obtain rfl:=Option.some.inj H
       go_wp2
       go_ret
       exact ⟨by first | rfl | (simp [errW_none,errW_some] <;> rfl) | (simp [*,errW_none,errW_some] <;> rfl),by repeat first | exact HB.out | apply zz2 | apply zz0 | apply zz1 | refine zz3 ?_ GE139.out⟩

/-! ### spec_l1All: function 47 -/
def spec_l1All.l0:Nat→Int→Int→List Int→Int→Int→Option (Bool)
 | 0,_,_,_,_,_=>none
 | k+1,x1,x2,x9,x10,x11=>if x11 < x10 then (if 0≤x11 then (if x11 < (x9.length:Int) then ((spec_l1In.f (rd x9 x11) x1 x2).bind fun t148=>(if t148=true then (spec_l1All.l0 k x1 x2 x9 x10 (wrap64 (x11+1))) else (some false))) else (none)) else (none)) else (some true)
def spec_l1All.f (k:Nat) (l0:List Int) (a1:Int) (a2:Int):Option (Bool):=spec_l1All.l0 k a1 a2 l0 (l0.length:Int) 0
theorem spec_l1All.mono_l:∀ k,(∀ y0 y1 y2 y3 y4,LeO (spec_l1All.l0 k y0 y1 y2 y3 y4) (spec_l1All.l0 (k+1) y0 y1 y2 y3 y4))
 | 0=>fun _ _ _ _ _ r h=>by simp [spec_l1All.l0] at h
 | k+1=>by
  have ih0:=spec_l1All.mono_l k
  ·intro y0 y1 y2 y3 y4
   unfold spec_l1All.l0
   repeat' first
   | (with_reducible exact ih0 _ _ _ _ _)
   | (with_reducible exact LeO.refl _)
   | (with_reducible exact LeO.none _)
   | (with_reducible refine LeO.ite ?_ ?_)
   | (with_reducible refine LeO.bind ?_ (fun _=>?_))
   | exact ih0 _ _ _ _ _
   | exact LeO.none _
   | refine LeO.ite ?_ ?_
   | refine LeO.bind ?_ (fun _=>?_)
theorem spec_l1All.mono:∀ a0 a1 a2 k,LeO (spec_l1All.f k a0 a1 a2) (spec_l1All.f (k+1) a0 a1 a2):=by
 intro a0 a1 a2 k
 have ih0:=spec_l1All.mono_l k
 unfold spec_l1All.f
 repeat' first
   | (with_reducible exact ih0 _ _ _ _ _)
   | (with_reducible exact LeO.refl _)
   | (with_reducible exact LeO.none _)
   | (with_reducible refine LeO.ite ?_ ?_)
   | (with_reducible refine LeO.bind ?_ (fun _=>?_))
   | exact ih0 _ _ _ _ _
   | exact LeO.none _
   | refine LeO.ite ?_ ?_
   | refine LeO.bind ?_ (fun _=>?_)
set_option maxHeartbeats 8000000 in
set_option maxRecDepth 100000 in
theorem spec_l1All.calls (k:Nat) (A0:Option Addr) (c0:Nat) (l0:List Int) (a1:Int) (a2:Int) (r:Bool) (w:World) (hr0:Kd.C (Kd.int .i64) w A0 l0.length l0) (hc0:l0.length≤c0) (h:spec_l1All.f k l0 a1 a2=some r) :
  Calls Try.prog 47 #[.slice A0 l0.length c0,.int .i64 a1,.int .i64 a2] w fun e w'=>e=.returned (.bool r)∧Drawn0 w w':=by
 have HR0:=zz31 hr0
 have HC0:=zz31 hc0
 clear hr0 hc0
 have H:(spec_l1All.l0 k a1 a2 l0 (l0.length:Int) 0)=some r:=h
 clear h
 have H':=zz31 H
 clear H
 go_enter Try.func47,Try.ntmps47
 go_wp2
 go_loopg [11] k (fun kq v11 w'=>∃ (x11_1:Int),v11=.int .i64 x11_1∧Aside0 (spec_l1All.l0 kq a1 a2 l0 (l0.length:Int) x11_1=some r)∧Aside0 (kq≤k)∧Drawn0 w w')
 case atStart=>exact ⟨(0),(by first | rfl | (simp;done) | (simp [*];done)),H',⟨Nat.le_refl _⟩,by repeat (first | exact Drawn0.refl _ | apply Drawn0.step)⟩
 case round =>
  clear H'
  try clear p2
  obtain ⟨x11_1,rfl,HA,HK1,⟨m1,rfl⟩⟩:=hrel
  cases gk with
  | zero=>exact absurd HA.out (by simp [spec_l1All.l0])
  | succ k1 =>
   have H:=HA.out
   clear HA
   simp only [spec_l1All.l0] at H
   by_cases c4:x11_1 < (l0.length:Int)
   ·rw [if_pos c4] at H
    have c4b0:decide (x11_1 < (l0.length:Int))=true:=decide_eq_true c4
    clear c4
    by_cases c5:0≤x11_1
    ·rw [if_pos c5] at H
     have c5b0:decide (0≤x11_1)=true:=decide_eq_true c5
     clear c5
     by_cases c6:x11_1 < (l0.length:Int)
     ·rw [if_pos c6] at H
      have c6b0:decide (x11_1 < (l0.length:Int))=true:=decide_eq_true c6
      clear c6
      replace H:=zz30.mp H
      obtain ⟨t148,A70,H⟩:=H
      replace H:(if t148=true then (spec_l1All.l0 k1 a1 a2 l0 (l0.length:Int) (wrap64 (x11_1+1))) else (some false))=some r:=H
      have A7:=zz31 A70
      clear A70
      by_cases c8:t148=true
      ·subst c8
       have H1:(spec_l1All.l0 k1 a1 a2 l0 (l0.length:Int) (wrap64 (x11_1+1)))=some r:=by rw [if_pos rfl] at H;exact H
       clear H
       have H:=H1
       clear H1
       have H':=zz31 H
       clear H
       have p147:0≤(x11_1:Int):=zz29 (by first | (with_reducible assumption) | assumption)
       have q147:x11_1 < (l0.length:Int):=zz29 (by first | (with_reducible assumption) | assumption)
       obtain ⟨ad147,e147,hx147_0⟩:=Kd.at_int HR0.out x11_1 p147 q147
       cases e147
       replace p147:=eq_true p147
       replace q147:=eq_true q147
       go_wp2_with (first | ((with_reducible refine gate_callee (f:=74) rfl ?_);refine goesL_ (some 18) rfl rfl Try.func74 (by kernel_rfl) rfl #[.int .i64 (rd l0 x11_1),.int .i64 a1,.int .i64 a2] rfl (by (try simp only [zz26,zz27,zz28]);first | done | rfl | (simp only [zz24,zz25];rfl)) ?_;(with_reducible refine (spec_l1In.calls (rd l0 x11_1) a1 a2 true _ A7.out).mono ?_);rintro e w' ⟨rfl,⟨nd,rfl⟩⟩;refine ⟨_,rfl,?_⟩))
       go_roundg k1
       case measure=>have:=HK1.out;omega
       case rel=>exact ⟨(wrap64 (x11_1+1)),(by first | rfl | (simp;done) | (simp [*];done)),H',⟨by have:=HK1.out;omega⟩,by repeat (first | exact Drawn0.refl _ | apply Drawn0.step)⟩
      ·replace c8:=Bool.eq_false_iff.mpr c8
       subst c8
       have H1:(some false)=some r:=by rw [if_neg (show ¬ (false=true) by decide)] at H;exact H
       clear H
       have H:=H1
       clear H1
       obtain rfl:=Option.some.inj H
       have p147:0≤(x11_1:Int):=zz29 (by first | (with_reducible assumption) | assumption)
       have q147:x11_1 < (l0.length:Int):=zz29 (by first | (with_reducible assumption) | assumption)
       obtain ⟨ad147,e147,hx147_0⟩:=Kd.at_int HR0.out x11_1 p147 q147
       cases e147
       replace p147:=eq_true p147
       replace q147:=eq_true q147
       go_wp2_with (first | ((with_reducible refine gate_callee (f:=74) rfl ?_);refine goesL_ (some 18) rfl rfl Try.func74 (by kernel_rfl) rfl #[.int .i64 (rd l0 x11_1),.int .i64 a1,.int .i64 a2] rfl (by (try simp only [zz26,zz27,zz28]);first | done | rfl | (simp only [zz24,zz25];rfl)) ?_;(with_reducible refine (spec_l1In.calls (rd l0 x11_1) a1 a2 false _ A7.out).mono ?_);rintro e w' ⟨rfl,⟨nd,rfl⟩⟩;refine ⟨_,rfl,?_⟩))
       go_ret
       exact ⟨by first | rfl | (simp;done) | (simp [*];done),by repeat (first | exact Drawn0.refl _ | apply Drawn0.step)⟩
     ·rw [if_neg c6] at H
      exact absurd H (by simp)
    ·rw [if_neg c5] at H
     exact absurd H (by simp)
   ·rw [if_neg c4] at H
    have c4b0:decide (x11_1 < (l0.length:Int))=false:=decide_eq_false c4
    clear c4
    obtain rfl:=Option.some.inj H
    go_wp2
    go_ret
    exact ⟨by first | rfl | (simp;done) | (simp [*];done),by repeat (first | exact Drawn0.refl _ | apply Drawn0.step)⟩

/-! ### spec_l1Has: function 48 -/
def spec_l1Has.l0:Nat→Int→List Int→Int→Int→Option (Bool)
 | 0,_,_,_,_=>none
 | k+1,x1,x7,x8,x9=>if x9 < x8 then (if 0≤x9 then (if x9 < (x7.length:Int) then (if (rd x7 x9)=x1 then (some true) else (spec_l1Has.l0 k x1 x7 x8 (wrap64 (x9+1)))) else (none)) else (none)) else (some false)
def spec_l1Has.f (k:Nat) (l0:List Int) (a1:Int):Option (Bool):=spec_l1Has.l0 k a1 l0 (l0.length:Int) 0
theorem spec_l1Has.mono_l:∀ k,(∀ y0 y1 y2 y3,LeO (spec_l1Has.l0 k y0 y1 y2 y3) (spec_l1Has.l0 (k+1) y0 y1 y2 y3))
 | 0=>fun _ _ _ _ r h=>by simp [spec_l1Has.l0] at h
 | k+1=>by
  have ih0:=spec_l1Has.mono_l k
  ·intro y0 y1 y2 y3
   unfold spec_l1Has.l0
   repeat' first
   | (with_reducible exact ih0 _ _ _ _)
   | (with_reducible exact LeO.refl _)
   | (with_reducible exact LeO.none _)
   | (with_reducible refine LeO.ite ?_ ?_)
   | (with_reducible refine LeO.bind ?_ (fun _=>?_))
   | exact ih0 _ _ _ _
   | exact LeO.none _
   | refine LeO.ite ?_ ?_
   | refine LeO.bind ?_ (fun _=>?_)
theorem spec_l1Has.mono:∀ a0 a1 k,LeO (spec_l1Has.f k a0 a1) (spec_l1Has.f (k+1) a0 a1):=by
 intro a0 a1 k
 have ih0:=spec_l1Has.mono_l k
 unfold spec_l1Has.f
 repeat' first
   | (with_reducible exact ih0 _ _ _ _)
   | (with_reducible exact LeO.refl _)
   | (with_reducible exact LeO.none _)
   | (with_reducible refine LeO.ite ?_ ?_)
   | (with_reducible refine LeO.bind ?_ (fun _=>?_))
   | exact ih0 _ _ _ _
   | exact LeO.none _
   | refine LeO.ite ?_ ?_
   | refine LeO.bind ?_ (fun _=>?_)
set_option maxHeartbeats 8000000 in
set_option maxRecDepth 100000 in
theorem spec_l1Has.calls (k:Nat) (A0:Option Addr) (c0:Nat) (l0:List Int) (a1:Int) (r:Bool) (w:World) (hr0:Kd.C (Kd.int .i64) w A0 l0.length l0) (hc0:l0.length≤c0) (h:spec_l1Has.f k l0 a1=some r) :
  Calls Try.prog 48 #[.slice A0 l0.length c0,.int .i64 a1] w fun e w'=>e=.returned (.bool r)∧Drawn0 w w':=by
 have HR0:=zz31 hr0
 have HC0:=zz31 hc0
 clear hr0 hc0
 have H:(spec_l1Has.l0 k a1 l0 (l0.length:Int) 0)=some r:=h
 clear h
 have H':=zz31 H
 clear H
 go_enter Try.func48,Try.ntmps48
 go_wp2
 go_loopg [9] k (fun kq v9 w'=>∃ (x9_1:Int),v9=.int .i64 x9_1∧Aside0 (spec_l1Has.l0 kq a1 l0 (l0.length:Int) x9_1=some r)∧Aside0 (kq≤k)∧Drawn0 w w')
 case atStart=>exact ⟨(0),(by first | rfl | (simp;done) | (simp [*];done)),H',⟨Nat.le_refl _⟩,by repeat (first | exact Drawn0.refl _ | apply Drawn0.step)⟩
 case round =>
  clear H'
  try clear p2
  obtain ⟨x9_1,rfl,HA,HK1,⟨m1,rfl⟩⟩:=hrel
  cases gk with
  | zero=>exact absurd HA.out (by simp [spec_l1Has.l0])
  | succ k1 =>
   have H:=HA.out
   clear HA
   simp only [spec_l1Has.l0] at H
   by_cases c3:x9_1 < (l0.length:Int)
   ·rw [if_pos c3] at H
    have c3b0:decide (x9_1 < (l0.length:Int))=true:=decide_eq_true c3
    clear c3
    by_cases c4:0≤x9_1
    ·rw [if_pos c4] at H
     have c4b0:decide (0≤x9_1)=true:=decide_eq_true c4
     clear c4
     by_cases c5:x9_1 < (l0.length:Int)
     ·rw [if_pos c5] at H
      have c5b0:decide (x9_1 < (l0.length:Int))=true:=decide_eq_true c5
      clear c5
      by_cases c6:(rd l0 x9_1)=a1
      ·rw [if_pos c6] at H
       have c6b0:((rd l0 x9_1) == a1)=true:=beq_iff_eq.mpr c6
       have c6b1:((rd l0 x9_1) != a1)=false:=bne_eq_false_iff_eq.mpr c6
       clear c6
       obtain rfl:=Option.some.inj H
       have p149:0≤(x9_1:Int):=zz29 (by first | (with_reducible assumption) | assumption)
       have q149:x9_1 < (l0.length:Int):=zz29 (by first | (with_reducible assumption) | assumption)
       obtain ⟨ad149,e149,hx149_0⟩:=Kd.at_int HR0.out x9_1 p149 q149
       cases e149
       replace p149:=eq_true p149
       replace q149:=eq_true q149
       go_wp2
       go_ret
       exact ⟨by first | rfl | (simp;done) | (simp [*];done),by repeat (first | exact Drawn0.refl _ | apply Drawn0.step)⟩
      ·rw [if_neg c6] at H
       have c6b0:((rd l0 x9_1) == a1)=false:=beq_eq_false_iff_ne.mpr c6
       have c6b1:((rd l0 x9_1) != a1)=true:=bne_iff_ne.mpr c6
       have H':=zz31 H
       clear H
       have p149:0≤(x9_1:Int):=zz29 (by first | (with_reducible assumption) | assumption)
       have q149:x9_1 < (l0.length:Int):=zz29 (by first | (with_reducible assumption) | assumption)
       obtain ⟨ad149,e149,hx149_0⟩:=Kd.at_int HR0.out x9_1 p149 q149
       cases e149
       replace p149:=eq_true p149
       replace q149:=eq_true q149
       go_wp2
       go_roundg k1
       case measure=>have:=HK1.out;omega
       case rel=>exact ⟨(wrap64 (x9_1+1)),(by first | rfl | (simp;done) | (simp [*];done)),H',⟨by have:=HK1.out;omega⟩,by repeat (first | exact Drawn0.refl _ | apply Drawn0.step)⟩
     ·rw [if_neg c5] at H
      exact absurd H (by simp)
    ·rw [if_neg c4] at H
     exact absurd H (by simp)
   ·rw [if_neg c3] at H
    have c3b0:decide (x9_1 < (l0.length:Int))=false:=decide_eq_false c3
    clear c3
    obtain rfl:=Option.some.inj H
    go_wp2
    go_ret
    exact ⟨by first | rfl | (simp;done) | (simp [*];done),by repeat (first | exact Drawn0.refl _ | apply Drawn0.step)⟩

/-! ### spec_paOf: function 42 -/
mutual
def spec_paOf.l0:Nat→List (List Bool)→Int→Int→Int→List (S70)→Option (Int × (List (S70)))
 | 0,_,_,_,_,_=>none
 | k+1,x0,x10,x11,x152000,x152001=>if x11 < x10 then (spec_paOf.l1 k x0 x11 (wrap64 (x11+1)) x10 x11 x152000 x152001) else (some (x152000,x152001))
def spec_paOf.l1:Nat→List (List Bool)→Int→Int→Int→Int→Int→List (S70)→Option (Int × (List (S70)))
 | 0,_,_,_,_,_,_,_=>none
 | k+1,x0,x4,x5,x10,x11,x152000,x152001=>if x5 < (x0.length:Int) then (if 0≤x4 then (if x4 < (x0.length:Int) then (if 0≤x5 then (if x5 < ((rd_L4 x0 x4).length:Int) then (if rdOf false (rd_L4 x0 x4) x5=true then (if x152001.length < 8796093022208 then (spec_paOf.l1 k x0 x4 (wrap64 (x5+1)) x10 x11 x152000 (x152001 ++ [(⟨x4,x5⟩:S70)])) else (none)) else (spec_paOf.l1 k x0 x4 (wrap64 (x5+1)) x10 x11 x152000 x152001)) else (none)) else (none)) else (none)) else (none)) else (spec_paOf.l0 k x0 x10 (wrap64 (x11+1)) x152000 x152001)
end
def spec_paOf.f (k:Nat) (l0:List (List Bool)):Option (Int × (List (S70))):=spec_paOf.l0 k l0 (l0.length:Int) 0 (l0.length:Int) ([]:List (S70))
theorem spec_paOf.mono_l:∀ k,(∀ y0 y1 y2 y3 y4,LeO (spec_paOf.l0 k y0 y1 y2 y3 y4) (spec_paOf.l0 (k+1) y0 y1 y2 y3 y4))∧(∀ y0 y1 y2 y3 y4 y5 y6,LeO (spec_paOf.l1 k y0 y1 y2 y3 y4 y5 y6) (spec_paOf.l1 (k+1) y0 y1 y2 y3 y4 y5 y6))
 | 0=>⟨fun _ _ _ _ _ r h=>by simp [spec_paOf.l0] at h,fun _ _ _ _ _ _ _ r h=>by simp [spec_paOf.l1] at h⟩
 | k+1=>by
  obtain ⟨ih0,ih1⟩:=spec_paOf.mono_l k
  refine ⟨?_,?_⟩
  ·intro y0 y1 y2 y3 y4
   unfold spec_paOf.l0
   repeat' first
   | (with_reducible exact ih0 _ _ _ _ _)
   | (with_reducible exact ih1 _ _ _ _ _ _ _)
   | (with_reducible exact LeO.refl _)
   | (with_reducible exact LeO.none _)
   | (with_reducible refine LeO.ite ?_ ?_)
   | (with_reducible refine LeO.bind ?_ (fun _=>?_))
   | exact ih0 _ _ _ _ _
   | exact ih1 _ _ _ _ _ _ _
   | exact LeO.none _
   | refine LeO.ite ?_ ?_
   | refine LeO.bind ?_ (fun _=>?_)
  ·intro y0 y1 y2 y3 y4 y5 y6
   unfold spec_paOf.l1
   repeat' first
   | (with_reducible exact ih0 _ _ _ _ _)
   | (with_reducible exact ih1 _ _ _ _ _ _ _)
   | (with_reducible exact LeO.refl _)
   | (with_reducible exact LeO.none _)
   | (with_reducible refine LeO.ite ?_ ?_)
   | (with_reducible refine LeO.bind ?_ (fun _=>?_))
   | exact ih0 _ _ _ _ _
   | exact ih1 _ _ _ _ _ _ _
   | exact LeO.none _
   | refine LeO.ite ?_ ?_
   | refine LeO.bind ?_ (fun _=>?_)
theorem spec_paOf.mono:∀ a0 k,LeO (spec_paOf.f k a0) (spec_paOf.f (k+1) a0):=by
 intro a0 k
 obtain ⟨ih0,ih1⟩:=spec_paOf.mono_l k
 unfold spec_paOf.f
 repeat' first
   | (with_reducible exact ih0 _ _ _ _ _)
   | (with_reducible exact ih1 _ _ _ _ _ _ _)
   | (with_reducible exact LeO.refl _)
   | (with_reducible exact LeO.none _)
   | (with_reducible refine LeO.ite ?_ ?_)
   | (with_reducible refine LeO.bind ?_ (fun _=>?_))
   | exact ih0 _ _ _ _ _
   | exact ih1 _ _ _ _ _ _ _
   | exact LeO.none _
   | refine LeO.ite ?_ ?_
   | refine LeO.bind ?_ (fun _=>?_)
set_option maxHeartbeats 8000000 in
set_option maxRecDepth 100000 in
theorem spec_paOf.calls (k:Nat) (A0:Option Addr) (c0:Nat) (l0:List (List Bool)) (r1:Int) (r2:List (S70)) (w:World) (hr0:Kd.C (Kd.slice 4 Kd.bool) w A0 l0.length l0) (hc0:l0.length≤c0) (h:spec_paOf.f k l0=some (r1,r2)) :
  Calls Try.prog 42 #[.slice A0 l0.length c0] w fun e w'=>∃ v1_:Value,e=.returned (.agg #[.int .i64 r1,v1_])∧Kd.R k70 70 w' w.heap.size (fun _=>True) v1_ r2∧Below w.heap.size w w':=by
 have hu30:=Try.underlying30
 have hu70:=Try.underlying70
 have HR0:=zz31 hr0
 have HC0:=zz31 hc0
 clear hr0 hc0
 have HB:=zz31 (Below.refl w.heap.size w)
 have H:(spec_paOf.l0 k l0 (l0.length:Int) 0 (l0.length:Int) ([]:List (S70)))=some (r1,r2):=h
 clear h
 have H':=zz31 H
 clear H
 go_enter Try.func42,Try.ntmps42
 go_wp2_with (first | ((with_reducible refine gate_dst (N:=2) rfl ?_);refine box_event ?hg (N:=2) ?hd (cs:=#[.int .i64 0,.slice none 0 0]) (t:=30) ?hr ?_;(case hd=>rfl);(case hg=>rfl);(case hr=>first | (go_simp;done) | (go_simp;rfl));intro gb150 hg w2 hbox hb;have n0_:=zz31 (zz4 (by repeat first | exact HB.out | apply zz2 | apply zz0 | apply zz1) hb);have n1_:=zz31 (hbox);have n2_:=zz31 ((by rw [hg];exact (zz5 (by repeat first | exact HB.out | apply zz2 | apply zz0 | apply zz1)):w.heap.size≤gb150));have n3_:=zz31 ((by rw [hg];exact (zz5 (by repeat first | exact HB.out | apply zz2 | apply zz0 | apply zz1)):w.heap.size≤gb150));clear HB;have HB:=n0_;have BK150:=n1_;have GW150:=n2_;have GE150:=n3_;clear n0_ n1_ n2_ n3_;clear hb hbox hg) | ((with_reducible refine gate_dst (N:=3) rfl ?_);refine box_event ?hg (N:=3) ?hd (cs:=#[.int .i64 0,.slice none 0 0]) (t:=30) ?hr ?_;(case hd=>rfl);(case hg=>rfl);(case hr=>first | (go_simp;done) | (go_simp;rfl));intro gb151 hg w3 hbox hb;have n0_:=zz31 (zz11 (g:=gb150) (o:=.cells #[.int .i64 0,.slice none 0 0] 30 (0,0)) (by (with_reducible repeat (first | refine zz6 ?_ _ | refine zz7 ?_ | refine zz8 ?_ _));exact BK150.out) hb);have n1_:=zz31 (zz4 (by repeat first | exact HB.out | apply zz2 | apply zz0 | apply zz1 | refine zz3 ?_ GE150.out) hb);have n2_:=zz31 (hbox);have n3_:=zz31 ((by rw [hg];exact (zz5 (by repeat first | exact HB.out | apply zz2 | apply zz0 | apply zz1 | refine zz3 ?_ GE150.out)):w.heap.size≤gb151));have n4_:=zz31 ((by rw [hg];exact (zz5 (by repeat first | exact HB.out | apply zz2 | apply zz0 | apply zz1 | refine zz3 ?_ GE150.out)):w.heap.size≤gb151));have n5_:=zz31 ((by rw [hg];exact Nat.ne_of_lt (blk_lt (g:=gb150) (o:=.cells #[.int .i64 0,.slice none 0 0] 30 (0,0)) (by (with_reducible repeat (first | refine zz6 ?_ _ | refine zz7 ?_ | refine zz8 ?_ _));exact BK150.out)):gb150 ≠ gb151));have n6_:=zz31 ((by rw [hg];exact Nat.ne_of_gt (blk_lt (g:=gb150) (o:=.cells #[.int .i64 0,.slice none 0 0] 30 (0,0)) (by (with_reducible repeat (first | refine zz6 ?_ _ | refine zz7 ?_ | refine zz8 ?_ _));exact BK150.out)):gb151 ≠ gb150));clear BK150;clear HB;have BK150:=n0_;have HB:=n1_;have BK151:=n2_;have GW151:=n3_;have GE151:=n4_;have NB150_151:=n5_;have NB151_150:=n6_;clear n0_ n1_ n2_ n3_ n4_ n5_ n6_;clear hb hbox hg;have hnb4:=NB151_150.out;have hnc4:=NB150_151.out;have hcz5_0:w3.cell? ⟨gb151,0,none⟩=some (.int .i64 0):=(zz9 BK151.out 0).trans rfl;have hcz5_1:w3.cell? ⟨gb151,1,none⟩=some (.slice none 0 0):=(zz9 BK151.out 1).trans rfl;have hfz5_0:=zz10 BK151.out 0;have hfz5_1:=zz10 BK151.out 1))
 go_loopg [11] k (fun kq v11 w'=>∃ (x11_1:Int) (x152001_1:List (S70)) (u152001:Value),v11=.int .i64 x11_1∧Aside0 (spec_paOf.l0 kq l0 (l0.length:Int) x11_1 (l0.length:Int) x152001_1=some (r1,r2))∧Aside0 (kq≤k)∧Aside0 (Kd.R k70 70 w' w.heap.size (fun _=>True) u152001 x152001_1)∧Aside0 (w'.heap[gb150]?=some (.cells #[.int .i64 0,(.slice none 0 0)] 30 (0,0)))∧Aside0 (w'.heap[gb151]?=some (.cells #[.int .i64 (l0.length:Int),u152001] 30 (0,0)))∧Aside0 (Below w.heap.size w w'))
 case atStart=>exact ⟨(0),(([]:List (S70))),(.slice none 0 0),(by first | rfl | (simp;done) | (simp [*];done)),H',⟨Nat.le_refl _⟩,⟨by first | exact Kd.R_nil _ _ _ _ _ | exact Kd.N_nil _ _ _ _ _ | exact Kd.V_nil _ _ _ _ _ | exact Kd.Q_nil _ _ _ _ _ | exact Kd.S_nil _ _ _ _ _⟩,⟨by (with_reducible repeat (first | refine zz6 ?_ _ | refine zz7 ?_ | refine zz8 ?_ _));refine blk_far ?_ NB150_151.out _;(with_reducible repeat (first | refine zz6 ?_ _ | refine zz7 ?_ | refine zz8 ?_ _));refine blk_far ?_ NB150_151.out _;(with_reducible repeat (first | refine zz6 ?_ _ | refine zz7 ?_ | refine zz8 ?_ _));exact BK150.out⟩,⟨by (with_reducible repeat (first | refine zz6 ?_ _ | refine zz7 ?_ | refine zz8 ?_ _));refine blk_put (cs:=#[.int .i64 (l0.length:Int),.slice none 0 0]) ?_ 1 _ rfl;(with_reducible repeat (first | refine zz6 ?_ _ | refine zz7 ?_ | refine zz8 ?_ _));refine blk_put (cs:=#[.int .i64 0,.slice none 0 0]) ?_ 0 _ rfl;(with_reducible repeat (first | refine zz6 ?_ _ | refine zz7 ?_ | refine zz8 ?_ _));exact BK151.out⟩,⟨by repeat first | exact HB.out | apply zz2 | apply zz0 | apply zz1 | refine zz3 ?_ GE150.out | refine zz3 ?_ GE151.out⟩⟩
 case round =>
  clear H'
  try clear p2
  try clear c4
  try clear hcz5_0
  try clear hcz5_1
  try clear hfz5_0
  try clear hfz5_1
  obtain ⟨x11_1,x152001_1,u152001,rfl,HA,HK1,HO_152001,BK150,BK151,HB⟩:=hrel
  cases gk with
  | zero=>exact absurd HA.out (by simp [spec_paOf.l0])
  | succ k1 =>
   have H:=HA.out
   clear HA
   simp only [spec_paOf.l0] at H
   by_cases c6:x11_1 < (l0.length:Int)
   ·rw [if_pos c6] at H
    have c6b0:decide (x11_1 < (l0.length:Int))=true:=decide_eq_true c6
    clear c6
    have H':=zz31 H
    clear H
    go_wp2
    go_loopg [5] k1 (fun kq v5 w'=>∃ (x5_2:Int) (x152001_2:List (S70)) (u152001:Value),v5=.int .i64 x5_2∧Aside0 (spec_paOf.l1 kq l0 x11_1 x5_2 (l0.length:Int) x11_1 (l0.length:Int) x152001_2=some (r1,r2))∧Aside0 (kq≤k1)∧Aside0 (Kd.R k70 70 w' w.heap.size (fun _=>True) u152001 x152001_2)∧Aside0 (w'.heap[gb150]?=some (.cells #[.int .i64 0,(.slice none 0 0)] 30 (0,0)))∧Aside0 (w'.heap[gb151]?=some (.cells #[.int .i64 (l0.length:Int),u152001] 30 (0,0)))∧Aside0 (Below w.heap.size w w'))
    case atStart=>exact ⟨(wrap64 (x11_1+1)),(x152001_1),(u152001),(by first | rfl | (simp;done) | (simp [*];done)),H',⟨Nat.le_refl _⟩,⟨by (with_reducible repeat (first | apply zz12 | apply zz13 | apply zz14));exact HO_152001.out⟩,⟨by (with_reducible repeat (first | refine zz6 ?_ _ | refine zz7 ?_ | refine zz8 ?_ _));exact BK150.out⟩,⟨by (with_reducible repeat (first | refine zz6 ?_ _ | refine zz7 ?_ | refine zz8 ?_ _));exact BK151.out⟩,⟨by repeat first | exact HB.out | apply zz2 | apply zz0 | apply zz1 | refine zz3 ?_ GE150.out | refine zz3 ?_ GE151.out⟩⟩
    case round =>
     clear H'
     try clear p2
     try clear c4
     try clear c6
     try clear c6b0
     try clear p6
     try clear hcz5_0
     try clear hcz5_1
     try clear hfz5_0
     try clear hfz5_1
     try clear p2
     obtain ⟨x5_2,x152001_2,u152001,rfl,HA,HK2,HO_152001,BK150,BK151,HB⟩:=hrel
     cases gk with
     | zero=>exact absurd HA.out (by simp [spec_paOf.l1])
     | succ k2 =>
      have H:=HA.out
      clear HA
      simp only [spec_paOf.l1] at H
      by_cases c7:x5_2 < (l0.length:Int)
      ·rw [if_pos c7] at H
       have c7b0:decide (x5_2 < (l0.length:Int))=true:=decide_eq_true c7
       clear c7
       by_cases c8:0≤x11_1
       ·rw [if_pos c8] at H
        have c8b0:decide (0≤x11_1)=true:=decide_eq_true c8
        clear c8
        by_cases c9:x11_1 < (l0.length:Int)
        ·rw [if_pos c9] at H
         have c9b0:decide (x11_1 < (l0.length:Int))=true:=decide_eq_true c9
         clear c9
         by_cases c10:0≤x5_2
         ·rw [if_pos c10] at H
          have c10b0:decide (0≤x5_2)=true:=decide_eq_true c10
          clear c10
          by_cases c11:x5_2 < ((rd_L4 l0 x11_1).length:Int)
          ·rw [if_pos c11] at H
           have c11b0:decide (x5_2 < ((rd_L4 l0 x11_1).length:Int))=true:=decide_eq_true c11
           clear c11
           obtain ⟨bq12,hbq12⟩:∃ b_:Bool,b_=(rdOf false (rd_L4 l0 x11_1) x5_2):=⟨_,rfl⟩
           replace H:(if bq12=true then (if x152001_2.length < 8796093022208 then (spec_paOf.l1 k2 l0 x11_1 (wrap64 (x5_2+1)) (l0.length:Int) x11_1 (l0.length:Int) (x152001_2 ++ [(⟨x11_1,x5_2⟩:S70)])) else (none)) else (spec_paOf.l1 k2 l0 x11_1 (wrap64 (x5_2+1)) (l0.length:Int) x11_1 (l0.length:Int) x152001_2))=some (r1,r2):=by rw [← hbq12] at H;exact H
           have Nbq12:=zz31 hbq12
           clear hbq12
           by_cases c13:bq12=true
           ·subst c13
            have H1:(if x152001_2.length < 8796093022208 then (spec_paOf.l1 k2 l0 x11_1 (wrap64 (x5_2+1)) (l0.length:Int) x11_1 (l0.length:Int) (x152001_2 ++ [(⟨x11_1,x5_2⟩:S70)])) else (none))=some (r1,r2):=by rw [if_pos rfl] at H;exact H
            clear H
            have H:=H1
            clear H1
            by_cases c14:x152001_2.length < 8796093022208
            ·rw [if_pos c14] at H
             have LMc14:=zz31 c14
             clear c14
             obtain ⟨y154,hy154⟩:∃ y_:List (S70),y_=(x152001_2 ++ [(⟨x11_1,x5_2⟩:S70)]):=⟨_,rfl⟩
             replace H:(spec_paOf.l1 k2 l0 x11_1 (wrap64 (x5_2+1)) (l0.length:Int) x11_1 (l0.length:Int) y154)=some (r1,r2):=by first | (rw [hy154];with_reducible exact H) | (have H2_:=(Option.bind_some _ _).symm.trans H;rw [hy154];with_reducible exact H2_) | (have H2_:=(Option.bind_some _ _).symm.trans H;with_reducible exact H2_) | with_reducible exact H | (rw [hy154];exact H) | exact H
             have Ny154:=zz31 hy154
             clear hy154
             have H':=zz31 H
             clear H
             have p152:0≤(x11_1:Int):=zz29 (by first | (with_reducible assumption) | assumption)
             have q152:x11_1 < (l0.length:Int):=zz29 (by first | (with_reducible assumption) | assumption)
             obtain ⟨ad152,A152_0,c152_0,e152,hx152_0,hl152_0,hi152_0⟩:=at_L4 HR0.out x11_1 p152 q152
             cases e152
             try replace hx152_0:=(HB.out.cell (World.block_lt_of_cell? w _ hx152_0)).trans hx152_0
             have HR152_0:=zz31 hi152_0
             have HC152_0:=zz31 hl152_0
             clear hi152_0 hl152_0
             replace p152:=eq_true p152
             replace q152:=eq_true q152
             have p153:0≤(x5_2:Int):=zz29 (by first | (with_reducible assumption) | assumption)
             have q153:x5_2 < ((rd_L4 l0 x11_1).length:Int):=zz29 (by first | (with_reducible assumption) | assumption)
             obtain ⟨ad153,e153,hx153_0⟩:=Kd.at_bool HR152_0.out x5_2 p153 q153
             (try rw [← Nbq12.out] at hx153_0)
             cases e153
             try replace hx153_0:=(HB.out.cell (World.block_lt_of_cell? w _ hx153_0)).trans hx153_0
             replace p153:=eq_true p153
             replace q153:=eq_true q153
             have hnb15:=NB151_150.out
             have hnc15:=NB150_151.out
             have hcz16_0:wr.cell? ⟨gb151,0,none⟩=some (.int .i64 (l0.length:Int)):=(zz9 BK151.out 0).trans rfl
             have hcz16_1:wr.cell? ⟨gb151,1,none⟩=some (u152001):=(zz9 BK151.out 1).trans rfl
             have hfz16_0:=zz10 BK151.out 0
             have hfz16_1:=zz10 BK151.out 1
             go_wp2_with (first | ((with_reducible refine gate_builtin (b:=.append) (xs:=#[.tmp 30,.tmp 34]) rfl ?_);at_builtin;refine Kd.R_append k70 (w0:=w) w.heap.size rfl (.tmp 30) (.tmp 34) 28 70 (.agg #[(.int .i64 0),(.int .i64 0)]) 16 rfl Try.underlying28 info70 rfl (by decide) (by omega) u152001 x152001_2 (⟨x11_1,x5_2⟩:S70) [.int .i64 x11_1,.int .i64 x5_2] (fun _=>True) (fun _=>False) rfl rfl ?aP (fun _ hk=>hk.elim) ?aF ?aO ?aB ?aS ?aL ?_;(case aP=>exact k70_mkM _ _ _ (⟨x11_1,x5_2⟩:S70));(case aB=>exact (by repeat first | exact HB.out | apply zz2 | apply zz0 | apply zz1 | refine zz3 ?_ GE150.out | refine zz3 ?_ GE151.out));(case aF=>exact (fun _ _=>trivial));(case aO=>exact (by (with_reducible repeat (first | apply zz12 | apply zz13 | apply zz14));exact HO_152001.out));(case aS=>exact (zz5 (by repeat first | exact HB.out | apply zz2 | apply zz0 | apply zz1 | refine zz3 ?_ GE150.out | refine zz3 ?_ GE151.out)));(case aL=>have:=LMc14.out;omega);intro v155 w17 ho hb hg hat;rw [← Ny154.out] at ho;have n0_:=zz31 (blk_grown (g:=gb150) (o:=.cells #[.int .i64 0,.slice none 0 0] 30 (0,0)) (by (with_reducible repeat (first | refine zz6 ?_ _ | refine zz7 ?_ | refine zz8 ?_ _));exact BK150.out) hg (Kd.R_ne HO_152001.out BK150.out (by decide)));have n1_:=zz31 (blk_grown (g:=gb151) (o:=.cells #[.int .i64 (l0.length:Int),u152001] 30 (0,0)) (by (with_reducible repeat (first | refine zz6 ?_ _ | refine zz7 ?_ | refine zz8 ?_ _));exact BK151.out) hg (Kd.R_ne HO_152001.out BK151.out (by decide)));have n2_:=zz31 (hb);have n3_:=zz31 (ho);clear BK150;clear BK151;clear HB;clear HO_152001;have BK150:=n0_;have BK151:=n1_;have HB:=n2_;have HO156:=n3_;clear n0_ n1_ n2_ n3_;clear ho hb hg hat;obtain ⟨Ao18,co18,eo18⟩:=Kd.R_slice HO156.out;subst eo18;have hcz19_0:w17.cell? ⟨gb151,0,none⟩=some (.int .i64 (l0.length:Int)):=(zz9 BK151.out 0).trans rfl;have hcz19_1:w17.cell? ⟨gb151,1,none⟩=some (u152001):=(zz9 BK151.out 1).trans rfl;have hfz19_0:=zz10 BK151.out 0;have hfz19_1:=zz10 BK151.out 1))
             go_roundg k2
             case measure=>have:=HK1.out;have:=HK2.out;omega
             case rel=>exact ⟨(wrap64 (x5_2+1)),(y154),(.slice Ao18 y154.length co18),(by first | rfl | (simp;done) | (simp [*];done)),H',⟨by have:=HK1.out;have:=HK2.out;omega⟩,⟨by (with_reducible repeat (first | apply zz12 | apply zz13 | apply zz14));exact Kd.R_mono (Kd.R_far (p:=⟨gb151,1,none⟩) (Kd.R_types HO156.out BK151.out (by decide)) (fun _ hk=>hk.2) (.slice Ao18 y154.length co18)) (fun _ hk=>trivial)⟩,⟨by (with_reducible repeat (first | refine zz6 ?_ _ | refine zz7 ?_ | refine zz8 ?_ _));refine blk_far ?_ NB150_151.out _;(with_reducible repeat (first | refine zz6 ?_ _ | refine zz7 ?_ | refine zz8 ?_ _));exact BK150.out⟩,⟨by (with_reducible repeat (first | refine zz6 ?_ _ | refine zz7 ?_ | refine zz8 ?_ _));refine blk_put (cs:=#[.int .i64 (l0.length:Int),u152001]) ?_ 1 _ rfl;(with_reducible repeat (first | refine zz6 ?_ _ | refine zz7 ?_ | refine zz8 ?_ _));exact BK151.out⟩,⟨by repeat first | exact HB.out | apply zz2 | apply zz0 | apply zz1 | refine zz3 ?_ GE150.out | refine zz3 ?_ GE151.out⟩⟩
            ·rw [if_neg c14] at H
             exact absurd H (by simp)
           ·replace c13:=Bool.eq_false_iff.mpr c13
            subst c13
            have H1:(spec_paOf.l1 k2 l0 x11_1 (wrap64 (x5_2+1)) (l0.length:Int) x11_1 (l0.length:Int) x152001_2)=some (r1,r2):=by rw [if_neg (show ¬ (false=true) by decide)] at H;exact H
            clear H
            have H:=H1
            clear H1
            have H':=zz31 H
            clear H
            have p152:0≤(x11_1:Int):=zz29 (by first | (with_reducible assumption) | assumption)
            have q152:x11_1 < (l0.length:Int):=zz29 (by first | (with_reducible assumption) | assumption)
            obtain ⟨ad152,A152_0,c152_0,e152,hx152_0,hl152_0,hi152_0⟩:=at_L4 HR0.out x11_1 p152 q152
            cases e152
            try replace hx152_0:=(HB.out.cell (World.block_lt_of_cell? w _ hx152_0)).trans hx152_0
            have HR152_0:=zz31 hi152_0
            have HC152_0:=zz31 hl152_0
            clear hi152_0 hl152_0
            replace p152:=eq_true p152
            replace q152:=eq_true q152
            have p153:0≤(x5_2:Int):=zz29 (by first | (with_reducible assumption) | assumption)
            have q153:x5_2 < ((rd_L4 l0 x11_1).length:Int):=zz29 (by first | (with_reducible assumption) | assumption)
            obtain ⟨ad153,e153,hx153_0⟩:=Kd.at_bool HR152_0.out x5_2 p153 q153
            (try rw [← Nbq12.out] at hx153_0)
            cases e153
            try replace hx153_0:=(HB.out.cell (World.block_lt_of_cell? w _ hx153_0)).trans hx153_0
            replace p153:=eq_true p153
            replace q153:=eq_true q153
            go_wp2
            go_roundg k2
            case measure=>have:=HK1.out;have:=HK2.out;omega
            case rel=>exact ⟨(wrap64 (x5_2+1)),(x152001_2),(u152001),(by first | rfl | (simp;done) | (simp [*];done)),H',⟨by have:=HK1.out;have:=HK2.out;omega⟩,⟨by (with_reducible repeat (first | apply zz12 | apply zz13 | apply zz14));exact HO_152001.out⟩,⟨by (with_reducible repeat (first | refine zz6 ?_ _ | refine zz7 ?_ | refine zz8 ?_ _));exact BK150.out⟩,⟨by (with_reducible repeat (first | refine zz6 ?_ _ | refine zz7 ?_ | refine zz8 ?_ _));exact BK151.out⟩,⟨by repeat first | exact HB.out | apply zz2 | apply zz0 | apply zz1 | refine zz3 ?_ GE150.out | refine zz3 ?_ GE151.out⟩⟩
          ·rw [if_neg c11] at H
           exact absurd H (by simp)
         ·rw [if_neg c10] at H
          exact absurd H (by simp)
        ·rw [if_neg c9] at H
         exact absurd H (by simp)
       ·rw [if_neg c8] at H
        exact absurd H (by simp)
      ·rw [if_neg c7] at H
       have c7b0:decide (x5_2 < (l0.length:Int))=false:=decide_eq_false c7
       clear c7
       have H':=zz31 H
       clear H
       go_wp2
       go_roundg k2
       case measure=>have:=HK1.out;have:=HK2.out;omega
       case rel=>exact ⟨(wrap64 (x11_1+1)),(x152001_2),(u152001),(by first | rfl | (simp;done) | (simp [*];done)),H',⟨by have:=HK1.out;have:=HK2.out;omega⟩,⟨by (with_reducible repeat (first | apply zz12 | apply zz13 | apply zz14));exact HO_152001.out⟩,⟨by (with_reducible repeat (first | refine zz6 ?_ _ | refine zz7 ?_ | refine zz8 ?_ _));exact BK150.out⟩,⟨by (with_reducible repeat (first | refine zz6 ?_ _ | refine zz7 ?_ | refine zz8 ?_ _));exact BK151.out⟩,⟨by repeat first | exact HB.out | apply zz2 | apply zz0 | apply zz1 | refine zz3 ?_ GE150.out | refine zz3 ?_ GE151.out⟩⟩
   ·rw [if_neg c6] at H
    have c6b0:decide (x11_1 < (l0.length:Int))=false:=decide_eq_false c6
    clear c6
    simp only [Option.some.injEq,Prod.mk.injEq] at H
    obtain ⟨rfl,rfl⟩:=H
    have hnb20:=NB151_150.out
    have hnc20:=NB150_151.out
    have hcz21_0:wr.cell? ⟨gb151,0,none⟩=some (.int .i64 (l0.length:Int)):=(zz9 BK151.out 0).trans rfl
    have hcz21_1:wr.cell? ⟨gb151,1,none⟩=some (u152001):=(zz9 BK151.out 1).trans rfl
    have hfz21_0:=zz10 BK151.out 0
    have hfz21_1:=zz10 BK151.out 1
    have hcz22_0:wr.cell? ⟨gb150,0,none⟩=some (.int .i64 0):=(zz9 BK150.out 0).trans rfl
    have hcz22_1:wr.cell? ⟨gb150,1,none⟩=some (.slice none 0 0):=(zz9 BK150.out 1).trans rfl
    have hfz22_0:=zz10 BK150.out 0
    have hfz22_1:=zz10 BK150.out 1
    obtain ⟨Ao23,co23,eo23⟩:=Kd.R_slice HO_152001.out
    subst eo23
    go_wp2
    refine bodyPost_ret (results_cell_row rfl _ _ gb150 30 #[.int .i64 (l0.length:Int),.slice Ao23 x152001_1.length co23] (0,0) _ rfl (by (with_reducible repeat (first | refine zz6 ?_ _ | refine zz7 ?_ | refine zz8 ?_ _));refine blk_put (cs:=#[.int .i64 (l0.length:Int),.slice none 0 0]) ?_ 1 _ rfl;(with_reducible repeat (first | refine zz6 ?_ _ | refine zz7 ?_ | refine zz8 ?_ _));refine blk_put (cs:=#[.int .i64 0,.slice none 0 0]) ?_ 0 _ rfl;(with_reducible repeat (first | refine zz6 ?_ _ | refine zz7 ?_ | refine zz8 ?_ _));exact BK150.out) Try.underlying30 rfl (by kernel_rfl)) rfl ?_
    exact ⟨_,by first | rfl | (simp [errW_none,errW_some] <;> rfl) | (simp [*,errW_none,errW_some] <;> rfl),by (with_reducible repeat (first | apply zz12 | apply zz13 | apply zz14));exact Kd.R_mono (Kd.R_far (p:=⟨gb150,1,none⟩) (Kd.R_far (p:=⟨gb150,0,none⟩) (Kd.R_types HO_152001.out BK150.out (by decide)) (fun _ hk=>hk.2) (.int .i64 (l0.length:Int))) (fun _ hk=>hk.2) (.slice Ao23 x152001_1.length co23)) (fun _ hk=>trivial),by repeat first | exact HB.out | apply zz2 | apply zz0 | apply zz1 | refine zz3 ?_ GE150.out | refine zz3 ?_ GE151.out⟩

/-! ### spec_paTable: function 43 -/
mutual
def spec_paTable.l0:Nat→List (List Bool)→Int→Int→List (S70)→Option ((List (List Bool)))
 | 0,_,_,_,_=>none
 | k+1,x3,x4,x158000,x158001=>if x4 < x158000 then (if 0≤x158000 then (if (x158000:Int).toNat≤281474976710656 then (if x3.length < 5864062014805 then (spec_paTable.l0 k (x3 ++ [(List.replicate (x158000:Int).toNat false)]) (wrap64 (x4+1)) x158000 x158001) else (none)) else (none)) else (none)) else (spec_paTable.l1 k x3 x158001 (x158001.length:Int) 0)
def spec_paTable.l1:Nat→List (List Bool)→List (S70)→Int→Int→Option ((List (List Bool)))
 | 0,_,_,_,_=>none
 | k+1,x3,x20,x21,x22=>if x22 < x21 then (if 0≤x22 then (if x22 < (x20.length:Int) then (if 0≤((rd_T70 x20 x22).f0) then (if ((rd_T70 x20 x22).f0) < (x3.length:Int) then (if 0≤((rd_T70 x20 x22).f1) then (if ((rd_T70 x20 x22).f1) < ((rd_L4 x3 ((rd_T70 x20 x22).f0)).length:Int) then ((some (x3.set (((rd_T70 x20 x22).f0):Int).toNat ((rd_L4 x3 ((rd_T70 x20 x22).f0)).set (((rd_T70 x20 x22).f1):Int).toNat true):List (List Bool))).bind fun y169=>(if ((rd_T70 x20 x22).f1) < (x3.length:Int) then (if ((rd_T70 x20 x22).f0) < ((rd_L4 y169 ((rd_T70 x20 x22).f1)).length:Int) then (spec_paTable.l1 k (y169.set (((rd_T70 x20 x22).f1):Int).toNat ((rd_L4 y169 ((rd_T70 x20 x22).f1)).set (((rd_T70 x20 x22).f0):Int).toNat true)) x20 x21 (wrap64 (x22+1))) else (none)) else (none))) else (none)) else (none)) else (none)) else (none)) else (none)) else (none)) else (some x3)
end
def spec_paTable.f (k:Nat) (a0_0:Int) (l0_1:List (S70)):Option ((List (List Bool))):=spec_paTable.l0 k ([]:List (List Bool)) 0 a0_0 l0_1
theorem spec_paTable.mono_l:∀ k,(∀ y0 y1 y2 y3,LeO (spec_paTable.l0 k y0 y1 y2 y3) (spec_paTable.l0 (k+1) y0 y1 y2 y3))∧(∀ y0 y1 y2 y3,LeO (spec_paTable.l1 k y0 y1 y2 y3) (spec_paTable.l1 (k+1) y0 y1 y2 y3))
 | 0=>⟨fun _ _ _ _ r h=>by simp [spec_paTable.l0] at h,fun _ _ _ _ r h=>by simp [spec_paTable.l1] at h⟩
 | k+1=>by
  obtain ⟨ih0,ih1⟩:=spec_paTable.mono_l k
  refine ⟨?_,?_⟩
  ·intro y0 y1 y2 y3
   unfold spec_paTable.l0
   repeat' first
   | (with_reducible exact ih0 _ _ _ _)
   | (with_reducible exact ih1 _ _ _ _)
   | (with_reducible exact LeO.refl _)
   | (with_reducible exact LeO.none _)
   | (with_reducible refine LeO.ite ?_ ?_)
   | (with_reducible refine LeO.bind ?_ (fun _=>?_))
   | exact ih0 _ _ _ _
   | exact ih1 _ _ _ _
   | exact LeO.none _
   | refine LeO.ite ?_ ?_
   | refine LeO.bind ?_ (fun _=>?_)
  ·intro y0 y1 y2 y3
   unfold spec_paTable.l1
   repeat' first
   | (with_reducible exact ih0 _ _ _ _)
   | (with_reducible exact ih1 _ _ _ _)
   | (with_reducible exact LeO.refl _)
   | (with_reducible exact LeO.none _)
   | (with_reducible refine LeO.ite ?_ ?_)
   | (with_reducible refine LeO.bind ?_ (fun _=>?_))
   | exact ih0 _ _ _ _
   | exact ih1 _ _ _ _
   | exact LeO.none _
   | refine LeO.ite ?_ ?_
   | refine LeO.bind ?_ (fun _=>?_)
theorem spec_paTable.mono:∀ a0 a1 k,LeO (spec_paTable.f k a0 a1) (spec_paTable.f (k+1) a0 a1):=by
 intro a0 a1 k
 obtain ⟨ih0,ih1⟩:=spec_paTable.mono_l k
 unfold spec_paTable.f
 repeat' first
   | (with_reducible exact ih0 _ _ _ _)
   | (with_reducible exact ih1 _ _ _ _)
   | (with_reducible exact LeO.refl _)
   | (with_reducible exact LeO.none _)
   | (with_reducible refine LeO.ite ?_ ?_)
   | (with_reducible refine LeO.bind ?_ (fun _=>?_))
   | exact ih0 _ _ _ _
   | exact ih1 _ _ _ _
   | exact LeO.none _
   | refine LeO.ite ?_ ?_
   | refine LeO.bind ?_ (fun _=>?_)
def spec_paTable.T9:Bool × List (List Nat × List Nat):=(true,[([],[]),([],[]),([1],[1]),([0,2],[0,2]),([3],[3]),([],[]),([5],[5]),([4,6,0,1,2,3,4,5,6],[4,6]),([7,0,1,2,3,4,5,6],[7])])
def spec_paTable.B9:List Nat:=[0,0,2,7,15,0,32,127,255]
theorem spec_paTable.tab9:rtab .any (opsOf Try.f43 9)=spec_paTable.T9:=by kernel_rfl
theorem spec_paTable.bits9:waitsOk spec_paTable.T9.2 spec_paTable.B9=true:=by kernel_rfl
def spec_paTable.T10:Bool × List (List Nat × List Nat):=(true,[([],[]),([],[]),([1],[1]),([0,2],[0,2]),([3],[3]),([],[]),([5],[5]),([4,6,0,1,2,3,4,5,6],[4,6]),([7,0,1,2,3,4,5,6],[7])])
def spec_paTable.B10:List Nat:=[0,0,2,7,15,0,32,127,255]
theorem spec_paTable.tab10:rtab .any (opsOf Try.f43 10)=spec_paTable.T10:=by kernel_rfl
theorem spec_paTable.bits10:waitsOk spec_paTable.T10.2 spec_paTable.B10=true:=by kernel_rfl
set_option maxHeartbeats 8000000 in
set_option maxRecDepth 100000 in
theorem spec_paTable.calls (k:Nat) (a0_0:Int) (A0_1:Option Addr) (c0_1:Nat) (l0_1:List (S70)) (r:List (List Bool)) (w:World) (hr0_1:Kd.C k70 w A0_1 l0_1.length l0_1) (hc0_1:l0_1.length≤c0_1) (h:spec_paTable.f k a0_0 l0_1=some r) :
  Calls Try.prog 43 #[.agg #[.int .i64 a0_0,.slice A0_1 l0_1.length c0_1]] w fun e w'=>∃ v0_:Value,e=.returned (v0_)∧Kd.S (Kd.slice 4 Kd.bool) 92 w' w.heap.size (fun _=>True) v0_ r∧Below w.heap.size w w':=by
 have hu30:=Try.underlying30
 have hu70:=Try.underlying70
 have HR0_1:=zz31 hr0_1
 have HC0_1:=zz31 hc0_1
 clear hr0_1 hc0_1
 have HB:=zz31 (Below.refl w.heap.size w)
 have H:(spec_paTable.l0 k ([]:List (List Bool)) 0 a0_0 l0_1)=some r:=h
 clear h
 have H':=zz31 H
 clear H
 go_enter Try.func43,Try.ntmps43
 go_wp2_with (first | ((with_reducible refine gate_dst (N:=1) rfl ?_);refine box_event ?hg (N:=1) ?hd (cs:=#[.int .i64 a0_0,.slice A0_1 l0_1.length c0_1]) (t:=30) ?hr ?_;(case hd=>rfl);(case hg=>rfl);(case hr=>first | (go_simp;done) | (go_simp;rfl));intro gb157 hg w2 hbox hb;have n0_:=zz31 (zz4 (by repeat first | exact HB.out | apply zz2 | apply zz0 | apply zz1) hb);have n1_:=zz31 (hbox);have n2_:=zz31 ((by rw [hg];exact (zz5 (by repeat first | exact HB.out | apply zz2 | apply zz0 | apply zz1)):w.heap.size≤gb157));have n3_:=zz31 ((by rw [hg];exact (zz5 (by repeat first | exact HB.out | apply zz2 | apply zz0 | apply zz1)):w.heap.size≤gb157));clear HB;have HB:=n0_;have BK157:=n1_;have GW157:=n2_;have GE157:=n3_;clear n0_ n1_ n2_ n3_;clear hb hbox hg))
 go_loopg [3,4] k (fun kq v3 v4 w'=>∃ (x3_1:List (List Bool)) (x4_1:Int),v4=.int .i64 x4_1∧Aside0 (spec_paTable.l0 kq x3_1 x4_1 a0_0 l0_1=some r)∧Aside0 (kq≤k)∧Aside0 (Kd.S (Kd.slice 4 Kd.bool) 92 w' w.heap.size (fun _=>True) v3 x3_1)∧Aside0 (w'.heap[gb157]?=some (.cells #[.int .i64 a0_0,(.slice A0_1 l0_1.length c0_1)] 30 (0,0)))∧Aside0 (Below w.heap.size w w'))
 case atStart=>exact ⟨(([]:List (List Bool))),(0),(by first | rfl | (simp;done) | (simp [*];done)),H',⟨Nat.le_refl _⟩,⟨by first | exact Kd.S_nil _ _ _ _ _ | exact Kd.N_nil _ _ _ _ _ | exact Kd.V_nil _ _ _ _ _ | exact Kd.Q_nil _ _ _ _ _ | exact Kd.R_nil _ _ _ _ _⟩,⟨by (with_reducible repeat (first | refine zz6 ?_ _ | refine zz7 ?_ | refine zz8 ?_ _));exact BK157.out⟩,⟨by repeat first | exact HB.out | apply zz2 | apply zz0 | apply zz1 | refine zz3 ?_ GE157.out⟩⟩
 case round =>
  clear H'
  try clear p2
  obtain ⟨x3_1,x4_1,rfl,HA,HK1,HO_3,BK157,HB⟩:=hrel
  cases gk with
  | zero=>exact absurd HA.out (by simp [spec_paTable.l0])
  | succ k1 =>
   have H:=HA.out
   clear HA
   simp only [spec_paTable.l0] at H
   by_cases c3:x4_1 < a0_0
   ·rw [if_pos c3] at H
    have c3b0:decide (x4_1 < a0_0)=true:=decide_eq_true c3
    clear c3
    by_cases c4:0≤a0_0
    ·rw [if_pos c4] at H
     have c4b0:=eq_true c4
     have c4b1:decide (0≤a0_0)=true:=decide_eq_true c4
     clear c4
     by_cases c5:(a0_0:Int).toNat≤281474976710656
     ·rw [if_pos c5] at H
      have c5b0:=eq_true c5
      have c5b1:decide ((a0_0:Int).toNat≤281474976710656)=true:=decide_eq_true c5
      clear c5
      obtain ⟨y158,hy158⟩:∃ y_:List Bool,y_=(List.replicate (a0_0:Int).toNat false):=⟨_,rfl⟩
      replace H:(if x3_1.length < 5864062014805 then (spec_paTable.l0 k1 (x3_1 ++ [y158]) (wrap64 (x4_1+1)) a0_0 l0_1) else (none))=some r:=by first | (rw [hy158];with_reducible exact H) | (have H2_:=(Option.bind_some _ _).symm.trans H;rw [hy158];with_reducible exact H2_) | (have H2_:=(Option.bind_some _ _).symm.trans H;with_reducible exact H2_) | with_reducible exact H | (rw [hy158];exact H) | exact H
      have Ny158:=zz31 hy158
      clear hy158
      by_cases c6:x3_1.length < 5864062014805
      ·rw [if_pos c6] at H
       have LMc6:=zz31 c6
       clear c6
       obtain ⟨y161,hy161⟩:∃ y_:List (List Bool),y_=(x3_1 ++ [y158]):=⟨_,rfl⟩
       replace H:(spec_paTable.l0 k1 y161 (wrap64 (x4_1+1)) a0_0 l0_1)=some r:=by first | (rw [hy161];with_reducible exact H) | (have H2_:=(Option.bind_some _ _).symm.trans H;rw [hy161];with_reducible exact H2_) | (have H2_:=(Option.bind_some _ _).symm.trans H;with_reducible exact H2_) | with_reducible exact H | (rw [hy161];exact H) | exact H
       have Ny161:=zz31 hy161
       clear hy161
       have H':=zz31 H
       clear H
       have hcz7_0:wr.cell? ⟨gb157,0,none⟩=some (.int .i64 a0_0):=(zz9 BK157.out 0).trans rfl
       have hcz7_1:wr.cell? ⟨gb157,1,none⟩=some (.slice A0_1 l0_1.length c0_1):=(zz9 BK157.out 1).trans rfl
       have hfz7_0:=zz10 BK157.out 0
       have hfz7_1:=zz10 BK157.out 1
       go_wp2_with (first | ((with_reducible refine gate_dst (N:=16) rfl ?_);refine Kd.R_make Kd.bool _ 4 rfl (N:=16) rfl 92 _ _ rfl a0_0 rfl rfl Try.underlying92 (.bool false) 1 info4 rfl (by decide) (by omega) false (ok:=fun _=>True) (okp:=fun _=>True) rfl (fun _ hk=>hk) trivial (zz29 (by first | (with_reducible assumption) | assumption)) (Nat.le_trans (Nat.mul_le_mul_right _ (zz29 (by first | (with_reducible assumption) | assumption):a0_0.toNat≤281474976710656)) (by omega)) (Below.refl _ _) (Nat.le_refl _) ?_;intro v159 w8 ho9 hb hg_ hnew_;clear hg_ hnew_;(first | rw [← Ny158.out] at ho9 | (simp only [Int.reduceToNat] at ho9;rw [← Ny158.out] at ho9));have n0_:=zz31 (Kd.S_elder' (by (with_reducible repeat (first | apply zz15 | apply zz16 | apply zz17));exact HO_3.out) (Kd.R_base ho9) hb);have n1_:=zz31 (Kd.R_lower ho9 (zz5 (by repeat first | exact HB.out | apply zz2 | apply zz0 | apply zz1 | refine zz3 ?_ GE157.out)));have n2_:=zz31 (zz11 (g:=gb157) (o:=.cells #[.int .i64 a0_0,.slice A0_1 l0_1.length c0_1] 30 (0,0)) (by (with_reducible repeat (first | refine zz6 ?_ _ | refine zz7 ?_ | refine zz8 ?_ _));exact BK157.out) hb);have n3_:=zz31 (zz4 (by repeat first | exact HB.out | apply zz2 | apply zz0 | apply zz1 | refine zz3 ?_ GE157.out) hb);clear HO_3;clear BK157;clear HB;have HO_3:=n0_;have HO160:=n1_;have BK157:=n2_;have HB:=n3_;clear n0_ n1_ n2_ n3_;clear hb ho9;obtain ⟨Ao11,co11,eo11⟩:=Kd.R_slice HO160.out;subst eo11) | ((with_reducible refine gate_builtin (b:=.append) (xs:=#[.tmp 13,.tmp 17]) rfl ?_);at_builtin;refine Kd.S_append (Kd.slice 4 Kd.bool) (w0:=w) w.heap.size rfl (.tmp 13) (.tmp 17) 64 92 (.slice none 0 0) 24 rfl Try.underlying64 info92 rfl (by decide) (by omega) u3 x3_1 y158 [.slice Ao11 y158.length co11] (fun _=>True) (fun k_=>some k_=(.slice Ao11 y158.length co11:Value).ownBlock) rfl rfl ?aP (fun k_ hk_=>((Kd.R_mono (ok':=fun k_=>((fun _=>True)) k_∧some k_ ≠ (u3:Value).ownBlock) (Kd.R_apart' (HO160.out) (Kd.S_typed HO_3.out) (by decide)) (fun k_ hk=>⟨trivial,hk.2⟩))).1 k_ hk_.symm) ?aF ?aO ?aB ?aS ?aL ?_;(case aP=>exact Kd.M_row (Kd.R_mono (Kd.R_tight rfl (Kd.R_mono (ok':=fun k_=>((fun _=>True)) k_∧some k_ ≠ (u3:Value).ownBlock) (Kd.R_apart' (HO160.out) (Kd.S_typed HO_3.out) (by decide)) (fun k_ hk=>⟨trivial,hk.2⟩))) (fun _ h_=>h_)));(case aB=>exact (by repeat first | exact HB.out | apply zz2 | apply zz0 | apply zz1 | refine zz3 ?_ GE157.out));(case aF=>exact (fun _ _=>trivial));(case aO=>exact (by (with_reducible repeat (first | apply zz15 | apply zz16 | apply zz17));exact Kd.S_mono HO_3.out (fun k_ hk=>⟨trivial,fun e_=>hk.2 e_⟩)));(case aS=>exact (zz5 (by repeat first | exact HB.out | apply zz2 | apply zz0 | apply zz1 | refine zz3 ?_ GE157.out)));(case aL=>have:=LMc6.out;omega);intro v162 w10 ho hb hg hat;rw [← Ny161.out] at ho;have n0_:=zz31 (blk_grown (g:=gb157) (o:=.cells #[.int .i64 a0_0,.slice A0_1 l0_1.length c0_1] 30 (0,0)) (by (with_reducible repeat (first | refine zz6 ?_ _ | refine zz7 ?_ | refine zz8 ?_ _));exact BK157.out) hg (Kd.S_ne HO_3.out BK157.out (by decide)));have n1_:=zz31 (hb);have n2_:=zz31 (ho);clear BK157;clear HB;clear HO_3;clear HO160;have BK157:=n0_;have HB:=n1_;have HO163:=n2_;clear n0_ n1_ n2_;clear ho hb hg hat))
       go_roundg k1
       case measure=>have:=HK1.out;omega
       case rel=>exact ⟨(y161),(wrap64 (x4_1+1)),(by first | rfl | (simp;done) | (simp [*];done)),H',⟨by have:=HK1.out;omega⟩,⟨by (with_reducible repeat (first | apply zz15 | apply zz16 | apply zz17));exact HO163.out⟩,⟨by (with_reducible repeat (first | refine zz6 ?_ _ | refine zz7 ?_ | refine zz8 ?_ _));exact BK157.out⟩,⟨by repeat first | exact HB.out | apply zz2 | apply zz0 | apply zz1 | refine zz3 ?_ GE157.out⟩⟩
      ·rw [if_neg c6] at H
       exact absurd H (by simp)
     ·rw [if_neg c5] at H
      exact absurd H (by simp)
    ·rw [if_neg c4] at H
     exact absurd H (by simp)
   ·rw [if_neg c3] at H
    have c3b0:decide (x4_1 < a0_0)=false:=decide_eq_false c3
    clear c3
    have H':=zz31 H
    clear H
    have hcz12_0:wr.cell? ⟨gb157,0,none⟩=some (.int .i64 a0_0):=(zz9 BK157.out 0).trans rfl
    have hcz12_1:wr.cell? ⟨gb157,1,none⟩=some (.slice A0_1 l0_1.length c0_1):=(zz9 BK157.out 1).trans rfl
    have hfz12_0:=zz10 BK157.out 0
    have hfz12_1:=zz10 BK157.out 1
    go_wp2
    go_loopg [22] k1 (fun kq v22 w'=>∃ (x3_2:List (List Bool)) (x22_2:Int),v22=.int .i64 x22_2∧Aside0 (spec_paTable.l1 kq x3_2 l0_1 (l0_1.length:Int) x22_2=some r)∧Aside0 (kq≤k1)∧Aside0 (Kd.S (Kd.slice 4 Kd.bool) 92 w' w.heap.size (fun _=>True) u3 x3_2)∧Aside0 (w'.heap[gb157]?=some (.cells #[.int .i64 a0_0,(.slice A0_1 l0_1.length c0_1)] 30 (0,0)))∧Aside0 (Below w.heap.size w w'))
    case atStart=>exact ⟨(x3_1),(0),(by first | rfl | (simp;done) | (simp [*];done)),H',⟨Nat.le_refl _⟩,⟨by (with_reducible repeat (first | apply zz15 | apply zz16 | apply zz17));exact HO_3.out⟩,⟨by (with_reducible repeat (first | refine zz6 ?_ _ | refine zz7 ?_ | refine zz8 ?_ _));exact BK157.out⟩,⟨by repeat first | exact HB.out | apply zz2 | apply zz0 | apply zz1 | refine zz3 ?_ GE157.out⟩⟩
    case round =>
     clear H'
     try clear p2
     try clear c3
     try clear c3b0
     try clear c4
     try clear c4b0
     try clear c4b1
     try clear c5
     try clear c5b0
     try clear c5b1
     try clear c6
     try clear p6
     try clear hcz12_0
     try clear hcz12_1
     try clear hcz7_0
     try clear hcz7_1
     try clear hfz12_0
     try clear hfz12_1
     try clear hfz7_0
     try clear hfz7_1
     try clear p2
     obtain ⟨x3_2,x22_2,rfl,HA,HK2,HO_3,BK157,HB⟩:=hrel
     cases gk with
     | zero=>exact absurd HA.out (by simp [spec_paTable.l1])
     | succ k2 =>
      have H:=HA.out
      clear HA
      simp only [spec_paTable.l1] at H
      by_cases c13:x22_2 < (l0_1.length:Int)
      ·rw [if_pos c13] at H
       have c13b0:decide (x22_2 < (l0_1.length:Int))=true:=decide_eq_true c13
       clear c13
       by_cases c14:0≤x22_2
       ·rw [if_pos c14] at H
        have c14b0:decide (0≤x22_2)=true:=decide_eq_true c14
        clear c14
        by_cases c15:x22_2 < (l0_1.length:Int)
        ·rw [if_pos c15] at H
         have c15b0:decide (x22_2 < (l0_1.length:Int))=true:=decide_eq_true c15
         clear c15
         by_cases c16:0≤((rd_T70 l0_1 x22_2).f0)
         ·rw [if_pos c16] at H
          have c16b0:decide (0≤((rd_T70 l0_1 x22_2).f0))=true:=decide_eq_true c16
          clear c16
          by_cases c17:((rd_T70 l0_1 x22_2).f0) < (x3_2.length:Int)
          ·rw [if_pos c17] at H
           have c17b0:decide (((rd_T70 l0_1 x22_2).f0) < (x3_2.length:Int))=true:=decide_eq_true c17
           clear c17
           by_cases c18:0≤((rd_T70 l0_1 x22_2).f1)
           ·rw [if_pos c18] at H
            have c18b0:decide (0≤((rd_T70 l0_1 x22_2).f1))=true:=decide_eq_true c18
            clear c18
            by_cases c19:((rd_T70 l0_1 x22_2).f1) < ((rd_L4 x3_2 ((rd_T70 l0_1 x22_2).f0)).length:Int)
            ·rw [if_pos c19] at H
             have c19b0:decide (((rd_T70 l0_1 x22_2).f1) < ((rd_L4 x3_2 ((rd_T70 l0_1 x22_2).f0)).length:Int))=true:=decide_eq_true c19
             clear c19
             obtain ⟨y167,hy167⟩:∃ y_:List Bool,y_=((rd_L4 x3_2 ((rd_T70 l0_1 x22_2).f0)).set (((rd_T70 l0_1 x22_2).f1):Int).toNat true):=⟨_,rfl⟩
             replace H:((some (x3_2.set (((rd_T70 l0_1 x22_2).f0):Int).toNat y167:List (List Bool))).bind fun y169=>(if ((rd_T70 l0_1 x22_2).f1) < (x3_2.length:Int) then (if ((rd_T70 l0_1 x22_2).f0) < ((rd_L4 y169 ((rd_T70 l0_1 x22_2).f1)).length:Int) then (spec_paTable.l1 k2 (y169.set (((rd_T70 l0_1 x22_2).f1):Int).toNat ((rd_L4 y169 ((rd_T70 l0_1 x22_2).f1)).set (((rd_T70 l0_1 x22_2).f0):Int).toNat true)) l0_1 (l0_1.length:Int) (wrap64 (x22_2+1))) else (none)) else (none)))=some r:=by first | (rw [hy167];with_reducible exact H) | (have H2_:=(Option.bind_some _ _).symm.trans H;rw [hy167];with_reducible exact H2_) | (have H2_:=(Option.bind_some _ _).symm.trans H;with_reducible exact H2_) | with_reducible exact H | (rw [hy167];exact H) | exact H
             have Ny167:=zz31 hy167
             clear hy167
             obtain ⟨y169,hy169⟩:∃ y_:List (List Bool),y_=(x3_2.set (((rd_T70 l0_1 x22_2).f0):Int).toNat y167):=⟨_,rfl⟩
             replace H:(if ((rd_T70 l0_1 x22_2).f1) < (x3_2.length:Int) then (if ((rd_T70 l0_1 x22_2).f0) < ((rd_L4 y169 ((rd_T70 l0_1 x22_2).f1)).length:Int) then (spec_paTable.l1 k2 (y169.set (((rd_T70 l0_1 x22_2).f1):Int).toNat ((rd_L4 y169 ((rd_T70 l0_1 x22_2).f1)).set (((rd_T70 l0_1 x22_2).f0):Int).toNat true)) l0_1 (l0_1.length:Int) (wrap64 (x22_2+1))) else (none)) else (none))=some r:=by first | (rw [hy169];with_reducible exact H) | (have H2_:=(Option.bind_some _ _).symm.trans H;rw [hy169];with_reducible exact H2_) | (have H2_:=(Option.bind_some _ _).symm.trans H;with_reducible exact H2_) | with_reducible exact H | (rw [hy169];exact H) | exact H
             have Ny169:=zz31 hy169
             clear hy169
             by_cases c21:((rd_T70 l0_1 x22_2).f1) < (x3_2.length:Int)
             ·rw [if_pos c21] at H
              have c21b0:decide (((rd_T70 l0_1 x22_2).f1) < (x3_2.length:Int))=true:=decide_eq_true c21
              clear c21
              by_cases c22:((rd_T70 l0_1 x22_2).f0) < ((rd_L4 y169 ((rd_T70 l0_1 x22_2).f1)).length:Int)
              ·rw [if_pos c22] at H
               have c22b0:decide (((rd_T70 l0_1 x22_2).f0) < ((rd_L4 y169 ((rd_T70 l0_1 x22_2).f1)).length:Int))=true:=decide_eq_true c22
               clear c22
               obtain ⟨y171,hy171⟩:∃ y_:List Bool,y_=((rd_L4 y169 ((rd_T70 l0_1 x22_2).f1)).set (((rd_T70 l0_1 x22_2).f0):Int).toNat true):=⟨_,rfl⟩
               replace H:(spec_paTable.l1 k2 (y169.set (((rd_T70 l0_1 x22_2).f1):Int).toNat y171) l0_1 (l0_1.length:Int) (wrap64 (x22_2+1)))=some r:=by first | (rw [hy171];with_reducible exact H) | (have H2_:=(Option.bind_some _ _).symm.trans H;rw [hy171];with_reducible exact H2_) | (have H2_:=(Option.bind_some _ _).symm.trans H;with_reducible exact H2_) | with_reducible exact H | (rw [hy171];exact H) | exact H
               have Ny171:=zz31 hy171
               clear hy171
               obtain ⟨y173,hy173⟩:∃ y_:List (List Bool),y_=(y169.set (((rd_T70 l0_1 x22_2).f1):Int).toNat y171):=⟨_,rfl⟩
               replace H:(spec_paTable.l1 k2 y173 l0_1 (l0_1.length:Int) (wrap64 (x22_2+1)))=some r:=by first | (rw [hy173];with_reducible exact H) | (have H2_:=(Option.bind_some _ _).symm.trans H;rw [hy173];with_reducible exact H2_) | (have H2_:=(Option.bind_some _ _).symm.trans H;with_reducible exact H2_) | with_reducible exact H | (rw [hy173];exact H) | exact H
               have Ny173:=zz31 hy173
               clear hy173
               have H':=zz31 H
               clear H
               have p164:0≤(x22_2:Int):=zz29 (by first | (with_reducible assumption) | assumption)
               have q164:x22_2 < (l0_1.length:Int):=zz29 (by first | (with_reducible assumption) | assumption)
               obtain ⟨ad164,e164,hx164_0,hx164_1⟩:=at_T70 HR0_1.out x22_2 p164 q164
               cases e164
               try replace hx164_0:=(HB.out.cell (World.block_lt_of_cell? w _ hx164_0)).trans hx164_0
               try replace hx164_1:=(HB.out.cell (World.block_lt_of_cell? w _ hx164_1)).trans hx164_1
               replace p164:=eq_true p164
               replace q164:=eq_true q164
               try go_wp2_with (first | ((with_reducible refine gate_dst (N:=6) rfl ?_);refine box_event ?hg (N:=6) ?hd (cs:=#[.int .i64 0,.int .i64 0]) (t:=70) ?hr ?_;(case hd=>rfl);(case hg=>rfl);(case hr=>first | (go_simp;done) | (go_simp;rfl));intro gb165 hg w24 hbox hb;have n0_:=zz31 (Kd.S_below (by (with_reducible repeat (first | apply zz15 | apply zz16 | apply zz17));exact HO_3.out) hb);have n1_:=zz31 (zz11 (g:=gb157) (o:=.cells #[.int .i64 a0_0,.slice (some ad164) l0_1.length c0_1] 30 (0,0)) (by (with_reducible repeat (first | refine zz6 ?_ _ | refine zz7 ?_ | refine zz8 ?_ _));exact BK157.out) hb);have n2_:=zz31 (zz4 (by repeat first | exact HB.out | apply zz2 | apply zz0 | apply zz1 | refine zz3 ?_ GE157.out) hb);have n3_:=zz31 (hbox);have n4_:=zz31 ((by rw [hg];exact (zz5 (by repeat first | exact HB.out | apply zz2 | apply zz0 | apply zz1 | refine zz3 ?_ GE157.out)):w.heap.size≤gb165));have n5_:=zz31 ((by rw [hg];exact (zz5 (by repeat first | exact HB.out | apply zz2 | apply zz0 | apply zz1 | refine zz3 ?_ GE157.out)):w.heap.size≤gb165));have n6_:=zz31 ((by rw [hg];exact Nat.ne_of_lt (blk_lt (g:=gb157) (o:=.cells #[.int .i64 a0_0,.slice (some ad164) l0_1.length c0_1] 30 (0,0)) (by (with_reducible repeat (first | refine zz6 ?_ _ | refine zz7 ?_ | refine zz8 ?_ _));exact BK157.out)):gb157 ≠ gb165));have n7_:=zz31 ((by rw [hg];exact Nat.ne_of_gt (blk_lt (g:=gb157) (o:=.cells #[.int .i64 a0_0,.slice (some ad164) l0_1.length c0_1] 30 (0,0)) (by (with_reducible repeat (first | refine zz6 ?_ _ | refine zz7 ?_ | refine zz8 ?_ _));exact BK157.out)):gb165 ≠ gb157));clear HO_3;clear BK157;clear HB;have HO_3:=n0_;have BK157:=n1_;have HB:=n2_;have BK165:=n3_;have GW165:=n4_;have GE165:=n5_;have NB157_165:=n6_;have NB165_157:=n7_;clear n0_ n1_ n2_ n3_ n4_ n5_ n6_ n7_;clear hb hbox hg;have hnb25:=NB165_157.out;have hnc25:=NB157_165.out;have hcz26_0:w24.cell? ⟨gb165,0,none⟩=some (.int .i64 0):=(zz9 BK165.out 0).trans rfl;have hcz26_1:w24.cell? ⟨gb165,1,none⟩=some (.int .i64 0):=(zz9 BK165.out 1).trans rfl;have hfz26_0:=zz10 BK165.out 0;have hfz26_1:=zz10 BK165.out 1))
               have n0_:Aside0 (Kd.S (Kd.slice 4 Kd.bool) 92 ((w24.setCell ⟨gb165,0,none⟩ (.int .i64 ((rd_T70 l0_1 x22_2).f0))).setCell ⟨gb165,1,none⟩ (.int .i64 ((rd_T70 l0_1 x22_2).f1))) w.heap.size (fun _=>True) u3 x3_2):=⟨by (with_reducible repeat (first | apply zz15 | apply zz16 | apply zz17));exact Kd.S_mono (Kd.S_far (p:=⟨gb165,1,none⟩) (Kd.S_far (p:=⟨gb165,0,none⟩) (Kd.S_types HO_3.out BK165.out (by decide)) (fun _ hk=>hk.2) (.int .i64 ((rd_T70 l0_1 x22_2).f0))) (fun _ hk=>hk.2) (.int .i64 ((rd_T70 l0_1 x22_2).f1))) (fun _ hk=>trivial)⟩
               have n1_:Aside0 (((w24.setCell ⟨gb165,0,none⟩ (.int .i64 ((rd_T70 l0_1 x22_2).f0))).setCell ⟨gb165,1,none⟩ (.int .i64 ((rd_T70 l0_1 x22_2).f1))).heap[gb157]?=some (.cells #[.int .i64 a0_0,.slice (some ad164) l0_1.length c0_1] 30 (0,0))):=⟨by (with_reducible repeat (first | refine zz6 ?_ _ | refine zz7 ?_ | refine zz8 ?_ _));refine blk_far ?_ NB157_165.out _;(with_reducible repeat (first | refine zz6 ?_ _ | refine zz7 ?_ | refine zz8 ?_ _));refine blk_far ?_ NB157_165.out _;(with_reducible repeat (first | refine zz6 ?_ _ | refine zz7 ?_ | refine zz8 ?_ _));exact BK157.out⟩
               have n2_:Aside0 (((w24.setCell ⟨gb165,0,none⟩ (.int .i64 ((rd_T70 l0_1 x22_2).f0))).setCell ⟨gb165,1,none⟩ (.int .i64 ((rd_T70 l0_1 x22_2).f1))).heap[gb165]?=some (.cells #[.int .i64 ((rd_T70 l0_1 x22_2).f0),.int .i64 ((rd_T70 l0_1 x22_2).f1)] 70 (0,0))):=⟨by (with_reducible repeat (first | refine zz6 ?_ _ | refine zz7 ?_ | refine zz8 ?_ _));refine blk_put (cs:=#[.int .i64 ((rd_T70 l0_1 x22_2).f0),.int .i64 0]) ?_ 1 _ rfl;(with_reducible repeat (first | refine zz6 ?_ _ | refine zz7 ?_ | refine zz8 ?_ _));refine blk_put (cs:=#[.int .i64 0,.int .i64 0]) ?_ 0 _ rfl;(with_reducible repeat (first | refine zz6 ?_ _ | refine zz7 ?_ | refine zz8 ?_ _));exact BK165.out⟩
               have n3_:Aside0 (Below w.heap.size w ((w24.setCell ⟨gb165,0,none⟩ (.int .i64 ((rd_T70 l0_1 x22_2).f0))).setCell ⟨gb165,1,none⟩ (.int .i64 ((rd_T70 l0_1 x22_2).f1)))):=⟨by repeat first | exact HB.out | apply zz2 | apply zz0 | apply zz1 | refine zz3 ?_ GE157.out | refine zz3 ?_ GE165.out⟩
               (try clear HO_3)
               (try clear BK157)
               (try clear BK165)
               (try clear HB)
               generalize ((w24.setCell ⟨gb165,0,none⟩ (.int .i64 ((rd_T70 l0_1 x22_2).f0))).setCell ⟨gb165,1,none⟩ (.int .i64 ((rd_T70 l0_1 x22_2).f1)))=w27 at n0_ n1_ n2_ n3_ ⊢
               have HO_3:=n0_
               have BK157:=n1_
               have BK165:=n2_
               have HB:=n3_
               clear n0_ n1_ n2_ n3_
               have n0_:=zz31 (zz17 HO_3.out)
               have n1_:=zz31 (zz7 BK157.out)
               have n2_:=zz31 (zz7 BK165.out)
               have n3_:=zz31 (zz1 HB.out)
               clear HO_3
               clear BK157
               clear BK165
               clear HB
               have HO_3:=n0_
               have BK157:=n1_
               have BK165:=n2_
               have HB:=n3_
               clear n0_ n1_ n2_ n3_
               obtain ⟨Ao29,co29,eo29⟩:=Kd.S_slice HO_3.out
               (first | subst eo29 | (injection eo29 with f1_ f2_ f3_;have f4_:=f1_.symm;have f5_:=f3_.symm;clear f1_ f2_ f3_;subst f4_;subst f5_))
               have p166:0≤(((rd_T70 l0_1 x22_2).f0):Int):=zz29 (by first | (with_reducible assumption) | assumption)
               have q166:((rd_T70 l0_1 x22_2).f0) < (x3_2.length:Int):=zz29 (by first | (with_reducible assumption) | assumption)
               obtain ⟨ad166,A166_0,c166_0,e166,hx166_0,hl166_0,hi166_0⟩:=at_L4 (Kd.S_reads' HO_3.out).2.2 ((rd_T70 l0_1 x22_2).f0) p166 q166
               cases e166
               obtain ⟨ce166,hce166,hMe166,hcc166⟩:=Kd.S_get HO_3.out [] ((rd_T70 l0_1 x22_2).f0) p166 (by first | exact q166 | exact zz29 (by first | (with_reducible assumption) | assumption) | (have e_:=(Kd.S_reads' HO_3.out).1;omega))
               obtain ⟨ve166_0,rfl,ge166_0⟩:=hMe166
               have hv166_0:=hcc166 0 _ rfl
               rw [Nat.add_zero,show ((Kd.slice 4 Kd.bool)).sz=1 from rfl,Nat.mul_one] at hv166_0
               replace hv166_0:=Option.some.inj (hv166_0.symm.trans hx166_0)
               rw [hv166_0] at ge166_0
               have HL166_0:=zz31 (show Kd.R Kd.bool 4 _ _ _ _ (rd_L4 x3_2 ((rd_T70 l0_1 x22_2).f0)) from ge166_0)
               clear hv166_0 ge166_0
               have HX166_0:=zz31 hx166_0
               clear hcc166 hce166
               have HR166_0:=zz31 hi166_0
               have HC166_0:=zz31 hl166_0
               clear hi166_0 hl166_0
               replace p166:=eq_true p166
               replace q166:=eq_true q166
               have p20:0≤(((rd_T70 l0_1 x22_2).f1):Int):=zz29 (by first | (with_reducible assumption) | assumption)
               have q20:(((rd_T70 l0_1 x22_2).f1):Int) < (((rd_L4 x3_2 ((rd_T70 l0_1 x22_2).f0)).length:Int):Int):=zz29 (by first | (with_reducible assumption) | assumption)
               obtain ⟨go20,co20,eo20,gb20,gl20,cl20,HG20⟩:=Kd.R_form HL166_0.out (by omega)
               (first | cases eo20 | (injection eo20 with ea_ en_ ec_;(first | subst ea_ | (injection ea_ with ea_;subst ea_));subst ec_;clear en_))
               have GB20:=zz31 gb20
               have GG20:=zz31 HG20
               clear gb20 gl20 HG20
               obtain ⟨hx20_0,hf20_0⟩:=Kd.R_celln false HL166_0.out (((rd_T70 l0_1 x22_2).f1):Int) p20 q20
               replace p20:=eq_true p20
               replace q20:=eq_true q20
               have hq30:(((rd_T70 l0_1 x22_2).f0):Int) < (x3_2.length:Int):=(by have h_:(((rd_T70 l0_1 x22_2).f0):Int) < ((x3_2.length:Int):Int):=zz29 (by first | (with_reducible assumption) | assumption);first | exact h_ | (have e_:=(Kd.S_reads' HO_3.out).1;omega) | simpa only [List.length_set,List.length_set] using h_)
               obtain ⟨oki30,ce30,hcl30,hM30,hcc30,hok30,hbk30⟩:=Kd.S_borrow HO_3.out [] (((rd_T70 l0_1 x22_2).f0):Int) (zz29 (by first | (with_reducible assumption) | assumption)) (by first | exact hq30 | (have e_:=(Kd.S_reads' HO_3.out).1;omega))
               obtain ⟨ve30_0,rfl,ge30_0⟩:=hM30
               have hv30:=hcc30 0 _ rfl
               rw [Nat.add_zero,show ((Kd.slice 4 Kd.bool)).sz=1 from rfl,Nat.mul_one] at hv30
               replace hv30:=Option.some.inj (hv30.symm.trans HX166_0.out)
               subst hv30
               clear hcc30 hcl30
               replace ge30_0:=(show Kd.R Kd.bool 4 _ _ _ _ (rd_L4 x3_2 ((rd_T70 l0_1 x22_2).f0)) from ge30_0)
               have HP30:=Kd.R_putg ge30_0 (((rd_T70 l0_1 x22_2).f1):Int) true
               rw [← Ny167.out] at HP30
               have HS30:=hbk30 HP30.2 (fun k_ e_=>by injection e_ with e_;subst e_;exact ge30_0.1 _ rfl) (x':=y167) (Kd.M_row HP30.1)
               rw [← Ny169.out] at HS30
               have HQ30:=zz31 HS30
               clear HP30 HS30 hbk30 hok30
               refine start_ (n:=9) (S:=fun w'=>w'.cell? ⟨gb165,0,none⟩=some (.int .i64 ((rd_T70 l0_1 x22_2).f0))∧w'.cell? ⟨gb165,1,none⟩=some (.int .i64 ((rd_T70 l0_1 x22_2).f1))∧w'.cell? (ad166.add (((rd_T70 l0_1 x22_2).f0)).toNat)=some (.slice (some ⟨go20,0,none⟩) (rd_L4 x3_2 ((rd_T70 l0_1 x22_2).f0)).length c166_0)) (ds:=[8]) #[F,F,F,F,F,F,F,F,F] (by kernel_rfl) rfl rfl ⟨(zz9 BK165.out 0).trans rfl,(zz9 BK165.out 1).trans rfl,hx166_0⟩ (fun hHeld=>?_);refine with_tabW spec_paTable.tab9 spec_paTable.bits9 (fun HT_ HW_=>?_)
               generalize w27.drew=w28 at HO_3 BK157 BK165 HB GG20 HL166_0 HQ30 HR166_0 HX166_0 hf20_0 hx166_0 hx20_0 hHeld ⊢
               refine pure_ (i:=0) (N:=some 26) (v:=?_) (a':=?_) #[T,F,F,F,F,F,F,F,F] rfl rfl (any_of HT_.out (by kernel_rfl)) (fun _ _ _ h=>h) (Or.inl ⟨by rfl,?_⟩) ?_ ?_
               rotate_left
               ·intro w'
                go_simp
                with_reducible rfl
               rotate_left
               ·simp only [Act.put,zz21,zz22,zz23,i64_w,i32_w]
                rfl
               refine pure_ (i:=1) (N:=some 27) (v:=?_) (a':=?_) #[T,T,F,F,F,F,F,F,F] rfl rfl (any_of HT_.out (by kernel_rfl)) (fun _ _ _ h=>h) (Or.inl ⟨by rfl,?_⟩) ?_ ?_
               rotate_left
               ·intro w'
                go_simp
                with_reducible rfl
               rotate_left
               ·simp only [Act.put,zz21,zz22,zz23,i64_w,i32_w]
                rfl
               refine pure_ (i:=5) (N:=some 31) (v:=?_) (a':=?_) #[T,T,F,F,F,T,F,F,F] rfl rfl (any_of HT_.out (by kernel_rfl)) (fun _ _ _ h=>h) (Or.inl ⟨by rfl,?_⟩) ?_ ?_
               rotate_left
               ·intro w'
                go_simp
                with_reducible rfl
               rotate_left
               ·simp only [Act.put,zz21,zz22,zz23,i64_w,i32_w]
                rfl
               refine take_ (i:=2) (N:=some 28) (v:=?_) (a':=?_) #[T,T,T,F,F,T,F,F,F] rfl rfl (take_ofW HT_.out HW_.out (by kernel_rfl)) (fun _ _ _ h=>h) (Or.inl ⟨by rfl,?_⟩) hHeld ?_ ?_
               rotate_left
               ·rintro w' ⟨s0,s1,s2⟩
                go_simp
                with_reducible rfl
               rotate_left
               ·simp only [Act.put,zz21,zz22,zz23,i64_w,i32_w]
                rfl
               refine pure_ (i:=3) (N:=some 29) (v:=?_) (a':=?_) #[T,T,T,T,F,T,F,F,F] rfl rfl (any_of HT_.out (by kernel_rfl)) (fun _ _ _ h=>h) (Or.inl ⟨by rfl,?_⟩) ?_ ?_
               rotate_left
               ·intro w'
                go_simp
                with_reducible rfl
               rotate_left
               ·simp only [Act.put,zz21,zz22,zz23,i64_w,i32_w]
                rfl
               refine take_ (i:=4) (N:=some 30) (v:=?_) (a':=?_) #[T,T,T,T,T,T,F,F,F] rfl rfl (take_ofW HT_.out HW_.out (by kernel_rfl)) (fun _ _ _ h=>h) (Or.inl ⟨by rfl,?_⟩) hHeld ?_ ?_
               rotate_left
               ·rintro w' ⟨s0,s1,s2⟩
                go_simp
                with_reducible rfl
               rotate_left
               ·simp only [Act.put,zz21,zz22,zz23,i64_w,i32_w]
                rfl
               refine take_ (i:=6) (N:=some 32) (v:=?_) (a':=?_) #[T,T,T,T,T,T,T,F,F] rfl rfl (take_ofW HT_.out HW_.out (by kernel_rfl)) (fun _ _ _ h=>h) (Or.inl ⟨by rfl,?_⟩) hHeld ?_ ?_
               rotate_left
               ·rintro w' ⟨s0,s1,s2⟩
                go_simp
                with_reducible rfl
               rotate_left
               ·simp only [Act.put,zz21,zz22,zz23,i64_w,i32_w]
                rfl
               refine pure_ (i:=7) (N:=some 33) (v:=?_) (a':=?_) #[T,T,T,T,T,T,T,T,F] rfl rfl (any_of HT_.out (by kernel_rfl)) (fun _ _ _ h=>h) (Or.inl ⟨by rfl,?_⟩) ?_ ?_
               rotate_left
               ·intro w'
                go_simp
                with_reducible rfl
               rotate_left
               ·simp only [Act.put,zz21,zz22,zz23,i64_w,i32_w]
                rfl
               refine last_ (i:=8) (N:=none) #[T,T,T,T,T,T,T,T,T] rfl rfl (one_of HT_.out (by kernel_rfl)) (by decide) (fun K hK=>?_)
               refine skip_ (w1:=?_) (by rfl) rfl ?_ ?_
               rotate_left
               ·go_simp
                rfl
               refine hK.out _ _ ?_
               clear hK K
               refine done_ (done_of HT_.out (by kernel_rfl)) ?_
               try go_wp2
               have n0_:Aside0 (Kd.S (Kd.slice 4 Kd.bool) 92 (w28.setCell ⟨go20,(((rd_T70 l0_1 x22_2).f1):Int).toNat,none⟩ (.bool true)) w.heap.size (fun _=>True) (.slice (some ad166) x3_2.length co29) y169):=⟨by (with_reducible repeat (first | apply zz15 | apply zz16 | apply zz17));exact HQ30.out⟩
               have n1_:Aside0 ((w28.setCell ⟨go20,(((rd_T70 l0_1 x22_2).f1):Int).toNat,none⟩ (.bool true)).heap[gb157]?=some (.cells #[.int .i64 a0_0,.slice (some ad164) l0_1.length c0_1] 30 (0,0))):=⟨by (with_reducible repeat (first | refine zz6 ?_ _ | refine zz7 ?_ | refine zz8 ?_ _));refine blk_far ?_ (by have h_:=Kd.R_ne HL166_0.out BK157.out (by decide);intro e_;exact h_ (by rw [e_];rfl)) _;(with_reducible repeat (first | refine zz6 ?_ _ | refine zz7 ?_ | refine zz8 ?_ _));exact BK157.out⟩
               have n2_:Aside0 ((w28.setCell ⟨go20,(((rd_T70 l0_1 x22_2).f1):Int).toNat,none⟩ (.bool true)).heap[gb165]?=some (.cells #[.int .i64 ((rd_T70 l0_1 x22_2).f0),.int .i64 ((rd_T70 l0_1 x22_2).f1)] 70 (0,0))):=⟨by (with_reducible repeat (first | refine zz6 ?_ _ | refine zz7 ?_ | refine zz8 ?_ _));refine blk_far ?_ (by have h_:=Kd.R_ne HL166_0.out BK165.out (by decide);intro e_;exact h_ (by rw [e_];rfl)) _;(with_reducible repeat (first | refine zz6 ?_ _ | refine zz7 ?_ | refine zz8 ?_ _));exact BK165.out⟩
               have n3_:Aside0 (Below w.heap.size w (w28.setCell ⟨go20,(((rd_T70 l0_1 x22_2).f1):Int).toNat,none⟩ (.bool true))):=⟨by repeat first | exact HB.out | apply zz2 | apply zz0 | apply zz1 | refine zz3 ?_ GB20.out | refine zz3 ?_ GE157.out | refine zz3 ?_ GE165.out⟩
               (try clear HO_3)
               (try clear BK157)
               (try clear BK165)
               (try clear HB)
               generalize (w28.setCell ⟨go20,(((rd_T70 l0_1 x22_2).f1):Int).toNat,none⟩ (.bool true))=w32 at n0_ n1_ n2_ n3_ ⊢
               have HO_3:=n0_
               have BK157:=n1_
               have BK165:=n2_
               have HB:=n3_
               clear n0_ n1_ n2_ n3_
               have n0_:=zz31 (zz17 HO_3.out)
               have n1_:=zz31 (zz7 BK157.out)
               have n2_:=zz31 (zz7 BK165.out)
               have n3_:=zz31 (zz1 HB.out)
               clear HO_3
               clear BK157
               clear BK165
               clear HB
               have HO_3:=n0_
               have BK157:=n1_
               have BK165:=n2_
               have HB:=n3_
               clear n0_ n1_ n2_ n3_
               have p170:0≤(((rd_T70 l0_1 x22_2).f1):Int):=zz29 (by first | (with_reducible assumption) | assumption)
               have q170:((rd_T70 l0_1 x22_2).f1) < (y169.length:Int):=(by have h_:(((rd_T70 l0_1 x22_2).f1):Int) < ((x3_2.length:Int):Int):=zz29 (by first | (with_reducible assumption) | assumption);first | (have e_:=(Kd.S_reads' HO_3.out).1;omega) | simpa only [Ny169.out,List.length_set] using h_)
               have ql170:((((rd_T70 l0_1 x22_2).f1):Int) < ((x3_2.length:Int):Int))=True:=eq_true (zz29 (by first | (with_reducible assumption) | assumption))
               obtain ⟨ad170,A170_0,c170_0,e170,hx170_0,hl170_0,hi170_0⟩:=at_L4 (Kd.S_reads' HO_3.out).2.2 ((rd_T70 l0_1 x22_2).f1) p170 q170
               obtain rfl:ad166=ad170:=(by injection e170)
               obtain ⟨ce170,hce170,hMe170,hcc170⟩:=Kd.S_get HO_3.out [] ((rd_T70 l0_1 x22_2).f1) p170 (by first | exact q170 | exact zz29 (by first | (with_reducible assumption) | assumption) | (have e_:=(Kd.S_reads' HO_3.out).1;omega))
               obtain ⟨ve170_0,rfl,ge170_0⟩:=hMe170
               have hv170_0:=hcc170 0 _ rfl
               rw [Nat.add_zero,show ((Kd.slice 4 Kd.bool)).sz=1 from rfl,Nat.mul_one] at hv170_0
               replace hv170_0:=Option.some.inj (hv170_0.symm.trans hx170_0)
               rw [hv170_0] at ge170_0
               have HL170_0:=zz31 (show Kd.R Kd.bool 4 _ _ _ _ (rd_L4 y169 ((rd_T70 l0_1 x22_2).f1)) from ge170_0)
               clear hv170_0 ge170_0
               have HX170_0:=zz31 hx170_0
               clear hcc170 hce170
               have HR170_0:=zz31 hi170_0
               have HC170_0:=zz31 hl170_0
               clear hi170_0 hl170_0
               replace p170:=eq_true p170
               replace q170:=eq_true q170
               have p23:0≤(((rd_T70 l0_1 x22_2).f0):Int):=zz29 (by first | (with_reducible assumption) | assumption)
               have q23:(((rd_T70 l0_1 x22_2).f0):Int) < (((rd_L4 y169 ((rd_T70 l0_1 x22_2).f1)).length:Int):Int):=zz29 (by first | (with_reducible assumption) | assumption)
               obtain ⟨go23,co23,eo23,gb23,gl23,cl23,HG23⟩:=Kd.R_form HL170_0.out (by omega)
               (first | cases eo23 | (injection eo23 with ea_ en_ ec_;(first | subst ea_ | (injection ea_ with ea_;subst ea_));subst ec_;clear en_))
               have GB23:=zz31 gb23
               have GG23:=zz31 HG23
               clear gb23 gl23 HG23
               obtain ⟨hx23_0,hf23_0⟩:=Kd.R_celln false HL170_0.out (((rd_T70 l0_1 x22_2).f0):Int) p23 q23
               replace p23:=eq_true p23
               replace q23:=eq_true q23
               have hq34:(((rd_T70 l0_1 x22_2).f1):Int) < (y169.length:Int):=(by have h_:(((rd_T70 l0_1 x22_2).f1):Int) < ((x3_2.length:Int):Int):=zz29 (by first | (with_reducible assumption) | assumption);first | exact h_ | (have e_:=(Kd.S_reads' HO_3.out).1;omega) | simpa only [Ny169.out,List.length_set] using h_)
               obtain ⟨oki34,ce34,hcl34,hM34,hcc34,hok34,hbk34⟩:=Kd.S_borrow HO_3.out [] (((rd_T70 l0_1 x22_2).f1):Int) (zz29 (by first | (with_reducible assumption) | assumption)) (by first | exact hq34 | (have e_:=(Kd.S_reads' HO_3.out).1;omega))
               obtain ⟨ve34_0,rfl,ge34_0⟩:=hM34
               have hv34:=hcc34 0 _ rfl
               rw [Nat.add_zero,show ((Kd.slice 4 Kd.bool)).sz=1 from rfl,Nat.mul_one] at hv34
               replace hv34:=Option.some.inj (hv34.symm.trans HX170_0.out)
               subst hv34
               clear hcc34 hcl34
               replace ge34_0:=(show Kd.R Kd.bool 4 _ _ _ _ (rd_L4 y169 ((rd_T70 l0_1 x22_2).f1)) from ge34_0)
               have HP34:=Kd.R_putg ge34_0 (((rd_T70 l0_1 x22_2).f0):Int) true
               rw [← Ny171.out] at HP34
               have HS34:=hbk34 HP34.2 (fun k_ e_=>by injection e_ with e_;subst e_;exact ge34_0.1 _ rfl) (x':=y171) (Kd.M_row HP34.1)
               rw [← Ny173.out] at HS34
               have HQ34:=zz31 HS34
               clear HP34 HS34 hbk34 hok34
               refine start_ (n:=9) (S:=fun w'=>w'.cell? ⟨gb165,0,none⟩=some (.int .i64 ((rd_T70 l0_1 x22_2).f0))∧w'.cell? ⟨gb165,1,none⟩=some (.int .i64 ((rd_T70 l0_1 x22_2).f1))∧w'.cell? (ad166.add (((rd_T70 l0_1 x22_2).f1)).toNat)=some (.slice (some ⟨go23,0,none⟩) (rd_L4 y169 ((rd_T70 l0_1 x22_2).f1)).length c170_0)) (ds:=[8]) #[F,F,F,F,F,F,F,F,F] (by kernel_rfl) rfl rfl ⟨(zz9 BK165.out 0).trans rfl,(zz9 BK165.out 1).trans rfl,hx170_0⟩ (fun hHeld=>?_);refine with_tabW spec_paTable.tab10 spec_paTable.bits10 (fun HT_ HW_=>?_)
               generalize w32.drew=w33 at HO_3 BK157 BK165 HB GG23 HL170_0 HQ30 HQ34 HR170_0 HX170_0 hf23_0 hx170_0 hx23_0 hHeld ⊢
               refine pure_ (i:=0) (N:=some 34) (v:=?_) (a':=?_) #[T,F,F,F,F,F,F,F,F] rfl rfl (any_of HT_.out (by kernel_rfl)) (fun _ _ _ h=>h) (Or.inl ⟨by rfl,?_⟩) ?_ ?_
               rotate_left
               ·intro w'
                go_simp
                with_reducible rfl
               rotate_left
               ·simp only [Act.put,zz21,zz22,zz23,i64_w,i32_w]
                rfl
               refine pure_ (i:=1) (N:=some 35) (v:=?_) (a':=?_) #[T,T,F,F,F,F,F,F,F] rfl rfl (any_of HT_.out (by kernel_rfl)) (fun _ _ _ h=>h) (Or.inl ⟨by rfl,?_⟩) ?_ ?_
               rotate_left
               ·intro w'
                go_simp
                with_reducible rfl
               rotate_left
               ·simp only [Act.put,zz21,zz22,zz23,i64_w,i32_w]
                rfl
               refine pure_ (i:=5) (N:=some 39) (v:=?_) (a':=?_) #[T,T,F,F,F,T,F,F,F] rfl rfl (any_of HT_.out (by kernel_rfl)) (fun _ _ _ h=>h) (Or.inl ⟨by rfl,?_⟩) ?_ ?_
               rotate_left
               ·intro w'
                go_simp
                with_reducible rfl
               rotate_left
               ·simp only [Act.put,zz21,zz22,zz23,i64_w,i32_w]
                rfl
               refine take_ (i:=2) (N:=some 36) (v:=?_) (a':=?_) #[T,T,T,F,F,T,F,F,F] rfl rfl (take_ofW HT_.out HW_.out (by kernel_rfl)) (fun _ _ _ h=>h) (Or.inl ⟨by rfl,?_⟩) hHeld ?_ ?_
               rotate_left
               ·rintro w' ⟨s0,s1,s2⟩
                go_simp
                with_reducible rfl
               rotate_left
               ·simp only [Act.put,zz21,zz22,zz23,i64_w,i32_w]
                rfl
               refine pure_ (i:=3) (N:=some 37) (v:=?_) (a':=?_) #[T,T,T,T,F,T,F,F,F] rfl rfl (any_of HT_.out (by kernel_rfl)) (fun _ _ _ h=>h) (Or.inl ⟨by rfl,?_⟩) ?_ ?_
               rotate_left
               ·intro w'
                go_simp
                with_reducible rfl
               rotate_left
               ·simp only [Act.put,zz21,zz22,zz23,i64_w,i32_w]
                rfl
               refine take_ (i:=4) (N:=some 38) (v:=?_) (a':=?_) #[T,T,T,T,T,T,F,F,F] rfl rfl (take_ofW HT_.out HW_.out (by kernel_rfl)) (fun _ _ _ h=>h) (Or.inl ⟨by rfl,?_⟩) hHeld ?_ ?_
               rotate_left
               ·rintro w' ⟨s0,s1,s2⟩
                go_simp
                with_reducible rfl
               rotate_left
               ·simp only [Act.put,zz21,zz22,zz23,i64_w,i32_w]
                rfl
               refine take_ (i:=6) (N:=some 40) (v:=?_) (a':=?_) #[T,T,T,T,T,T,T,F,F] rfl rfl (take_ofW HT_.out HW_.out (by kernel_rfl)) (fun _ _ _ h=>h) (Or.inl ⟨by rfl,?_⟩) hHeld ?_ ?_
               rotate_left
               ·rintro w' ⟨s0,s1,s2⟩
                go_simp
                with_reducible rfl
               rotate_left
               ·simp only [Act.put,zz21,zz22,zz23,i64_w,i32_w]
                rfl
               refine pure_ (i:=7) (N:=some 41) (v:=?_) (a':=?_) #[T,T,T,T,T,T,T,T,F] rfl rfl (any_of HT_.out (by kernel_rfl)) (fun _ _ _ h=>h) (Or.inl ⟨by rfl,?_⟩) ?_ ?_
               rotate_left
               ·intro w'
                go_simp
                with_reducible rfl
               rotate_left
               ·simp only [Act.put,zz21,zz22,zz23,i64_w,i32_w]
                rfl
               refine last_ (i:=8) (N:=none) #[T,T,T,T,T,T,T,T,T] rfl rfl (one_of HT_.out (by kernel_rfl)) (by decide) (fun K hK=>?_)
               refine skip_ (w1:=?_) (by rfl) rfl ?_ ?_
               rotate_left
               ·go_simp
                rfl
               refine hK.out _ _ ?_
               clear hK K
               refine done_ (done_of HT_.out (by kernel_rfl)) ?_
               try go_wp2
               go_roundg k2
               case measure=>have:=HK1.out;have:=HK2.out;omega
               case rel=>exact ⟨(y173),(wrap64 (x22_2+1)),(by first | rfl | (simp;done) | (simp [*];done)),H',⟨by have:=HK1.out;have:=HK2.out;omega⟩,⟨by (with_reducible repeat (first | apply zz15 | apply zz16 | apply zz17));exact HQ34.out⟩,⟨by (with_reducible repeat (first | refine zz6 ?_ _ | refine zz7 ?_ | refine zz8 ?_ _));refine blk_far ?_ (by have h_:=Kd.R_ne HL170_0.out BK157.out (by decide);intro e_;exact h_ (by rw [e_];rfl)) _;(with_reducible repeat (first | refine zz6 ?_ _ | refine zz7 ?_ | refine zz8 ?_ _));exact BK157.out⟩,⟨by repeat first | exact HB.out | apply zz2 | apply zz0 | apply zz1 | refine zz3 ?_ GB23.out | refine zz3 ?_ GE157.out | refine zz3 ?_ GE165.out⟩⟩
              ·rw [if_neg c22] at H
               exact absurd H (by simp)
             ·rw [if_neg c21] at H
              exact absurd H (by simp)
            ·rw [if_neg c19] at H
             exact absurd H (by simp)
           ·rw [if_neg c18] at H
            exact absurd H (by simp)
          ·rw [if_neg c17] at H
           exact absurd H (by simp)
         ·rw [if_neg c16] at H
          exact absurd H (by simp)
        ·rw [if_neg c15] at H
         exact absurd H (by simp)
       ·rw [if_neg c14] at H
        exact absurd H (by simp)
      ·rw [if_neg c13] at H
       have c13b0:decide (x22_2 < (l0_1.length:Int))=false:=decide_eq_false c13
       clear c13
       obtain rfl:=Option.some.inj H
       go_wp2
       go_ret
       exact ⟨_,by first | rfl | (simp [errW_none,errW_some] <;> rfl) | (simp [*,errW_none,errW_some] <;> rfl),by (with_reducible repeat (first | apply zz15 | apply zz16 | apply zz17));exact HO_3.out,by repeat first | exact HB.out | apply zz2 | apply zz0 | apply zz1 | refine zz3 ?_ GE157.out⟩

/-! ### spec_paRename: function 49 (a contract of our own) -/
def rn1 (q:List Int) (T:List (List Bool)) (a:Nat):Nat→Nat→List (List Bool)→Option (List (List Bool))
 | 0,_,O=>some O
 | d+1,b,O=>if ((0≤rd q (a:Int)∧rd q (a:Int) < (O.length:Int))∧(0≤rd q (b:Int)∧rd q (b:Int) < ((rd_L4 O (rd q (a:Int))).length:Int)))∧a < q.length∧b < q.length∧b < (rd_L4 T (a:Int)).length then
   rn1 q T a d (b+1) (O.set (rd q (a:Int)).toNat ((rd_L4 O (rd q (a:Int))).set (rd q (b:Int)).toNat (rdOf false (rd_L4 T (a:Int)) (b:Int)))) else none
def rn0 (q:List Int) (T:List (List Bool)):Nat→Nat→List (List Bool)→Option (List (List Bool))
 | 0,_,O=>some O
 | d+1,a,O=>(rn1 q T a T.length 0 O).bind fun O'=>rn0 q T d (a+1) O'
def spec_paRename.f (k:Nat) (a0_0:Int) (l0_1:List (S70)) (l1:List Int):Option (Int × List (S70)) :=
 (spec_paTable.f k a0_0 l0_1).bind fun T=>if T.length≤1000 then (spec_paTable.f k a0_0 []).bind fun O=>(rn0 l1 T T.length 0 O).bind fun O'=>spec_paOf.f k O' else none
theorem spec_paRename.mono:∀ a0 a1 a2 k,LeO (spec_paRename.f k a0 a1 a2) (spec_paRename.f (k+1) a0 a1 a2):=by
 intro a0 a1 a2 k
 unfold spec_paRename.f
 exact LeO.bind (spec_paTable.mono _ _ _) fun T=>LeO.ite (LeO.bind (spec_paTable.mono _ _ _) fun O=>LeO.bind (LeO.refl _) fun O'=>spec_paOf.mono _ _) (LeO.none _)
set_option maxHeartbeats 400000 in
set_option maxRecDepth 100000 in
theorem spec_paRename.calls (k:Nat) (a0_0:Int) (A0_1:Option Addr) (c0_1:Nat) (l0_1:List (S70)) (A1:Option Addr) (c1:Nat) (l1:List Int) (r1:Int) (r2:List (S70)) (w:World) (hr0_1:Kd.C k70 w A0_1 l0_1.length l0_1) (hc0_1:l0_1.length≤c0_1) (hr1:Kd.C (Kd.int .i64) w A1 l1.length l1) (hc1:l1.length≤c1) (h:spec_paRename.f k a0_0 l0_1 l1=some (r1,r2)) :
  Calls Try.prog 49 #[.agg #[.int .i64 a0_0,.slice A0_1 l0_1.length c0_1],.slice A1 l1.length c1] w fun e w'=>∃ v1_:Value,e=.returned (.agg #[.int .i64 r1,v1_])∧Kd.R k70 70 w' w.heap.size (fun _=>True) v1_ r2∧Below w.heap.size w w':=by
 have hu:=Try.underlying30
 unfold spec_paRename.f at h
 obtain ⟨T,hT,h⟩:=zz30.1 h
 by_cases hTl:T.length≤1000
 case neg=>rw [if_neg hTl] at h;exact absurd h (by simp)
 rw [if_pos hTl] at h
 obtain ⟨O,hO,h⟩:=zz30.1 h
 obtain ⟨O',hrn,h⟩:=zz30.1 h
 have HT:=zz31 hT
 have HTL:=zz31 hTl
 have HO:=zz31 hO
 have HRN:=zz31 hrn
 have HOF:=zz31 h
 have HCC:=zz31 hc0_1
 have HC:=zz31 hr0_1
 have HN:=zz31 hr1
 clear hT hTl hO hrn h hc0_1 hr0_1 hr1
 go_enter Try.func49,Try.ntmps49
 go_wp2_with (first | ((with_reducible refine gate_dst (N:=2) rfl ?_);refine box_event ?hg (N:=2) ?hd (cs:=#[.int .i64 a0_0,.slice A0_1 l0_1.length c0_1]) (t:=30) ?hr ?_;(case hd=>rfl);(case hg=>rfl);(case hr=>first | (go_simp;done) | (go_simp;rfl));intro gb hg w2 hbox hb;have HX:=zz31 hbox;have HB:=zz31 (zz4 (w:=w) (by repeat (first | exact Below.refl _ _ | apply zz0 | apply below_drew | apply zz2)) hb);have HGB:=zz31 (show w.heap.size≤gb from by rw [hg];exact Nat.le_refl _);clear hbox hb hg) | ((with_reducible refine gate_dst (N:=4) rfl ?_);refine box_event ?hg (N:=4) ?hd (cs:=#[.int .i64 0,.slice none 0 0]) (t:=30) ?hr ?_;(case hd=>rfl);(case hg=>rfl);(case hr=>first | (go_simp;done) | (go_simp;rfl));intro gr hg w3 hbox hb;have HY:=zz31 hbox;have HX3:=zz31 (zz11 HX.out hb);have HGR:=zz31 (show w.heap.size≤gr from by rw [hg];exact HB.out.size);have HB3:=zz31 (zz4 HB.out hb);have HC3:=zz31 (Kd.C_below HC.out HB3.out);have f1:=zz9 HX3.out 0;have f2:=zz9 HX3.out 1;simp only [List.getElem?_toArray,List.getElem?_cons_zero,List.getElem?_cons_succ] at f1 f2;clear hbox hb hg) | (go_at_call 43;(with_reducible refine (spec_paTable.calls k a0_0 A0_1 c0_1 l0_1 T w3 HC3.out HCC.out HT.out).mono ?_);rintro e w4 ⟨v4,rfl,ho,hb⟩;obtain ⟨A4,c4,rfl⟩:=Kd.S_slice ho;have HT4:=zz31 (Kd.S_reads' ho).2.2;have HX4:=zz31 (zz11 HX3.out hb);have HY4:=zz31 (zz11 HY.out hb);have HB4:=zz31 (zz4 HB3.out hb);have HN4:=zz31 (Kd.C_below HN.out HB4.out);clear f1 f2;have f1:=zz9 HX4.out 0;have f2:=zz9 HX4.out 1;simp only [List.getElem?_toArray,List.getElem?_cons_zero,List.getElem?_cons_succ] at f1 f2;clear ho hb) | (go_at_call 43;refine (spec_paTable.calls k a0_0 none 0 [] O w4 (Kd.C_nil _ _) (Nat.le_refl _) HO.out).mono ?_;rintro e w5 ⟨v5,rfl,ho,hb⟩;obtain ⟨A5,c5,rfl⟩:=Kd.S_slice ho;have HO5:=zz31 ho;have HB5:=zz31 hb;clear f1 f2 ho hb))
 go_loopg [17] T.length (fun gg v17 wr=>∃ (a:Nat) (O1:List (List Bool)),a≤T.length∧T.length - a≤gg∧v17=.int .i64 a∧Aside0 (rn0 l1 T (T.length - a) a O1=some O')∧Aside0 (O1.length=O.length)∧Aside0 (Kd.S (Kd.slice 4 Kd.bool) 92 wr w4.heap.size (fun _=>True) (.slice A5 O.length c5) O1)∧Aside0 (Below w4.heap.size w4 wr))
 case atStart=>exact ⟨0,O,Nat.zero_le _,Nat.le_refl _,rfl,HRN,⟨rfl⟩,⟨(by (with_reducible repeat (first | apply zz16 | apply zz17));exact HO5.out)⟩,⟨(by repeat (first | exact HB5.out | apply zz0 | apply below_drew))⟩⟩
 case round =>
  obtain ⟨a,O1,hal,hag,rfl,HR,HL,HS,HBr⟩:=hrel
  have hT1:=HTL.out
  by_cases hlt:a < T.length
  ·have hltz:(a:Int) < (T.length:Int):=by omega
   obtain ⟨d,hd⟩:∃ d,T.length - a=d+1:=⟨T.length - a - 1,by omega⟩
   have hd2:T.length - (a+1)=d:=by omega
   have hr:=HR.out
   rw [hd,rn0] at hr
   obtain ⟨O3,hr1,hr0⟩:=zz30.1 hr
   have HR1:=zz31 hr1
   have HR0:=zz31 hr0
   clear hr hr1 hr0
   go_wp2
   go_loopg [22] T.length (fun gg v22 wr=>∃ (b:Nat) (O2:List (List Bool)),b≤T.length∧T.length - b≤gg∧v22=.int .i64 b∧Aside0 (rn1 l1 T a (T.length - b) b O2=some O3)∧Aside0 (O2.length=O.length)∧Aside0 (Kd.S (Kd.slice 4 Kd.bool) 92 wr w4.heap.size (fun _=>True) (.slice A5 O.length c5) O2)∧Aside0 (Below w4.heap.size w4 wr))
   case atStart=>exact ⟨0,O1,Nat.zero_le _,Nat.le_refl _,rfl,HR1,HL,⟨(by (with_reducible repeat (first | apply zz16 | apply zz17));exact HS.out)⟩,⟨(by repeat (first | exact HBr.out | apply zz0 | apply below_drew))⟩⟩
   case round =>
    obtain ⟨b,O2,hbl,hbg,rfl,HR,HL,HS,HBr⟩:=hrel
    by_cases hltb:b < T.length
    ·have hltbz:(b:Int) < (T.length:Int):=by omega
     obtain ⟨d2,hd3⟩:∃ d2,T.length - b=d2+1:=⟨T.length - b - 1,by omega⟩
     have hd4:T.length - (b+1)=d2:=by omega
     have hr:=HR.out
     rw [hd3,rn1] at hr
     by_cases hc:((0≤rd l1 (a:Int)∧rd l1 (a:Int) < (O2.length:Int))∧(0≤rd l1 (b:Int)∧rd l1 (b:Int) < ((rd_L4 O2 (rd l1 (a:Int))).length:Int)))∧a < l1.length∧b < l1.length∧b < (rd_L4 T (a:Int)).length
     case neg=>rw [if_neg hc] at hr;exact absurd hr (by simp)
     rw [if_pos hc] at hr
     have HR2:=zz31 hr
     clear hr
     obtain ⟨⟨⟨hxa0,hxa1⟩,hxb0,hxb1⟩,haq,hbq,hbT⟩:=hc
     have hxa2:rd l1 (a:Int) < (O.length:Int):=by rw [← HL.out];exact hxa1
     have HNr:=zz31 (Kd.C_below HN4.out HBr.out)
     have HTr:=zz31 (Kd.C_below HT4.out HBr.out)
     obtain ⟨adA,eA,hxA⟩:=Kd.at_int HNr.out (a:Int) (by omega) (by omega)
     obtain ⟨adB,eB,hxB⟩:=Kd.at_int HNr.out (b:Int) (by omega) (by omega)
     subst eA
     injection eB with eB
     subst eB
     obtain ⟨adT,AT,cT,eT,hxT,hlT,hiT⟩:=at_L4 HTr.out (a:Int) (by omega) (by omega)
     subst eT
     obtain ⟨adR,eR,hxR⟩:=Kd.at_bool hiT (b:Int) (by omega) (by omega)
     subst eR
     obtain ⟨adO,AO,cO,eO,hxO,hlO,hiO⟩:=at_L4 (Kd.S_reads' HS.out).2.2 (rd l1 (a:Int)) hxa0 hxa1
     subst eO
     obtain ⟨oki,ce,hcl,hM,hcc,hok,hbk⟩:=Kd.S_borrow HS.out [] (rd l1 (a:Int)) hxa0 hxa2
     obtain ⟨ve,rfl,ge⟩:=hM
     have hv:=hcc 0 _ rfl
     rw [Nat.add_zero,show ((Kd.slice 4 Kd.bool)).sz=1 from rfl,Nat.mul_one] at hv
     replace hv:=Option.some.inj (hv.symm.trans hxO)
     subst hv
     clear hcc hcl
     replace ge:=(show Kd.R Kd.bool 4 _ _ _ _ (rd_L4 O2 (rd l1 (a:Int))) from ge)
     obtain ⟨go,co,eo,gb1,gl1,cl1,HG1⟩:=Kd.R_form ge (by omega)
     (first | cases eo | (injection eo with ea_ en_ ec_;(first | subst ea_ | (injection ea_ with ea_;subst ea_));subst ec_;clear en_))
     have hln:(rd_L4 O2 (rd l1 (a:Int))).length=(rd_L4 O2 (rd l1 (a:Int))).length:=rfl
     obtain ⟨hxS,hfS⟩:=Kd.R_celln false ge (rd l1 (b:Int)) hxb0 hxb1
     obtain ⟨bv,hbv⟩:∃ bv,bv=rdOf false (rd_L4 T (a:Int)) (b:Int):=⟨_,rfl⟩
     obtain ⟨xa,hxa⟩:∃ xa,xa=rd l1 (a:Int):=⟨_,rfl⟩
     obtain ⟨xb,hxb⟩:∃ xb,xb=rd l1 (b:Int):=⟨_,rfl⟩
     obtain ⟨nR,hnR⟩:∃ nR,nR=(rd_L4 O2 xa).length:=⟨_,rfl⟩
     obtain ⟨nT,hnT⟩:∃ nT,nT=(rd_L4 T (a:Int)).length:=⟨_,rfl⟩
     have HP:=Kd.R_putg ge (rd l1 (b:Int)) bv
     have HQ:=zz31 (hbk HP.2 (fun k_ e_=>by injection e_ with e_;subst e_;exact ge.1 _ rfl) (Kd.M_row HP.1))
     have HR2':=HR2
     simp only [← hbv,← hxa,← hxb] at HR2' HQ hxS hfS hxA hxO hxa0 hxa1 hxa2 hxb1 hxB hxb0 hxR
     simp only [← hnR,← hnT] at hxb1 hxO hxT hbT
     have HGB1:=zz31 gb1
     clear HP hbk hok ge HG1 HR2 hiT hiO hlO hlT hxa hxb hnR hnT hbv gb1 gl1
     have q1:=eq_true hxa0
     have q2:=eq_true hxa2
     have q3:=eq_true hxb0
     have q4:=eq_true hxb1
     have q5:(a:Int) < (l1.length:Int):=by omega
     have q6:(b:Int) < (l1.length:Int):=by omega
     have q7:(b:Int) < (nT:Int):=by omega
     go_upto_region 9 with (fail)
     simp only [Int.toNat_natCast] at hxA hxB hxR hxT
     go_still_tail 19,(by kernel_rfl)
     change wpList _ _ _ _ _ wr.drew
     have HQ2:Aside0 (Kd.S (Kd.slice 4 Kd.bool) 92 (wr.drew.setCell ⟨go,xb.toNat,none⟩ (.bool bv)) w4.heap.size (fun _=>True) (.slice (some adO) O.length c5) (O2.set xa.toNat ((rd_L4 O2 xa).set xb.toNat bv))):=⟨zz17 HQ.out⟩
     have HB2:Aside0 (Below w4.heap.size w4 (wr.drew.setCell ⟨go,xb.toNat,none⟩ (.bool bv))):=⟨zz3 (by repeat (first | exact HBr.out | apply zz0 | apply below_drew)) HGB1.out⟩
     have hfS2:wr.drew.frozen? ⟨go,xb.toNat,none⟩=false:=hfS
     have hxS2:wr.drew.cell? ⟨go,xb.toNat,none⟩=some (.bool (rdOf false (rd_L4 O2 xa) xb)):=hxS
     clear HQ hxS hfS hxA hxB hxR hxO hxT
     generalize wr.drew=wd at HQ2 HB2 hfS2 hxS2 ⊢
     go_wp2
     go_roundg (T.length - (b+1))
     case measure=>omega
     case rel=>exact ⟨b+1,O2.set xa.toNat ((rd_L4 O2 xa).set xb.toNat bv),by omega,by omega,by go_num,⟨by rw [hd4];exact HR2'.out⟩,⟨by rw [List.length_set];exact HL.out⟩,⟨(by (with_reducible repeat (first | apply zz16 | apply zz17));exact HQ2.out)⟩,⟨(by repeat (first | exact HB2.out | apply zz0 | apply below_drew))⟩⟩
    ·have hltbz:¬ (b:Int) < (T.length:Int):=by omega
     have hr:=HR.out
     rw [show T.length - b=0 by omega,rn1] at hr
     injection hr with hr
     subst hr
     go_wp2
     go_roundg (T.length - (a+1))
     case measure=>omega
     case rel=>exact ⟨a+1,O2,by omega,by omega,by go_num,⟨by rw [hd2];exact HR0.out⟩,HL,⟨(by (with_reducible repeat (first | apply zz16 | apply zz17));exact HS.out)⟩,⟨(by repeat (first | exact HBr.out | apply zz0 | apply below_drew))⟩⟩
  ·have hltz:¬ (a:Int) < (T.length:Int):=by omega
   have hr:=HR.out
   rw [show T.length - a=0 by omega,rn0] at hr
   injection hr with hr
   subst hr
   have HYr:=zz31 (zz11 HY4.out HBr.out)
   have HBw:Aside0 (Below w.heap.size w wr):=⟨HB4.out.trans (HBr.out.mono HB4.out.size)⟩
   have HCO:=zz31 (Kd.S_reads' HS.out).2.2
   have HCc:=zz31 (Kd.S_reads' HS.out).2.1
   rw [← HL.out] at HCc
   go_wp2_with (first | (go_at_call 42;rw [← HL.out];refine (spec_paOf.calls k A5 c5 O1 r1 r2 _ ?_ HCc.out HOF.out).mono ?_;(repeat (first | exact HCO.out | (with_reducible refine zz19 ?_ _) | (with_reducible refine zz20 ?_)));rintro e' w6 ⟨v6,rfl,ho,hb⟩;obtain ⟨A6,c6,rfl⟩:=Kd.R_slice ho;have HR6:=zz31 (Kd.R_lower ho HBw.out.size);have HB6:=zz31 (zz4 HBw.out hb);have HY6:=zz31 (zz11 HYr.out hb);have g1:=zz9 HY6.out 0;have g2:=zz9 HY6.out 1;have g3:=zz10 HY6.out 0;have g4:=zz10 HY6.out 1;simp only [List.getElem?_toArray,List.getElem?_cons_zero,List.getElem?_cons_succ] at g1 g2;clear ho hb))
   refine bodyPost_ret (results_cell_row rfl _ _ gr 30 #[.int .i64 r1,.slice A6 r2.length c6] (0,0) _ rfl (by (with_reducible repeat (first | refine zz6 ?_ _ | refine zz7 ?_));refine blk_put (cs:=#[.int .i64 r1,.slice none 0 0]) ?_ 1 _ rfl;refine blk_put (cs:=#[.int .i64 0,.slice none 0 0]) ?_ 0 _ rfl;(with_reducible repeat (first | refine zz6 ?_ _ | refine zz7 ?_));exact HY6.out) Try.underlying30 rfl (by kernel_rfl)) rfl ?_
   exact ⟨_,rfl,by (with_reducible repeat (first | apply zz13 | apply zz14));exact Kd.R_mono (Kd.R_far (p:=⟨gr,1,none⟩) (Kd.R_far (p:=⟨gr,0,none⟩) (Kd.R_types HR6.out HY6.out (by decide)) (fun _ hk=>hk.2) (.int .i64 r1)) (fun _ hk=>hk.2) (.slice A6 r2.length c6)) (fun _ hk=>trivial),by repeat first | exact HB6.out | apply zz0 | apply below_drew | refine zz3 ?_ HGR.out⟩

end Go.Proofs.Ytoedkkoafidalaa.P
