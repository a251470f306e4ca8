-- PRINTED by print.py (a twelfth state) out of the translation. Not trusted: Lean checks it.
import Derived.Test.YtoedkkoafidalaaPx0
import Derived.Test.YtoedkkoafidalaaPx1
import Derived.Test.YtoedkkoafidalaaPx2
namespace Go.Proofs.Ytoedkkoafidalaa.P
open Go.RowKit Go.Proofs.YtoedkkoafidalaaW.PrintWords Go.Proofs.YtoedkkoafidalaaW.PrintLast Go.Proofs.YtoedkkoafidalaaW.PrintMore
open Bool renaming true → T, false → F
attribute [local go_sem] max2_int min2_int max_two min_two max_three min_three max_four min_four   -- for this text's walks alone
set_option linter.unusedVariables false
set_option linter.unusedSimpArgs false

attribute [local go_sem high] eqA70
/-! ### spec_paGood: function 46 -/
mutual
def spec_paGood.j0:Nat→Bool→Int→List (S70)→Option (Bool)
 | 0,_,_,_=>none
 | k+1,x21,x131000,x131001=>if x21=true then (some false) else (spec_paGood.l0 k x131001 (x131001.length:Int) 0 x131000 x131001)
def spec_paGood.l0:Nat→List (S70)→Int→Int→Int→List (S70)→Option (Bool)
 | 0,_,_,_,_,_=>none
 | k+1,x23,x24,x25,x131000,x131001=>if x25 < x24 then (if 0≤x25 then (if x25 < (x23.length:Int) then ((spec_l1In.f ((rd_T70 x23 x25).f0) 0 (wrap64 (x131000 - 1))).bind fun t134=>(if t134=true then ((spec_l1In.f ((rd_T70 x23 x25).f1) (wrap64 (((rd_T70 x23 x25).f0)+1)) (wrap64 (x131000 - 1))).bind fun t135=>(if t135=true then (if x25 > 0 then (if 0≤(wrap64 (x25 - 1)) then (if (wrap64 (x25 - 1)) < (x131001.length:Int) then ((spec_paLess.f ((rd_T70 x131001 (wrap64 (x25 - 1))).f0) ((rd_T70 x131001 (wrap64 (x25 - 1))).f1) ((rd_T70 x23 x25).f0) ((rd_T70 x23 x25).f1)).bind fun t137=>(if t137=true then (spec_paGood.l0 k x23 x24 (wrap64 (x25+1)) x131000 x131001) else (some false))) else (none)) else (none)) else (spec_paGood.l0 k x23 x24 (wrap64 (x25+1)) x131000 x131001)) else (some false))) else (some false))) else (none)) else (none)) else (some true)
end
def spec_paGood.f (k:Nat) (a0_0:Int) (l0_1:List (S70)):Option (Bool):=(spec_paPeople.f a0_0).bind fun t131=>(if t131=true then (spec_paGood.j0 k (decide ((l0_1.length:Int) > (wrap64 (Int.tdiv (wrap64 (a0_0 * (wrap64 (a0_0 - 1)))) 2)))) a0_0 l0_1) else (spec_paGood.j0 k true a0_0 l0_1))
theorem spec_paGood.mono_l:∀ k,(∀ y0 y1 y2,LeO (spec_paGood.j0 k y0 y1 y2) (spec_paGood.j0 (k+1) y0 y1 y2))∧(∀ y0 y1 y2 y3 y4,LeO (spec_paGood.l0 k y0 y1 y2 y3 y4) (spec_paGood.l0 (k+1) y0 y1 y2 y3 y4))
 | 0=>⟨fun _ _ _ r h=>by simp [spec_paGood.j0] at h,fun _ _ _ _ _ r h=>by simp [spec_paGood.l0] at h⟩
 | k+1=>by
  obtain ⟨ih0,ih1⟩:=spec_paGood.mono_l k
  refine ⟨?_,?_⟩
  ·intro y0 y1 y2
   unfold spec_paGood.j0
   repeat' first
   | (with_reducible exact ih0 _ _ _)
   | (with_reducible exact ih1 _ _ _ _ _)
   | (with_reducible exact LeO.refl _)
   | (with_reducible exact LeO.none _)
   | (with_reducible refine LeO.ite ?_ ?_)
   | (with_reducible refine LeO.bind ?_ (fun _=>?_))
   | exact ih0 _ _ _
   | exact ih1 _ _ _ _ _
   | exact LeO.none _
   | refine LeO.ite ?_ ?_
   | refine LeO.bind ?_ (fun _=>?_)
  ·intro y0 y1 y2 y3 y4
   unfold spec_paGood.l0
   repeat' first
   | (with_reducible exact ih0 _ _ _)
   | (with_reducible exact ih1 _ _ _ _ _)
   | (with_reducible exact LeO.refl _)
   | (with_reducible exact LeO.none _)
   | (with_reducible refine LeO.ite ?_ ?_)
   | (with_reducible refine LeO.bind ?_ (fun _=>?_))
   | exact ih0 _ _ _
   | exact ih1 _ _ _ _ _
   | exact LeO.none _
   | refine LeO.ite ?_ ?_
   | refine LeO.bind ?_ (fun _=>?_)
theorem spec_paGood.mono:∀ a0 a1 k,LeO (spec_paGood.f k a0 a1) (spec_paGood.f (k+1) a0 a1):=by
 intro a0 a1 k
 obtain ⟨ih0,ih1⟩:=spec_paGood.mono_l k
 unfold spec_paGood.f
 repeat' first
   | (with_reducible exact ih0 _ _ _)
   | (with_reducible exact ih1 _ _ _ _ _)
   | (with_reducible exact LeO.refl _)
   | (with_reducible exact LeO.none _)
   | (with_reducible refine LeO.ite ?_ ?_)
   | (with_reducible refine LeO.bind ?_ (fun _=>?_))
   | exact ih0 _ _ _
   | exact ih1 _ _ _ _ _
   | exact LeO.none _
   | refine LeO.ite ?_ ?_
   | refine LeO.bind ?_ (fun _=>?_)
def spec_paGood.T6:Bool × List (List Nat × List Nat):=(true,[([],[]),([0],[0]),([],[]),([2],[2]),([3],[3]),([1,4],[1,4]),([5],[5]),([6,5],[6]),([7],[7]),([8,7],[7,8]),([7],[7]),([10,7],[7,10]),([11,7],[7,11]),([7],[7]),([13,7],[7,13]),([14,7],[7,14]),([9,12,15,7,7],[7,9,12,15]),([16,7],[7,16]),([7,17],[7,17]),([18,16],[18]),([19],[19]),([20,19],[19,20]),([21,19,19],[19,21]),([22],[22]),([23,22],[22,23]),([22],[22]),([25,22],[22,25]),([24,26,22],[22,24,26]),([27,22],[22,27]),([22],[22]),([28,29,22,22],[22,28,29]),([30,22],[22,30]),([22,31,19],[19,22,31]),([19,32],[19,32])])
def spec_paGood.B6:List Nat:=[0,1,0,4,12,31,63,127,255,511,255,1279,3327,255,8447,24831,65535,131071,262143,524287,1048575,2097151,4194303,8388607,16777215,8388607,41943039,134217727,268435455,8388607,1073741823,2147483647,4294967295,8589934591]
theorem spec_paGood.tab6:rtab .any (opsOf Try.f46 6)=spec_paGood.T6:=by kernel_rfl
theorem spec_paGood.bits6:waitsOk spec_paGood.T6.2 spec_paGood.B6=true:=by kernel_rfl
set_option maxHeartbeats 8000000 in
set_option maxRecDepth 100000 in
theorem spec_paGood.calls (k:Nat) (a0_0:Int) (A0_1:Option Addr) (c0_1:Nat) (l0_1:List (S70)) (r:Bool) (w:World) (hr0_1:Kd.C k70 w A0_1 l0_1.length l0_1) (hc0_1:l0_1.length≤c0_1) (h:spec_paGood.f k a0_0 l0_1=some r) :
  Calls Try.prog 46 #[.agg #[.int .i64 a0_0,.slice A0_1 l0_1.length c0_1]] w fun e w'=>e=.returned (.bool r)∧Below w.heap.size w w':=by
 have hu30:=Try.underlying30
 have hu70:=Try.underlying70
 have HR0_1:=zz31 hr0_1
 have HC0_1:=zz31 hc0_1
 clear hr0_1 hc0_1
 have HB:=zz31 (Below.refl w.heap.size w)
 have H:((spec_paPeople.f a0_0).bind fun t131=>(if t131=true then (spec_paGood.j0 k (decide ((l0_1.length:Int) > (wrap64 (Int.tdiv (wrap64 (a0_0 * (wrap64 (a0_0 - 1)))) 2)))) a0_0 l0_1) else (spec_paGood.j0 k true a0_0 l0_1)))=some r:=h
 clear h
 have HC2:=zz31 H
 clear H
 go_enter Try.func46,Try.ntmps46
 go_upto_region 1 with (first | ((with_reducible refine gate_dst (N:=1) rfl ?_);(try (refine gate_guard (by rfl) ?_;dsimp only));refine box_event ?hg (N:=1) ?hd (cs:=#[.int .i64 a0_0,.slice A0_1 l0_1.length c0_1]) (t:=30) ?hr ?_;(case hd=>rfl);(case hg=>rfl);(case hr=>first | (go_simp;done) | (go_simp;rfl));intro gb130 hg w3 hbox hb;have n0_:=zz31 (zz4 (by repeat first | exact HB.out | apply zz2 | apply zz0 | apply zz1) hb);have n1_:=zz31 (hbox);have n2_:=zz31 ((by rw [hg];exact (zz5 (by repeat first | exact HB.out | apply zz2 | apply zz0 | apply zz1)):w.heap.size≤gb130));have n3_:=zz31 ((by rw [hg];exact (zz5 (by repeat first | exact HB.out | apply zz2 | apply zz0 | apply zz1)):w.heap.size≤gb130));clear HB;have HB:=n0_;have BK130:=n1_;have GW130:=n2_;have GE130:=n3_;clear n0_ n1_ n2_ n3_;clear hb hbox hg))
 (try simp only [Act.put,zz21,zz22,zz23])
 go_cut [21] (fun v21 wc=>∃ (kq:Nat) (x21_1:Bool),v21=.bool x21_1∧Aside0 (spec_paGood.j0 kq x21_1 a0_0 l0_1=some r)∧Aside0 (kq≤k)∧Aside0 (wc.heap[gb130]?=some (.cells #[.int .i64 a0_0,(.slice A0_1 l0_1.length c0_1)] 30 (0,0)))∧Aside0 (Below w.heap.size w wc))
 case first =>
  have H:=HC2.out
  clear HC2
  replace H:=zz30.mp H
  obtain ⟨t131,A40,H⟩:=H
  replace H:(if t131=true then (spec_paGood.j0 k (decide ((l0_1.length:Int) > (wrap64 (Int.tdiv (wrap64 (a0_0 * (wrap64 (a0_0 - 1)))) 2)))) a0_0 l0_1) else (spec_paGood.j0 k true a0_0 l0_1))=some r:=H
  have A4:=zz31 A40
  clear A40
  by_cases c5:t131=true
  ·subst c5
   have H1:(spec_paGood.j0 k (decide ((l0_1.length:Int) > (wrap64 (Int.tdiv (wrap64 (a0_0 * (wrap64 (a0_0 - 1)))) 2)))) a0_0 l0_1)=some r:=by rw [if_pos rfl] at H;exact H
   clear H
   have H:=H1
   clear H1
   have H':=zz31 H
   clear H
   have hcz6_0:w3.cell? ⟨gb130,0,none⟩=some (.int .i64 a0_0):=(zz9 BK130.out 0).trans rfl
   have hcz6_1:w3.cell? ⟨gb130,1,none⟩=some (.slice A0_1 l0_1.length c0_1):=(zz9 BK130.out 1).trans rfl
   have hfz6_0:=zz10 BK130.out 0
   have hfz6_1:=zz10 BK130.out 1
   go_wp2_with (first | ((with_reducible refine gate_callee (f:=73) rfl ?_);refine goesL_ (some 7) rfl rfl Try.func73 (by kernel_rfl) rfl #[.int .i64 a0_0] rfl (by (try simp only [zz26,zz27,zz28]);first | done | rfl | (simp only [zz24,zz25];rfl)) ?_;(with_reducible refine (spec_paPeople.calls a0_0 true _ A4.out).mono ?_);rintro e w' ⟨rfl,⟨nd,rfl⟩⟩;refine ⟨_,rfl,?_⟩))
   go_meet
   case rel=>exact ⟨_,(decide ((l0_1.length:Int) > (wrap64 (Int.tdiv (wrap64 (a0_0 * (wrap64 (a0_0 - 1)))) 2)))),(by first | rfl | (simp;done) | (simp [*];done)),H',⟨by first | omega | exact Nat.le_refl _⟩,⟨by (with_reducible repeat (first | refine zz6 ?_ _ | refine zz7 ?_ | refine zz8 ?_ _));exact BK130.out⟩,⟨by repeat first | exact HB.out | apply zz2 | apply zz0 | apply zz1 | refine zz3 ?_ GE130.out⟩⟩
  ·replace c5:=Bool.eq_false_iff.mpr c5
   subst c5
   have H1:(spec_paGood.j0 k true a0_0 l0_1)=some r:=by rw [if_neg (show ¬ (false=true) by decide)] at H;exact H
   clear H
   have H:=H1
   clear H1
   have H':=zz31 H
   clear H
   have hcz7_0:w3.cell? ⟨gb130,0,none⟩=some (.int .i64 a0_0):=(zz9 BK130.out 0).trans rfl
   have hcz7_1:w3.cell? ⟨gb130,1,none⟩=some (.slice A0_1 l0_1.length c0_1):=(zz9 BK130.out 1).trans rfl
   have hfz7_0:=zz10 BK130.out 0
   have hfz7_1:=zz10 BK130.out 1
   go_wp2_with (first | ((with_reducible refine gate_callee (f:=73) rfl ?_);refine goesL_ (some 7) rfl rfl Try.func73 (by kernel_rfl) rfl #[.int .i64 a0_0] rfl (by (try simp only [zz26,zz27,zz28]);first | done | rfl | (simp only [zz24,zz25];rfl)) ?_;(with_reducible refine (spec_paPeople.calls a0_0 false _ A4.out).mono ?_);rintro e w' ⟨rfl,⟨nd,rfl⟩⟩;refine ⟨_,rfl,?_⟩))
   go_meet
   case rel=>exact ⟨_,(true),(by first | rfl | (simp;done) | (simp [*];done)),H',⟨by first | omega | exact Nat.le_refl _⟩,⟨by (with_reducible repeat (first | refine zz6 ?_ _ | refine zz7 ?_ | refine zz8 ?_ _));exact BK130.out⟩,⟨by repeat first | exact HB.out | apply zz2 | apply zz0 | apply zz1 | refine zz3 ?_ GE130.out⟩⟩
 case rest =>
  clear HC2
  try clear p2
  try clear c4
  try clear c5
  try clear p6
  try clear c7
  try clear hcz6_0
  try clear hcz6_1
  try clear hcz7_0
  try clear hcz7_1
  try clear hfz6_0
  try clear hfz6_1
  try clear hfz7_0
  try clear hfz7_1
  obtain ⟨kq,x21_1,rfl,HA,HJ1,BK130,HB⟩:=hcut
  cases kq with
  | zero=>exact absurd HA.out (by simp [spec_paGood.j0])
  | succ kj1 =>
   have H:=HA.out
   clear HA
   simp only [spec_paGood.j0] at H
   by_cases c8:x21_1=true
   ·subst c8
    have H1:(some false)=some r:=by rw [if_pos rfl] at H;exact H
    clear H
    have H:=H1
    clear H1
    obtain rfl:=Option.some.inj H
    go_wp2
    go_ret
    exact ⟨by first | rfl | (simp [errW_none,errW_some] <;> rfl) | (simp [*,errW_none,errW_some] <;> rfl),by repeat first | exact HB.out | apply zz2 | apply zz0 | apply zz1 | refine zz3 ?_ GE130.out⟩
   ·replace c8:=Bool.eq_false_iff.mpr c8
    subst c8
    have H1:(spec_paGood.l0 kj1 l0_1 (l0_1.length:Int) 0 a0_0 l0_1)=some r:=by rw [if_neg (show ¬ (false=true) by decide)] at H;exact H
    clear H
    have H:=H1
    clear H1
    have H':=zz31 H
    clear H
    have hcz9_0:wc.cell? ⟨gb130,0,none⟩=some (.int .i64 a0_0):=(zz9 BK130.out 0).trans rfl
    have hcz9_1:wc.cell? ⟨gb130,1,none⟩=some (.slice A0_1 l0_1.length c0_1):=(zz9 BK130.out 1).trans rfl
    have hfz9_0:=zz10 BK130.out 0
    have hfz9_1:=zz10 BK130.out 1
    go_wp2
    go_loopg [25] kj1 (fun kq v25 w'=>∃ (x25_2:Int),v25=.int .i64 x25_2∧Aside0 (spec_paGood.l0 kq l0_1 (l0_1.length:Int) x25_2 a0_0 l0_1=some r)∧Aside0 (kq≤kj1)∧Aside0 (w'.heap[gb130]?=some (.cells #[.int .i64 a0_0,(.slice A0_1 l0_1.length c0_1)] 30 (0,0)))∧Aside0 (Below w.heap.size w w'))
    case atStart=>exact ⟨(0),(by first | rfl | (simp;done) | (simp [*];done)),H',⟨Nat.le_refl _⟩,⟨by (with_reducible repeat (first | refine zz6 ?_ _ | refine zz7 ?_ | refine zz8 ?_ _));exact BK130.out⟩,⟨by repeat first | exact HB.out | apply zz2 | apply zz0 | apply zz1 | refine zz3 ?_ GE130.out⟩⟩
    case round =>
     clear H'
     try clear p2
     try clear c4
     try clear c5
     try clear p6
     try clear c7
     try clear c8
     try clear hcz6_0
     try clear hcz6_1
     try clear hcz7_0
     try clear hcz7_1
     try clear hcz9_0
     try clear hcz9_1
     try clear hfz6_0
     try clear hfz6_1
     try clear hfz7_0
     try clear hfz7_1
     try clear hfz9_0
     try clear hfz9_1
     try clear p2
     try clear p6
     obtain ⟨x25_2,rfl,HA,HK2,BK130,HB⟩:=hrel
     cases gk with
     | zero=>exact absurd HA.out (by simp [spec_paGood.l0])
     | succ k2 =>
      have H:=HA.out
      clear HA
      simp only [spec_paGood.l0] at H
      by_cases c10:x25_2 < (l0_1.length:Int)
      ·rw [if_pos c10] at H
       have c10b0:decide (x25_2 < (l0_1.length:Int))=true:=decide_eq_true c10
       clear c10
       by_cases c11:0≤x25_2
       ·rw [if_pos c11] at H
        have c11b0:decide (0≤x25_2)=true:=decide_eq_true c11
        clear c11
        by_cases c12:x25_2 < (l0_1.length:Int)
        ·rw [if_pos c12] at H
         have c12b0:decide (x25_2 < (l0_1.length:Int))=true:=decide_eq_true c12
         clear c12
         replace H:=zz30.mp H
         obtain ⟨t134,A130,H⟩:=H
         replace H:(if t134=true then ((spec_l1In.f ((rd_T70 l0_1 x25_2).f1) (wrap64 (((rd_T70 l0_1 x25_2).f0)+1)) (wrap64 (a0_0 - 1))).bind fun t135=>(if t135=true then (if x25_2 > 0 then (if 0≤(wrap64 (x25_2 - 1)) then (if (wrap64 (x25_2 - 1)) < (l0_1.length:Int) then ((spec_paLess.f ((rd_T70 l0_1 (wrap64 (x25_2 - 1))).f0) ((rd_T70 l0_1 (wrap64 (x25_2 - 1))).f1) ((rd_T70 l0_1 x25_2).f0) ((rd_T70 l0_1 x25_2).f1)).bind fun t137=>(if t137=true then (spec_paGood.l0 k2 l0_1 (l0_1.length:Int) (wrap64 (x25_2+1)) a0_0 l0_1) else (some false))) else (none)) else (none)) else (spec_paGood.l0 k2 l0_1 (l0_1.length:Int) (wrap64 (x25_2+1)) a0_0 l0_1)) else (some false))) else (some false))=some r:=H
         have A13:=zz31 A130
         clear A130
         by_cases c14:t134=true
         ·subst c14
          have H1:((spec_l1In.f ((rd_T70 l0_1 x25_2).f1) (wrap64 (((rd_T70 l0_1 x25_2).f0)+1)) (wrap64 (a0_0 - 1))).bind fun t135=>(if t135=true then (if x25_2 > 0 then (if 0≤(wrap64 (x25_2 - 1)) then (if (wrap64 (x25_2 - 1)) < (l0_1.length:Int) then ((spec_paLess.f ((rd_T70 l0_1 (wrap64 (x25_2 - 1))).f0) ((rd_T70 l0_1 (wrap64 (x25_2 - 1))).f1) ((rd_T70 l0_1 x25_2).f0) ((rd_T70 l0_1 x25_2).f1)).bind fun t137=>(if t137=true then (spec_paGood.l0 k2 l0_1 (l0_1.length:Int) (wrap64 (x25_2+1)) a0_0 l0_1) else (some false))) else (none)) else (none)) else (spec_paGood.l0 k2 l0_1 (l0_1.length:Int) (wrap64 (x25_2+1)) a0_0 l0_1)) else (some false)))=some r:=by rw [if_pos rfl] at H;exact H
          clear H
          have H:=H1
          clear H1
          replace H:=zz30.mp H
          obtain ⟨t135,A150,H⟩:=H
          replace H:(if t135=true then (if x25_2 > 0 then (if 0≤(wrap64 (x25_2 - 1)) then (if (wrap64 (x25_2 - 1)) < (l0_1.length:Int) then ((spec_paLess.f ((rd_T70 l0_1 (wrap64 (x25_2 - 1))).f0) ((rd_T70 l0_1 (wrap64 (x25_2 - 1))).f1) ((rd_T70 l0_1 x25_2).f0) ((rd_T70 l0_1 x25_2).f1)).bind fun t137=>(if t137=true then (spec_paGood.l0 k2 l0_1 (l0_1.length:Int) (wrap64 (x25_2+1)) a0_0 l0_1) else (some false))) else (none)) else (none)) else (spec_paGood.l0 k2 l0_1 (l0_1.length:Int) (wrap64 (x25_2+1)) a0_0 l0_1)) else (some false))=some r:=H
          have A15:=zz31 A150
          clear A150
          by_cases c16:t135=true
          ·subst c16
           have H1:(if x25_2 > 0 then (if 0≤(wrap64 (x25_2 - 1)) then (if (wrap64 (x25_2 - 1)) < (l0_1.length:Int) then ((spec_paLess.f ((rd_T70 l0_1 (wrap64 (x25_2 - 1))).f0) ((rd_T70 l0_1 (wrap64 (x25_2 - 1))).f1) ((rd_T70 l0_1 x25_2).f0) ((rd_T70 l0_1 x25_2).f1)).bind fun t137=>(if t137=true then (spec_paGood.l0 k2 l0_1 (l0_1.length:Int) (wrap64 (x25_2+1)) a0_0 l0_1) else (some false))) else (none)) else (none)) else (spec_paGood.l0 k2 l0_1 (l0_1.length:Int) (wrap64 (x25_2+1)) a0_0 l0_1))=some r:=by rw [if_pos rfl] at H;exact H
           clear H
           have H:=H1
           clear H1
           by_cases c17:x25_2 > 0
           ·rw [if_pos c17] at H
            have c17b0:decide (0 < x25_2)=true:=decide_eq_true c17
            clear c17
            obtain ⟨ji18,hji18⟩:∃ j_:Int,(wrap64 (x25_2 - 1))=j_:=⟨_,rfl⟩
            replace H:(if 0≤(ji18) then (if (ji18) < (l0_1.length:Int) then ((spec_paLess.f ((rd_T70 l0_1 (ji18)).f0) ((rd_T70 l0_1 (ji18)).f1) ((rd_T70 l0_1 x25_2).f0) ((rd_T70 l0_1 x25_2).f1)).bind fun t137=>(if t137=true then (spec_paGood.l0 k2 l0_1 (l0_1.length:Int) (wrap64 (x25_2+1)) a0_0 l0_1) else (some false))) else (none)) else (none))=some r:=by first | (rw [hji18] at H;exact H) | (simp only [hji18] at H ⊢;exact H)
            (try rw [hji18] at A13)
            (try rw [hji18] at A15)
            have hji18w:(IntKind.i64.wrap (x25_2 - 1))=ji18:=(i64_w _).trans hji18
            by_cases c19:0≤(ji18)
            ·rw [if_pos c19] at H
             have c19b0:decide (0≤(ji18))=true:=decide_eq_true c19
             clear c19
             by_cases c20:(ji18) < (l0_1.length:Int)
             ·rw [if_pos c20] at H
              have c20b0:decide ((ji18) < (l0_1.length:Int))=true:=decide_eq_true c20
              clear c20
              replace H:=zz30.mp H
              obtain ⟨t137,A210,H⟩:=H
              replace H:(if t137=true then (spec_paGood.l0 k2 l0_1 (l0_1.length:Int) (wrap64 (x25_2+1)) a0_0 l0_1) else (some false))=some r:=H
              have A21:=zz31 A210
              clear A210
              by_cases c22:t137=true
              ·subst c22
               have H1:(spec_paGood.l0 k2 l0_1 (l0_1.length:Int) (wrap64 (x25_2+1)) a0_0 l0_1)=some r:=by rw [if_pos rfl] at H;exact H
               clear H
               have H:=H1
               clear H1
               have H':=zz31 H
               clear H
               have p132:0≤(x25_2:Int):=zz29 (by first | (with_reducible assumption) | assumption)
               have q132:x25_2 < (l0_1.length:Int):=zz29 (by first | (with_reducible assumption) | assumption)
               obtain ⟨ad132,e132,hx132_0,hx132_1⟩:=at_T70 HR0_1.out x25_2 p132 q132
               cases e132
               try replace hx132_0:=(HB.out.cell (World.block_lt_of_cell? w _ hx132_0)).trans hx132_0
               try replace hx132_1:=(HB.out.cell (World.block_lt_of_cell? w _ hx132_1)).trans hx132_1
               replace p132:=eq_true p132
               replace q132:=eq_true q132
               try go_wp2_with (first | ((with_reducible refine gate_dst (N:=4) rfl ?_);(try (refine gate_guard (by rfl) ?_;dsimp only));refine box_event ?hg (N:=4) ?hd (cs:=#[.int .i64 0,.int .i64 0]) (t:=70) ?hr ?_;(case hd=>rfl);(case hg=>rfl);(case hr=>first | (go_simp;done) | (go_simp;rfl));intro gb133 hg w23 hbox hb;have n0_:=zz31 (zz11 (g:=gb130) (o:=.cells #[.int .i64 a0_0,.slice (some ad132) l0_1.length c0_1] 30 (0,0)) (by (with_reducible repeat (first | refine zz6 ?_ _ | refine zz7 ?_ | refine zz8 ?_ _));exact BK130.out) hb);have n1_:=zz31 (zz4 (by repeat first | exact HB.out | apply zz2 | apply zz0 | apply zz1 | refine zz3 ?_ GE130.out) hb);have n2_:=zz31 (hbox);have n3_:=zz31 ((by rw [hg];exact (zz5 (by repeat first | exact HB.out | apply zz2 | apply zz0 | apply zz1 | refine zz3 ?_ GE130.out)):w.heap.size≤gb133));have n4_:=zz31 ((by rw [hg];exact (zz5 (by repeat first | exact HB.out | apply zz2 | apply zz0 | apply zz1 | refine zz3 ?_ GE130.out)):w.heap.size≤gb133));have n5_:=zz31 ((by rw [hg];exact Nat.ne_of_lt (blk_lt (g:=gb130) (o:=.cells #[.int .i64 a0_0,.slice (some ad132) l0_1.length c0_1] 30 (0,0)) (by (with_reducible repeat (first | refine zz6 ?_ _ | refine zz7 ?_ | refine zz8 ?_ _));exact BK130.out)):gb130 ≠ gb133));have n6_:=zz31 ((by rw [hg];exact Nat.ne_of_gt (blk_lt (g:=gb130) (o:=.cells #[.int .i64 a0_0,.slice (some ad132) l0_1.length c0_1] 30 (0,0)) (by (with_reducible repeat (first | refine zz6 ?_ _ | refine zz7 ?_ | refine zz8 ?_ _));exact BK130.out)):gb133 ≠ gb130));clear BK130;clear HB;have BK130:=n0_;have HB:=n1_;have BK133:=n2_;have GW133:=n3_;have GE133:=n4_;have NB130_133:=n5_;have NB133_130:=n6_;clear n0_ n1_ n2_ n3_ n4_ n5_ n6_;clear hb hbox hg;have hnb24:=NB133_130.out;have hnc24:=NB130_133.out;have hcz25_0:w23.cell? ⟨gb133,0,none⟩=some (.int .i64 0):=(zz9 BK133.out 0).trans rfl;have hcz25_1:w23.cell? ⟨gb133,1,none⟩=some (.int .i64 0):=(zz9 BK133.out 1).trans rfl;have hfz25_0:=zz10 BK133.out 0;have hfz25_1:=zz10 BK133.out 1))
               have n0_:Aside0 (((w23.setCell ⟨gb133,0,none⟩ (.int .i64 ((rd_T70 l0_1 x25_2).f0))).setCell ⟨gb133,1,none⟩ (.int .i64 ((rd_T70 l0_1 x25_2).f1))).heap[gb130]?=some (.cells #[.int .i64 a0_0,.slice (some ad132) l0_1.length c0_1] 30 (0,0))):=⟨by (with_reducible repeat (first | refine zz6 ?_ _ | refine zz7 ?_ | refine zz8 ?_ _));refine blk_far ?_ NB130_133.out _;(with_reducible repeat (first | refine zz6 ?_ _ | refine zz7 ?_ | refine zz8 ?_ _));refine blk_far ?_ NB130_133.out _;(with_reducible repeat (first | refine zz6 ?_ _ | refine zz7 ?_ | refine zz8 ?_ _));exact BK130.out⟩
               have n1_:Aside0 (((w23.setCell ⟨gb133,0,none⟩ (.int .i64 ((rd_T70 l0_1 x25_2).f0))).setCell ⟨gb133,1,none⟩ (.int .i64 ((rd_T70 l0_1 x25_2).f1))).heap[gb133]?=some (.cells #[.int .i64 ((rd_T70 l0_1 x25_2).f0),.int .i64 ((rd_T70 l0_1 x25_2).f1)] 70 (0,0))):=⟨by (with_reducible repeat (first | refine zz6 ?_ _ | refine zz7 ?_ | refine zz8 ?_ _));refine blk_put (cs:=#[.int .i64 ((rd_T70 l0_1 x25_2).f0),.int .i64 0]) ?_ 1 _ rfl;(with_reducible repeat (first | refine zz6 ?_ _ | refine zz7 ?_ | refine zz8 ?_ _));refine blk_put (cs:=#[.int .i64 0,.int .i64 0]) ?_ 0 _ rfl;(with_reducible repeat (first | refine zz6 ?_ _ | refine zz7 ?_ | refine zz8 ?_ _));exact BK133.out⟩
               have n2_:Aside0 (Below w.heap.size w ((w23.setCell ⟨gb133,0,none⟩ (.int .i64 ((rd_T70 l0_1 x25_2).f0))).setCell ⟨gb133,1,none⟩ (.int .i64 ((rd_T70 l0_1 x25_2).f1)))):=⟨by repeat first | exact HB.out | apply zz2 | apply zz0 | apply zz1 | refine zz3 ?_ GE130.out | refine zz3 ?_ GE133.out⟩
               (try clear BK130)
               (try clear BK133)
               (try clear HB)
               generalize ((w23.setCell ⟨gb133,0,none⟩ (.int .i64 ((rd_T70 l0_1 x25_2).f0))).setCell ⟨gb133,1,none⟩ (.int .i64 ((rd_T70 l0_1 x25_2).f1)))=w26 at n0_ n1_ n2_ ⊢
               have BK130:=n0_
               have BK133:=n1_
               have HB:=n2_
               clear n0_ n1_ n2_
               have n0_:=zz31 (zz7 BK130.out)
               have n1_:=zz31 (zz7 BK133.out)
               have n2_:=zz31 (zz1 HB.out)
               clear BK130
               clear BK133
               clear HB
               have BK130:=n0_
               have BK133:=n1_
               have HB:=n2_
               clear n0_ n1_ n2_
               have p136:0≤((ji18):Int):=zz29 (by first | (with_reducible assumption) | assumption)
               have q136:(ji18) < (l0_1.length:Int):=zz29 (by first | (with_reducible assumption) | assumption)
               obtain ⟨ad136,e136,hx136_0,hx136_1⟩:=at_T70 HR0_1.out (ji18) p136 q136
               have hw136_1:=hx136_1
               have hw136_0:=hx136_0
               obtain rfl:ad132=ad136:=(by injection e136)
               try replace hx136_0:=(HB.out.cell (World.block_lt_of_cell? w _ hx136_0)).trans hx136_0
               try replace hx136_1:=(HB.out.cell (World.block_lt_of_cell? w _ hx136_1)).trans hx136_1
               replace p136:=eq_true p136
               replace q136:=eq_true q136
               refine start_ (n:=34) (S:=fun w'=>w'.cell? ⟨gb133,0,none⟩=some (.int .i64 ((rd_T70 l0_1 x25_2).f0))∧w'.cell? ⟨gb133,1,none⟩=some (.int .i64 ((rd_T70 l0_1 x25_2).f1))∧w'.cell? ⟨gb130,0,none⟩=some (.int .i64 a0_0)∧w'.cell? ⟨gb130,1,none⟩=some (.slice (some ad132) l0_1.length c0_1)∧w'.cell? (ad132.add (((ji18)).toNat * 2))=some (.int .i64 ((rd_T70 l0_1 (ji18)).f0))∧w'.cell? ⟨(ad132.add (((ji18)).toNat * 2)).block,(ad132.add (((ji18)).toNat * 2)).off+1,none⟩=some (.int .i64 ((rd_T70 l0_1 (ji18)).f1))) (ds:=[]) #[F,F,F,F,F,F,F,F,F,F,F,F,F,F,F,F,F,F,F,F,F,F,F,F,F,F,F,F,F,F,F,F,F,F] (by kernel_rfl) rfl rfl ⟨(zz9 BK133.out 0).trans rfl,(zz9 BK133.out 1).trans rfl,(zz9 BK130.out 0).trans rfl,(zz9 BK130.out 1).trans rfl,((HB.out.cell (World.block_lt_of_cell? w _ hw136_0)).trans hw136_0),((HB.out.cell (World.block_lt_of_cell? w _ hw136_1)).trans hw136_1)⟩ (fun hHeld=>?_);refine with_tabW spec_paGood.tab6 spec_paGood.bits6 (fun HT_ HW_=>?_)
               generalize w26.drew=w27 at BK130 BK133 HB hx136_0 hx136_1 hHeld ⊢
               refine pure_ (i:=0) (N:=some 30) (v:=?_) (a':=?_) #[T,F,F,F,F,F,F,F,F,F,F,F,F,F,F,F,F,F,F,F,F,F,F,F,F,F,F,F,F,F,F,F,F,F] rfl rfl (any_of HT_.out (by kernel_rfl)) (fun _ _ _ h=>h) (Or.inl ⟨by rfl,?_⟩) ?_ ?_
               rotate_left
               ·intro w'
                go_simp
                with_reducible rfl
               rotate_left
               ·simp only [Act.put,zz21,zz22,zz23,i64_w,i32_w]
                rfl
               refine pure_ (i:=2) (N:=some 32) (v:=?_) (a':=?_) #[T,F,T,F,F,F,F,F,F,F,F,F,F,F,F,F,F,F,F,F,F,F,F,F,F,F,F,F,F,F,F,F,F,F] rfl rfl (any_of HT_.out (by kernel_rfl)) (fun _ _ _ h=>h) (Or.inl ⟨by rfl,?_⟩) ?_ ?_
               rotate_left
               ·intro w'
                go_simp
                with_reducible rfl
               rotate_left
               ·simp only [Act.put,zz21,zz22,zz23,i64_w,i32_w]
                rfl
               refine take_ (i:=1) (N:=some 31) (v:=?_) (a':=?_) #[T,T,T,F,F,F,F,F,F,F,F,F,F,F,F,F,F,F,F,F,F,F,F,F,F,F,F,F,F,F,F,F,F,F] rfl rfl (take_ofW HT_.out HW_.out (by kernel_rfl)) (fun _ _ _ h=>h) (Or.inl ⟨by rfl,?_⟩) hHeld ?_ ?_
               rotate_left
               ·rintro w' ⟨s0,s1,s2,s3,s4,s5⟩
                go_simp
                with_reducible rfl
               rotate_left
               ·simp only [Act.put,zz21,zz22,zz23,i64_w,i32_w]
                rfl
               refine take_ (i:=3) (N:=some 33) (v:=?_) (a':=?_) #[T,T,T,T,F,F,F,F,F,F,F,F,F,F,F,F,F,F,F,F,F,F,F,F,F,F,F,F,F,F,F,F,F,F] rfl rfl (take_ofW HT_.out HW_.out (by kernel_rfl)) (fun _ _ _ h=>h) (Or.inl ⟨by rfl,?_⟩) hHeld ?_ ?_
               rotate_left
               ·rintro w' ⟨s0,s1,s2,s3,s4,s5⟩
                go_simp
                with_reducible rfl
               rotate_left
               ·simp only [Act.put,zz21,zz22,zz23,i64_w,i32_w]
                rfl
               refine pure_ (i:=4) (N:=some 34) (v:=?_) (a':=?_) #[T,T,T,T,T,F,F,F,F,F,F,F,F,F,F,F,F,F,F,F,F,F,F,F,F,F,F,F,F,F,F,F,F,F] rfl rfl (any_of HT_.out (by kernel_rfl)) (fun _ _ _ h=>h) (Or.inl ⟨by rfl,?_⟩) ?_ ?_
               rotate_left
               ·intro w'
                go_simp
                with_reducible rfl
               rotate_left
               ·simp only [Act.put,zz21,zz22,zz23,i64_w,i32_w]
                rfl
               refine one_ (i:=5) (N:=some 35) #[T,T,T,T,T,T,F,F,F,F,F,F,F,F,F,F,F,F,F,F,F,F,F,F,F,F,F,F,F,F,F,F,F,F] rfl rfl (one_of HT_.out (by kernel_rfl)) (by decide) (fun K hK=>?_)
               refine goes_ Try.func74 (by kernel_rfl) rfl #[.int .i64 ((rd_T70 l0_1 x25_2).f0),.int .i64 0,.int .i64 (wrap64 (a0_0 - 1))] (by rfl) rfl rfl (by (try simp only [zz26,zz27,zz28]);first | done | rfl | (simp only [zz24,zz25];rfl)) ?_
               with_reducible refine (spec_l1In.calls ((rd_T70 l0_1 x25_2).f0) 0 (wrap64 (a0_0 - 1)) true _ A13.out).mono ?_
               rintro e w' ⟨rfl,⟨nd,rfl⟩⟩
               refine ⟨_,rfl,?_⟩
               refine hK.out _ _ ⟨(zz9 BK133.out 0).trans rfl,(zz9 BK133.out 1).trans rfl,(zz9 BK130.out 0).trans rfl,(zz9 BK130.out 1).trans rfl,((HB.out.cell (World.block_lt_of_cell? w _ hw136_0)).trans hw136_0),((HB.out.cell (World.block_lt_of_cell? w _ hw136_1)).trans hw136_1)⟩ (fun hHeld=>?_)
               clear hK K
               refine norm_ (a':=?_) ?_ ?_
               rotate_left
               ·show Act.put _ (some 35) _=_
                simp only [Act.put,zz21,zz22,zz23,i64_w,i32_w]
                rfl
               refine pure_ (i:=6) (N:=some 36) (v:=?_) (a':=?_) #[T,T,T,T,T,T,T,F,F,F,F,F,F,F,F,F,F,F,F,F,F,F,F,F,F,F,F,F,F,F,F,F,F,F] rfl rfl (any_of HT_.out (by kernel_rfl)) (fun _ _ _ h=>h) (Or.inl ⟨by rfl,?_⟩) ?_ ?_
               rotate_left
               ·intro w'
                go_simp
                with_reducible rfl
               rotate_left
               ·simp only [Act.put,zz21,zz22,zz23,i64_w,i32_w]
                rfl
               refine pure_ (i:=7) (N:=some 37) (v:=?_) (a':=?_) #[T,T,T,T,T,T,T,T,F,F,F,F,F,F,F,F,F,F,F,F,F,F,F,F,F,F,F,F,F,F,F,F,F,F] rfl rfl (any_of HT_.out (by kernel_rfl)) (fun _ _ _ h=>h) (Or.inl ⟨by rfl,?_⟩) ?_ ?_
               rotate_left
               ·intro w'
                go_simp
                with_reducible rfl
               rotate_left
               ·simp only [Act.put,zz21,zz22,zz23,i64_w,i32_w]
                rfl
               refine pure_ (i:=8) (N:=some 38) (v:=?_) (a':=?_) #[T,T,T,T,T,T,T,T,T,F,F,F,F,F,F,F,F,F,F,F,F,F,F,F,F,F,F,F,F,F,F,F,F,F] rfl rfl (any_of HT_.out (by kernel_rfl)) (fun _ _ _ h=>h) (Or.inl ⟨by rfl,?_⟩) ?_ ?_
               rotate_left
               ·intro w'
                go_simp
                with_reducible rfl
               rotate_left
               ·simp only [Act.put,zz21,zz22,zz23,i64_w,i32_w]
                rfl
               refine pure_ (i:=10) (N:=some 40) (v:=?_) (a':=?_) #[T,T,T,T,T,T,T,T,T,F,T,F,F,F,F,F,F,F,F,F,F,F,F,F,F,F,F,F,F,F,F,F,F,F] rfl rfl (any_of HT_.out (by kernel_rfl)) (fun _ _ _ h=>h) (Or.inl ⟨by rfl,?_⟩) ?_ ?_
               rotate_left
               ·intro w'
                go_simp
                with_reducible rfl
               rotate_left
               ·simp only [Act.put,zz21,zz22,zz23,i64_w,i32_w]
                rfl
               refine pure_ (i:=13) (N:=some 43) (v:=?_) (a':=?_) #[T,T,T,T,T,T,T,T,T,F,T,F,F,T,F,F,F,F,F,F,F,F,F,F,F,F,F,F,F,F,F,F,F,F] rfl rfl (any_of HT_.out (by kernel_rfl)) (fun _ _ _ h=>h) (Or.inl ⟨by rfl,?_⟩) ?_ ?_
               rotate_left
               ·intro w'
                go_simp
                with_reducible rfl
               rotate_left
               ·simp only [Act.put,zz21,zz22,zz23,i64_w,i32_w]
                rfl
               refine take_ (i:=9) (N:=some 39) (v:=?_) (a':=?_) #[T,T,T,T,T,T,T,T,T,T,T,F,F,T,F,F,F,F,F,F,F,F,F,F,F,F,F,F,F,F,F,F,F,F] rfl rfl (take_ofW HT_.out HW_.out (by kernel_rfl)) (fun _ _ _ h=>h) (Or.inl ⟨by rfl,?_⟩) hHeld ?_ ?_
               rotate_left
               ·rintro w' ⟨s0,s1,s2,s3,s4,s5⟩
                go_simp
                with_reducible rfl
               rotate_left
               ·simp only [Act.put,zz21,zz22,zz23,i64_w,i32_w]
                rfl
               refine take_ (i:=11) (N:=some 41) (v:=?_) (a':=?_) #[T,T,T,T,T,T,T,T,T,T,T,T,F,T,F,F,F,F,F,F,F,F,F,F,F,F,F,F,F,F,F,F,F,F] rfl rfl (take_ofW HT_.out HW_.out (by kernel_rfl)) (fun _ _ _ h=>h) (Or.inl ⟨by rfl,?_⟩) hHeld ?_ ?_
               rotate_left
               ·rintro w' ⟨s0,s1,s2,s3,s4,s5⟩
                go_simp
                with_reducible rfl
               rotate_left
               ·simp only [Act.put,zz21,zz22,zz23,i64_w,i32_w]
                rfl
               refine pure_ (i:=12) (N:=some 42) (v:=?_) (a':=?_) #[T,T,T,T,T,T,T,T,T,T,T,T,T,T,F,F,F,F,F,F,F,F,F,F,F,F,F,F,F,F,F,F,F,F] rfl rfl (any_of HT_.out (by kernel_rfl)) (fun _ _ _ h=>h) (Or.inl ⟨by rfl,?_⟩) ?_ ?_
               rotate_left
               ·intro w'
                go_simp
                with_reducible rfl
               rotate_left
               ·simp only [Act.put,zz21,zz22,zz23,i64_w,i32_w]
                rfl
               refine take_ (i:=14) (N:=some 44) (v:=?_) (a':=?_) #[T,T,T,T,T,T,T,T,T,T,T,T,T,T,T,F,F,F,F,F,F,F,F,F,F,F,F,F,F,F,F,F,F,F] rfl rfl (take_ofW HT_.out HW_.out (by kernel_rfl)) (fun _ _ _ h=>h) (Or.inl ⟨by rfl,?_⟩) hHeld ?_ ?_
               rotate_left
               ·rintro w' ⟨s0,s1,s2,s3,s4,s5⟩
                go_simp
                with_reducible rfl
               rotate_left
               ·simp only [Act.put,zz21,zz22,zz23,i64_w,i32_w]
                rfl
               refine pure_ (i:=15) (N:=some 45) (v:=?_) (a':=?_) #[T,T,T,T,T,T,T,T,T,T,T,T,T,T,T,T,F,F,F,F,F,F,F,F,F,F,F,F,F,F,F,F,F,F] rfl rfl (any_of HT_.out (by kernel_rfl)) (fun _ _ _ h=>h) (Or.inl ⟨by rfl,?_⟩) ?_ ?_
               rotate_left
               ·intro w'
                go_simp
                with_reducible rfl
               rotate_left
               ·simp only [Act.put,zz21,zz22,zz23,i64_w,i32_w]
                rfl
               refine one_ (i:=16) (N:=some 46) #[T,T,T,T,T,T,T,T,T,T,T,T,T,T,T,T,T,F,F,F,F,F,F,F,F,F,F,F,F,F,F,F,F,F] rfl rfl (one_of HT_.out (by kernel_rfl)) (by decide) (fun K hK=>?_)
               refine goes_ Try.func74 (by kernel_rfl) rfl #[.int .i64 ((rd_T70 l0_1 x25_2).f1),.int .i64 (wrap64 (((rd_T70 l0_1 x25_2).f0)+1)),.int .i64 (wrap64 (a0_0 - 1))] (by rfl) rfl rfl (by (try simp only [zz26,zz27,zz28]);first | done | rfl | (simp only [zz24,zz25];rfl)) ?_
               with_reducible refine (spec_l1In.calls ((rd_T70 l0_1 x25_2).f1) (wrap64 (((rd_T70 l0_1 x25_2).f0)+1)) (wrap64 (a0_0 - 1)) true _ A15.out).mono ?_
               rintro e w' ⟨rfl,⟨nd,rfl⟩⟩
               refine ⟨_,rfl,?_⟩
               refine hK.out _ _ ⟨(zz9 BK133.out 0).trans rfl,(zz9 BK133.out 1).trans rfl,(zz9 BK130.out 0).trans rfl,(zz9 BK130.out 1).trans rfl,((HB.out.cell (World.block_lt_of_cell? w _ hw136_0)).trans hw136_0),((HB.out.cell (World.block_lt_of_cell? w _ hw136_1)).trans hw136_1)⟩ (fun hHeld=>?_)
               clear hK K
               refine norm_ (a':=?_) ?_ ?_
               rotate_left
               ·show Act.put _ (some 46) _=_
                simp only [Act.put,zz21,zz22,zz23,i64_w,i32_w]
                rfl
               refine pure_ (i:=17) (N:=some 47) (v:=?_) (a':=?_) #[T,T,T,T,T,T,T,T,T,T,T,T,T,T,T,T,T,T,F,F,F,F,F,F,F,F,F,F,F,F,F,F,F,F] rfl rfl (any_of HT_.out (by kernel_rfl)) (fun _ _ _ h=>h) (Or.inl ⟨by rfl,?_⟩) ?_ ?_
               rotate_left
               ·intro w'
                go_simp
                with_reducible rfl
               rotate_left
               ·simp only [Act.put,zz21,zz22,zz23,i64_w,i32_w]
                rfl
               refine pure_ (i:=18) (N:=some 48) (v:=?_) (a':=?_) #[T,T,T,T,T,T,T,T,T,T,T,T,T,T,T,T,T,T,T,F,F,F,F,F,F,F,F,F,F,F,F,F,F,F] rfl rfl (any_of HT_.out (by kernel_rfl)) (fun _ _ _ h=>h) (Or.inl ⟨by rfl,?_⟩) ?_ ?_
               rotate_left
               ·intro w'
                go_simp
                with_reducible rfl
               rotate_left
               ·simp only [Act.put,zz21,zz22,zz23,i64_w,i32_w]
                rfl
               refine pure_ (i:=19) (N:=some 49) (v:=?_) (a':=?_) #[T,T,T,T,T,T,T,T,T,T,T,T,T,T,T,T,T,T,T,T,F,F,F,F,F,F,F,F,F,F,F,F,F,F] rfl rfl (any_of HT_.out (by kernel_rfl)) (fun _ _ _ h=>h) (Or.inl ⟨by rfl,?_⟩) ?_ ?_
               rotate_left
               ·intro w'
                go_simp
                with_reducible rfl
               rotate_left
               ·simp only [Act.put,zz21,zz22,zz23,i64_w,i32_w]
                rfl
               refine pure_ (i:=20) (N:=some 50) (v:=?_) (a':=?_) #[T,T,T,T,T,T,T,T,T,T,T,T,T,T,T,T,T,T,T,T,T,F,F,F,F,F,F,F,F,F,F,F,F,F] rfl rfl (any_of HT_.out (by kernel_rfl)) (fun _ _ _ h=>h) (Or.inl ⟨by rfl,?_⟩) ?_ ?_
               rotate_left
               ·intro w'
                go_simp
                with_reducible rfl
               rotate_left
               ·simp only [Act.put,zz21,zz22,zz23,i64_w,i32_w]
                rfl
               refine pure_ (i:=21) (N:=some 51) (v:=?_) (a':=?_) #[T,T,T,T,T,T,T,T,T,T,T,T,T,T,T,T,T,T,T,T,T,T,F,F,F,F,F,F,F,F,F,F,F,F] rfl rfl (any_of HT_.out (by kernel_rfl)) (fun _ _ _ h=>h) (Or.inl ⟨by rfl,?_⟩) ?_ ?_
               rotate_left
               ·intro w'
                go_simp
                with_reducible rfl
               rotate_left
               ·simp only [Act.put,zz21,zz22,zz23,i64_w,i32_w]
                rfl
               refine pure_ (i:=22) (N:=some 52) (v:=?_) (a':=?_) #[T,T,T,T,T,T,T,T,T,T,T,T,T,T,T,T,T,T,T,T,T,T,T,F,F,F,F,F,F,F,F,F,F,F] rfl rfl (any_of HT_.out (by kernel_rfl)) (fun _ _ _ h=>h) (Or.inl ⟨by rfl,?_⟩) ?_ ?_
               rotate_left
               ·intro w'
                go_simp
                with_reducible rfl
               rotate_left
               ·simp only [Act.put,zz21,zz22,zz23,i64_w,i32_w]
                rfl
               refine pure_ (i:=23) (N:=some 53) (v:=?_) (a':=?_) #[T,T,T,T,T,T,T,T,T,T,T,T,T,T,T,T,T,T,T,T,T,T,T,T,F,F,F,F,F,F,F,F,F,F] rfl rfl (any_of HT_.out (by kernel_rfl)) (fun _ _ _ h=>h) (Or.inl ⟨by rfl,?_⟩) ?_ ?_
               rotate_left
               ·intro w'
                go_simp
                with_reducible rfl
               rotate_left
               ·simp only [Act.put,zz21,zz22,zz23,i64_w,i32_w]
                rfl
               refine pure_ (i:=25) (N:=some 55) (v:=?_) (a':=?_) #[T,T,T,T,T,T,T,T,T,T,T,T,T,T,T,T,T,T,T,T,T,T,T,T,F,T,F,F,F,F,F,F,F,F] rfl rfl (any_of HT_.out (by kernel_rfl)) (fun _ _ _ h=>h) (Or.inl ⟨by rfl,?_⟩) ?_ ?_
               rotate_left
               ·intro w'
                go_simp
                with_reducible rfl
               rotate_left
               ·simp only [Act.put,zz21,zz22,zz23,i64_w,i32_w]
                rfl
               refine pure_ (i:=26) (N:=some 56) (v:=?_) (a':=?_) #[T,T,T,T,T,T,T,T,T,T,T,T,T,T,T,T,T,T,T,T,T,T,T,T,F,T,T,F,F,F,F,F,F,F] rfl rfl (any_of HT_.out (by kernel_rfl)) (fun _ _ _ h=>h) (Or.inl ⟨by rfl,?_⟩) ?_ ?_
               rotate_left
               ·intro w'
                go_simp
                with_reducible rfl
               rotate_left
               ·simp only [Act.put,zz21,zz22,zz23,i64_w,i32_w]
                rfl
               refine take_ (i:=24) (N:=some 54) (v:=?_) (a':=?_) #[T,T,T,T,T,T,T,T,T,T,T,T,T,T,T,T,T,T,T,T,T,T,T,T,T,T,T,F,F,F,F,F,F,F] rfl rfl (take_ofW HT_.out HW_.out (by kernel_rfl)) (fun _ _ _ h=>h) (Or.inl ⟨by rfl,?_⟩) hHeld ?_ ?_
               rotate_left
               ·rintro w' ⟨s0,s1,s2,s3,s4,s5⟩
                go_simp
                with_reducible rfl
               rotate_left
               ·simp only [Act.put,zz21,zz22,zz23,i64_w,i32_w]
                rfl
               refine pure_ (i:=27) (N:=some 57) (v:=?_) (a':=?_) #[T,T,T,T,T,T,T,T,T,T,T,T,T,T,T,T,T,T,T,T,T,T,T,T,T,T,T,T,F,F,F,F,F,F] rfl rfl (any_of HT_.out (by kernel_rfl)) (fun _ _ _ h=>h) (Or.inl ⟨by rfl,?_⟩) ?_ ?_
               rotate_left
               ·intro w'
                go_simp
                with_reducible rfl
               rotate_left
               ·simp only [Act.put,zz21,zz22,zz23,i64_w,i32_w]
                rfl
               refine take_ (i:=28) (N:=some 58) (v:=?_) (a':=?_) #[T,T,T,T,T,T,T,T,T,T,T,T,T,T,T,T,T,T,T,T,T,T,T,T,T,T,T,T,T,F,F,F,F,F] rfl rfl (take_ofW HT_.out HW_.out (by kernel_rfl)) (fun _ _ _ h=>h) (Or.inl ⟨by rfl,?_⟩) hHeld ?_ ?_
               rotate_left
               ·rintro w' ⟨s0,s1,s2,s3,s4,s5⟩
                go_simp
                with_reducible rfl
               rotate_left
               ·simp only [Act.put,zz21,zz22,zz23,i64_w,i32_w]
                rfl
               refine take_ (i:=29) (N:=some 59) (v:=?_) (a':=?_) #[T,T,T,T,T,T,T,T,T,T,T,T,T,T,T,T,T,T,T,T,T,T,T,T,T,T,T,T,T,T,F,F,F,F] rfl rfl (take_ofW HT_.out HW_.out (by kernel_rfl)) (fun _ _ _ h=>h) (Or.inl ⟨by rfl,?_⟩) hHeld ?_ ?_
               rotate_left
               ·rintro w' ⟨s0,s1,s2,s3,s4,s5⟩
                go_simp
                with_reducible rfl
               rotate_left
               ·simp only [Act.put,zz21,zz22,zz23,i64_w,i32_w]
                rfl
               refine one_ (i:=30) (N:=some 60) #[T,T,T,T,T,T,T,T,T,T,T,T,T,T,T,T,T,T,T,T,T,T,T,T,T,T,T,T,T,T,T,F,F,F] rfl rfl (one_of HT_.out (by kernel_rfl)) (by decide) (fun K hK=>?_)
               refine goes_ Try.func75 (by kernel_rfl) rfl #[.agg #[.int .i64 ((rd_T70 l0_1 (ji18)).f0),.int .i64 ((rd_T70 l0_1 (ji18)).f1)],.agg #[.int .i64 ((rd_T70 l0_1 x25_2).f0),.int .i64 ((rd_T70 l0_1 x25_2).f1)]] (by rfl) rfl rfl (by (try simp only [zz26,zz27,zz28]);first | done | (simp only [hji18];rfl) | rfl | (simp only [zz24,zz25];rfl)) ?_
               with_reducible refine (spec_paLess.calls ((rd_T70 l0_1 (ji18)).f0) ((rd_T70 l0_1 (ji18)).f1) ((rd_T70 l0_1 x25_2).f0) ((rd_T70 l0_1 x25_2).f1) true _ A21.out).mono ?_
               rintro e w28 ⟨rfl,hb⟩
               refine ⟨_,rfl,?_⟩
               have n0_:=zz31 (zz11 (g:=gb130) (o:=.cells #[.int .i64 a0_0,.slice (some ad132) l0_1.length c0_1] 30 (0,0)) (by (with_reducible repeat (first | refine zz6 ?_ _ | refine zz7 ?_ | refine zz8 ?_ _));exact BK130.out) hb)
               have n1_:=zz31 (zz11 (g:=gb133) (o:=.cells #[.int .i64 ((rd_T70 l0_1 x25_2).f0),.int .i64 ((rd_T70 l0_1 x25_2).f1)] 70 (0,0)) (by (with_reducible repeat (first | refine zz6 ?_ _ | refine zz7 ?_ | refine zz8 ?_ _));exact BK133.out) hb)
               have n2_:=zz31 (zz4 (by repeat first | exact HB.out | apply zz2 | apply zz0 | apply zz1 | refine zz3 ?_ GE130.out | refine zz3 ?_ GE133.out) hb)
               clear BK130
               clear BK133
               clear HB
               have BK130:=n0_
               have BK133:=n1_
               have HB:=n2_
               clear n0_ n1_ n2_
               (try clear hb)
               (try clear hb2)
               (try clear hk)
               (try clear hi)
               refine hK.out _ _ ⟨(zz9 BK133.out 0).trans rfl,(zz9 BK133.out 1).trans rfl,(zz9 BK130.out 0).trans rfl,(zz9 BK130.out 1).trans rfl,((HB.out.cell (World.block_lt_of_cell? w _ hw136_0)).trans hw136_0),((HB.out.cell (World.block_lt_of_cell? w _ hw136_1)).trans hw136_1)⟩ (fun hHeld=>?_)
               clear hK K
               refine norm_ (a':=?_) ?_ ?_
               rotate_left
               ·show Act.put _ (some 60) _=_
                simp only [Act.put,zz21,zz22,zz23,i64_w,i32_w]
                rfl
               refine pure_ (i:=31) (N:=some 61) (v:=?_) (a':=?_) #[T,T,T,T,T,T,T,T,T,T,T,T,T,T,T,T,T,T,T,T,T,T,T,T,T,T,T,T,T,T,T,T,F,F] rfl rfl (any_of HT_.out (by kernel_rfl)) (fun _ _ _ h=>h) (Or.inl ⟨by rfl,?_⟩) ?_ ?_
               rotate_left
               ·intro w'
                go_simp
                with_reducible rfl
               rotate_left
               ·simp only [Act.put,zz21,zz22,zz23,i64_w,i32_w]
                rfl
               refine pure_ (i:=32) (N:=some 62) (v:=?_) (a':=?_) #[T,T,T,T,T,T,T,T,T,T,T,T,T,T,T,T,T,T,T,T,T,T,T,T,T,T,T,T,T,T,T,T,T,F] rfl rfl (any_of HT_.out (by kernel_rfl)) (fun _ _ _ h=>h) (Or.inl ⟨by rfl,?_⟩) ?_ ?_
               rotate_left
               ·intro w'
                go_simp
                with_reducible rfl
               rotate_left
               ·simp only [Act.put,zz21,zz22,zz23,i64_w,i32_w]
                rfl
               refine pure_ (i:=33) (N:=some 63) (v:=?_) (a':=?_) #[T,T,T,T,T,T,T,T,T,T,T,T,T,T,T,T,T,T,T,T,T,T,T,T,T,T,T,T,T,T,T,T,T,T] rfl rfl (any_of HT_.out (by kernel_rfl)) (fun _ _ _ h=>h) (Or.inl ⟨by rfl,?_⟩) ?_ ?_
               rotate_left
               ·intro w'
                go_simp
                with_reducible rfl
               rotate_left
               ·simp only [Act.put,zz21,zz22,zz23,i64_w,i32_w]
                rfl
               refine done_ (done_of HT_.out (by kernel_rfl)) ?_
               try go_wp2
               go_roundg k2
               case measure=>have:=HJ1.out;have:=HK2.out;omega
               case rel=>exact ⟨(wrap64 (x25_2+1)),(by first | rfl | (simp;done) | (simp [*];done)),H',⟨by have:=HJ1.out;have:=HK2.out;omega⟩,⟨by (with_reducible repeat (first | refine zz6 ?_ _ | refine zz7 ?_ | refine zz8 ?_ _));exact BK130.out⟩,⟨by repeat first | exact HB.out | apply zz2 | apply zz0 | apply zz1 | refine zz3 ?_ GE130.out | refine zz3 ?_ GE133.out⟩⟩
              ·replace c22:=Bool.eq_false_iff.mpr c22
               subst c22
               have H1:(some false)=some r:=by rw [if_neg (show ¬ (false=true) by decide)] at H;exact H
               clear H
               have H:=H1
               clear H1
               obtain rfl:=Option.some.inj H
               have p132:0≤(x25_2:Int):=zz29 (by first | (with_reducible assumption) | assumption)
               have q132:x25_2 < (l0_1.length:Int):=zz29 (by first | (with_reducible assumption) | assumption)
               obtain ⟨ad132,e132,hx132_0,hx132_1⟩:=at_T70 HR0_1.out x25_2 p132 q132
               cases e132
               try replace hx132_0:=(HB.out.cell (World.block_lt_of_cell? w _ hx132_0)).trans hx132_0
               try replace hx132_1:=(HB.out.cell (World.block_lt_of_cell? w _ hx132_1)).trans hx132_1
               replace p132:=eq_true p132
               replace q132:=eq_true q132
               try go_wp2_with (first | ((with_reducible refine gate_dst (N:=4) rfl ?_);(try (refine gate_guard (by rfl) ?_;dsimp only));refine box_event ?hg (N:=4) ?hd (cs:=#[.int .i64 0,.int .i64 0]) (t:=70) ?hr ?_;(case hd=>rfl);(case hg=>rfl);(case hr=>first | (go_simp;done) | (go_simp;rfl));intro gb133 hg w29 hbox hb;have n0_:=zz31 (zz11 (g:=gb130) (o:=.cells #[.int .i64 a0_0,.slice (some ad132) l0_1.length c0_1] 30 (0,0)) (by (with_reducible repeat (first | refine zz6 ?_ _ | refine zz7 ?_ | refine zz8 ?_ _));exact BK130.out) hb);have n1_:=zz31 (zz4 (by repeat first | exact HB.out | apply zz2 | apply zz0 | apply zz1 | refine zz3 ?_ GE130.out) hb);have n2_:=zz31 (hbox);have n3_:=zz31 ((by rw [hg];exact (zz5 (by repeat first | exact HB.out | apply zz2 | apply zz0 | apply zz1 | refine zz3 ?_ GE130.out)):w.heap.size≤gb133));have n4_:=zz31 ((by rw [hg];exact (zz5 (by repeat first | exact HB.out | apply zz2 | apply zz0 | apply zz1 | refine zz3 ?_ GE130.out)):w.heap.size≤gb133));have n5_:=zz31 ((by rw [hg];exact Nat.ne_of_lt (blk_lt (g:=gb130) (o:=.cells #[.int .i64 a0_0,.slice (some ad132) l0_1.length c0_1] 30 (0,0)) (by (with_reducible repeat (first | refine zz6 ?_ _ | refine zz7 ?_ | refine zz8 ?_ _));exact BK130.out)):gb130 ≠ gb133));have n6_:=zz31 ((by rw [hg];exact Nat.ne_of_gt (blk_lt (g:=gb130) (o:=.cells #[.int .i64 a0_0,.slice (some ad132) l0_1.length c0_1] 30 (0,0)) (by (with_reducible repeat (first | refine zz6 ?_ _ | refine zz7 ?_ | refine zz8 ?_ _));exact BK130.out)):gb133 ≠ gb130));clear BK130;clear HB;have BK130:=n0_;have HB:=n1_;have BK133:=n2_;have GW133:=n3_;have GE133:=n4_;have NB130_133:=n5_;have NB133_130:=n6_;clear n0_ n1_ n2_ n3_ n4_ n5_ n6_;clear hb hbox hg;have hnb30:=NB133_130.out;have hnc30:=NB130_133.out;have hcz31_0:w29.cell? ⟨gb133,0,none⟩=some (.int .i64 0):=(zz9 BK133.out 0).trans rfl;have hcz31_1:w29.cell? ⟨gb133,1,none⟩=some (.int .i64 0):=(zz9 BK133.out 1).trans rfl;have hfz31_0:=zz10 BK133.out 0;have hfz31_1:=zz10 BK133.out 1))
               have n0_:Aside0 (((w29.setCell ⟨gb133,0,none⟩ (.int .i64 ((rd_T70 l0_1 x25_2).f0))).setCell ⟨gb133,1,none⟩ (.int .i64 ((rd_T70 l0_1 x25_2).f1))).heap[gb130]?=some (.cells #[.int .i64 a0_0,.slice (some ad132) l0_1.length c0_1] 30 (0,0))):=⟨by (with_reducible repeat (first | refine zz6 ?_ _ | refine zz7 ?_ | refine zz8 ?_ _));refine blk_far ?_ NB130_133.out _;(with_reducible repeat (first | refine zz6 ?_ _ | refine zz7 ?_ | refine zz8 ?_ _));refine blk_far ?_ NB130_133.out _;(with_reducible repeat (first | refine zz6 ?_ _ | refine zz7 ?_ | refine zz8 ?_ _));exact BK130.out⟩
               have n1_:Aside0 (((w29.setCell ⟨gb133,0,none⟩ (.int .i64 ((rd_T70 l0_1 x25_2).f0))).setCell ⟨gb133,1,none⟩ (.int .i64 ((rd_T70 l0_1 x25_2).f1))).heap[gb133]?=some (.cells #[.int .i64 ((rd_T70 l0_1 x25_2).f0),.int .i64 ((rd_T70 l0_1 x25_2).f1)] 70 (0,0))):=⟨by (with_reducible repeat (first | refine zz6 ?_ _ | refine zz7 ?_ | refine zz8 ?_ _));refine blk_put (cs:=#[.int .i64 ((rd_T70 l0_1 x25_2).f0),.int .i64 0]) ?_ 1 _ rfl;(with_reducible repeat (first | refine zz6 ?_ _ | refine zz7 ?_ | refine zz8 ?_ _));refine blk_put (cs:=#[.int .i64 0,.int .i64 0]) ?_ 0 _ rfl;(with_reducible repeat (first | refine zz6 ?_ _ | refine zz7 ?_ | refine zz8 ?_ _));exact BK133.out⟩
               have n2_:Aside0 (Below w.heap.size w ((w29.setCell ⟨gb133,0,none⟩ (.int .i64 ((rd_T70 l0_1 x25_2).f0))).setCell ⟨gb133,1,none⟩ (.int .i64 ((rd_T70 l0_1 x25_2).f1)))):=⟨by repeat first | exact HB.out | apply zz2 | apply zz0 | apply zz1 | refine zz3 ?_ GE130.out | refine zz3 ?_ GE133.out⟩
               (try clear BK130)
               (try clear BK133)
               (try clear HB)
               generalize ((w29.setCell ⟨gb133,0,none⟩ (.int .i64 ((rd_T70 l0_1 x25_2).f0))).setCell ⟨gb133,1,none⟩ (.int .i64 ((rd_T70 l0_1 x25_2).f1)))=w32 at n0_ n1_ n2_ ⊢
               have BK130:=n0_
               have BK133:=n1_
               have HB:=n2_
               clear n0_ n1_ n2_
               have n0_:=zz31 (zz7 BK130.out)
               have n1_:=zz31 (zz7 BK133.out)
               have n2_:=zz31 (zz1 HB.out)
               clear BK130
               clear BK133
               clear HB
               have BK130:=n0_
               have BK133:=n1_
               have HB:=n2_
               clear n0_ n1_ n2_
               have p136:0≤((ji18):Int):=zz29 (by first | (with_reducible assumption) | assumption)
               have q136:(ji18) < (l0_1.length:Int):=zz29 (by first | (with_reducible assumption) | assumption)
               obtain ⟨ad136,e136,hx136_0,hx136_1⟩:=at_T70 HR0_1.out (ji18) p136 q136
               have hw136_1:=hx136_1
               have hw136_0:=hx136_0
               obtain rfl:ad132=ad136:=(by injection e136)
               try replace hx136_0:=(HB.out.cell (World.block_lt_of_cell? w _ hx136_0)).trans hx136_0
               try replace hx136_1:=(HB.out.cell (World.block_lt_of_cell? w _ hx136_1)).trans hx136_1
               replace p136:=eq_true p136
               replace q136:=eq_true q136
               refine start_ (n:=34) (S:=fun w'=>w'.cell? ⟨gb133,0,none⟩=some (.int .i64 ((rd_T70 l0_1 x25_2).f0))∧w'.cell? ⟨gb133,1,none⟩=some (.int .i64 ((rd_T70 l0_1 x25_2).f1))∧w'.cell? ⟨gb130,0,none⟩=some (.int .i64 a0_0)∧w'.cell? ⟨gb130,1,none⟩=some (.slice (some ad132) l0_1.length c0_1)∧w'.cell? (ad132.add (((ji18)).toNat * 2))=some (.int .i64 ((rd_T70 l0_1 (ji18)).f0))∧w'.cell? ⟨(ad132.add (((ji18)).toNat * 2)).block,(ad132.add (((ji18)).toNat * 2)).off+1,none⟩=some (.int .i64 ((rd_T70 l0_1 (ji18)).f1))) (ds:=[]) #[F,F,F,F,F,F,F,F,F,F,F,F,F,F,F,F,F,F,F,F,F,F,F,F,F,F,F,F,F,F,F,F,F,F] (by kernel_rfl) rfl rfl ⟨(zz9 BK133.out 0).trans rfl,(zz9 BK133.out 1).trans rfl,(zz9 BK130.out 0).trans rfl,(zz9 BK130.out 1).trans rfl,((HB.out.cell (World.block_lt_of_cell? w _ hw136_0)).trans hw136_0),((HB.out.cell (World.block_lt_of_cell? w _ hw136_1)).trans hw136_1)⟩ (fun hHeld=>?_);refine with_tabW spec_paGood.tab6 spec_paGood.bits6 (fun HT_ HW_=>?_)
               generalize w32.drew=w33 at BK130 BK133 HB hx136_0 hx136_1 hHeld ⊢
               refine pure_ (i:=0) (N:=some 30) (v:=?_) (a':=?_) #[T,F,F,F,F,F,F,F,F,F,F,F,F,F,F,F,F,F,F,F,F,F,F,F,F,F,F,F,F,F,F,F,F,F] rfl rfl (any_of HT_.out (by kernel_rfl)) (fun _ _ _ h=>h) (Or.inl ⟨by rfl,?_⟩) ?_ ?_
               rotate_left
               ·intro w'
                go_simp
                with_reducible rfl
               rotate_left
               ·simp only [Act.put,zz21,zz22,zz23,i64_w,i32_w]
                rfl
               refine pure_ (i:=2) (N:=some 32) (v:=?_) (a':=?_) #[T,F,T,F,F,F,F,F,F,F,F,F,F,F,F,F,F,F,F,F,F,F,F,F,F,F,F,F,F,F,F,F,F,F] rfl rfl (any_of HT_.out (by kernel_rfl)) (fun _ _ _ h=>h) (Or.inl ⟨by rfl,?_⟩) ?_ ?_
               rotate_left
               ·intro w'
                go_simp
                with_reducible rfl
               rotate_left
               ·simp only [Act.put,zz21,zz22,zz23,i64_w,i32_w]
                rfl
               refine take_ (i:=1) (N:=some 31) (v:=?_) (a':=?_) #[T,T,T,F,F,F,F,F,F,F,F,F,F,F,F,F,F,F,F,F,F,F,F,F,F,F,F,F,F,F,F,F,F,F] rfl rfl (take_ofW HT_.out HW_.out (by kernel_rfl)) (fun _ _ _ h=>h) (Or.inl ⟨by rfl,?_⟩) hHeld ?_ ?_
               rotate_left
               ·rintro w' ⟨s0,s1,s2,s3,s4,s5⟩
                go_simp
                with_reducible rfl
               rotate_left
               ·simp only [Act.put,zz21,zz22,zz23,i64_w,i32_w]
                rfl
               refine take_ (i:=3) (N:=some 33) (v:=?_) (a':=?_) #[T,T,T,T,F,F,F,F,F,F,F,F,F,F,F,F,F,F,F,F,F,F,F,F,F,F,F,F,F,F,F,F,F,F] rfl rfl (take_ofW HT_.out HW_.out (by kernel_rfl)) (fun _ _ _ h=>h) (Or.inl ⟨by rfl,?_⟩) hHeld ?_ ?_
               rotate_left
               ·rintro w' ⟨s0,s1,s2,s3,s4,s5⟩
                go_simp
                with_reducible rfl
               rotate_left
               ·simp only [Act.put,zz21,zz22,zz23,i64_w,i32_w]
                rfl
               refine pure_ (i:=4) (N:=some 34) (v:=?_) (a':=?_) #[T,T,T,T,T,F,F,F,F,F,F,F,F,F,F,F,F,F,F,F,F,F,F,F,F,F,F,F,F,F,F,F,F,F] rfl rfl (any_of HT_.out (by kernel_rfl)) (fun _ _ _ h=>h) (Or.inl ⟨by rfl,?_⟩) ?_ ?_
               rotate_left
               ·intro w'
                go_simp
                with_reducible rfl
               rotate_left
               ·simp only [Act.put,zz21,zz22,zz23,i64_w,i32_w]
                rfl
               refine one_ (i:=5) (N:=some 35) #[T,T,T,T,T,T,F,F,F,F,F,F,F,F,F,F,F,F,F,F,F,F,F,F,F,F,F,F,F,F,F,F,F,F] rfl rfl (one_of HT_.out (by kernel_rfl)) (by decide) (fun K hK=>?_)
               refine goes_ Try.func74 (by kernel_rfl) rfl #[.int .i64 ((rd_T70 l0_1 x25_2).f0),.int .i64 0,.int .i64 (wrap64 (a0_0 - 1))] (by rfl) rfl rfl (by (try simp only [zz26,zz27,zz28]);first | done | rfl | (simp only [zz24,zz25];rfl)) ?_
               with_reducible refine (spec_l1In.calls ((rd_T70 l0_1 x25_2).f0) 0 (wrap64 (a0_0 - 1)) true _ A13.out).mono ?_
               rintro e w' ⟨rfl,⟨nd,rfl⟩⟩
               refine ⟨_,rfl,?_⟩
               refine hK.out _ _ ⟨(zz9 BK133.out 0).trans rfl,(zz9 BK133.out 1).trans rfl,(zz9 BK130.out 0).trans rfl,(zz9 BK130.out 1).trans rfl,((HB.out.cell (World.block_lt_of_cell? w _ hw136_0)).trans hw136_0),((HB.out.cell (World.block_lt_of_cell? w _ hw136_1)).trans hw136_1)⟩ (fun hHeld=>?_)
               clear hK K
               refine norm_ (a':=?_) ?_ ?_
               rotate_left
               ·show Act.put _ (some 35) _=_
                simp only [Act.put,zz21,zz22,zz23,i64_w,i32_w]
                rfl
               refine pure_ (i:=6) (N:=some 36) (v:=?_) (a':=?_) #[T,T,T,T,T,T,T,F,F,F,F,F,F,F,F,F,F,F,F,F,F,F,F,F,F,F,F,F,F,F,F,F,F,F] rfl rfl (any_of HT_.out (by kernel_rfl)) (fun _ _ _ h=>h) (Or.inl ⟨by rfl,?_⟩) ?_ ?_
               rotate_left
               ·intro w'
                go_simp
                with_reducible rfl
               rotate_left
               ·simp only [Act.put,zz21,zz22,zz23,i64_w,i32_w]
                rfl
               refine pure_ (i:=7) (N:=some 37) (v:=?_) (a':=?_) #[T,T,T,T,T,T,T,T,F,F,F,F,F,F,F,F,F,F,F,F,F,F,F,F,F,F,F,F,F,F,F,F,F,F] rfl rfl (any_of HT_.out (by kernel_rfl)) (fun _ _ _ h=>h) (Or.inl ⟨by rfl,?_⟩) ?_ ?_
               rotate_left
               ·intro w'
                go_simp
                with_reducible rfl
               rotate_left
               ·simp only [Act.put,zz21,zz22,zz23,i64_w,i32_w]
                rfl
               refine pure_ (i:=8) (N:=some 38) (v:=?_) (a':=?_) #[T,T,T,T,T,T,T,T,T,F,F,F,F,F,F,F,F,F,F,F,F,F,F,F,F,F,F,F,F,F,F,F,F,F] rfl rfl (any_of HT_.out (by kernel_rfl)) (fun _ _ _ h=>h) (Or.inl ⟨by rfl,?_⟩) ?_ ?_
               rotate_left
               ·intro w'
                go_simp
                with_reducible rfl
               rotate_left
               ·simp only [Act.put,zz21,zz22,zz23,i64_w,i32_w]
                rfl
               refine pure_ (i:=10) (N:=some 40) (v:=?_) (a':=?_) #[T,T,T,T,T,T,T,T,T,F,T,F,F,F,F,F,F,F,F,F,F,F,F,F,F,F,F,F,F,F,F,F,F,F] rfl rfl (any_of HT_.out (by kernel_rfl)) (fun _ _ _ h=>h) (Or.inl ⟨by rfl,?_⟩) ?_ ?_
               rotate_left
               ·intro w'
                go_simp
                with_reducible rfl
               rotate_left
               ·simp only [Act.put,zz21,zz22,zz23,i64_w,i32_w]
                rfl
               refine pure_ (i:=13) (N:=some 43) (v:=?_) (a':=?_) #[T,T,T,T,T,T,T,T,T,F,T,F,F,T,F,F,F,F,F,F,F,F,F,F,F,F,F,F,F,F,F,F,F,F] rfl rfl (any_of HT_.out (by kernel_rfl)) (fun _ _ _ h=>h) (Or.inl ⟨by rfl,?_⟩) ?_ ?_
               rotate_left
               ·intro w'
                go_simp
                with_reducible rfl
               rotate_left
               ·simp only [Act.put,zz21,zz22,zz23,i64_w,i32_w]
                rfl
               refine take_ (i:=9) (N:=some 39) (v:=?_) (a':=?_) #[T,T,T,T,T,T,T,T,T,T,T,F,F,T,F,F,F,F,F,F,F,F,F,F,F,F,F,F,F,F,F,F,F,F] rfl rfl (take_ofW HT_.out HW_.out (by kernel_rfl)) (fun _ _ _ h=>h) (Or.inl ⟨by rfl,?_⟩) hHeld ?_ ?_
               rotate_left
               ·rintro w' ⟨s0,s1,s2,s3,s4,s5⟩
                go_simp
                with_reducible rfl
               rotate_left
               ·simp only [Act.put,zz21,zz22,zz23,i64_w,i32_w]
                rfl
               refine take_ (i:=11) (N:=some 41) (v:=?_) (a':=?_) #[T,T,T,T,T,T,T,T,T,T,T,T,F,T,F,F,F,F,F,F,F,F,F,F,F,F,F,F,F,F,F,F,F,F] rfl rfl (take_ofW HT_.out HW_.out (by kernel_rfl)) (fun _ _ _ h=>h) (Or.inl ⟨by rfl,?_⟩) hHeld ?_ ?_
               rotate_left
               ·rintro w' ⟨s0,s1,s2,s3,s4,s5⟩
                go_simp
                with_reducible rfl
               rotate_left
               ·simp only [Act.put,zz21,zz22,zz23,i64_w,i32_w]
                rfl
               refine pure_ (i:=12) (N:=some 42) (v:=?_) (a':=?_) #[T,T,T,T,T,T,T,T,T,T,T,T,T,T,F,F,F,F,F,F,F,F,F,F,F,F,F,F,F,F,F,F,F,F] rfl rfl (any_of HT_.out (by kernel_rfl)) (fun _ _ _ h=>h) (Or.inl ⟨by rfl,?_⟩) ?_ ?_
               rotate_left
               ·intro w'
                go_simp
                with_reducible rfl
               rotate_left
               ·simp only [Act.put,zz21,zz22,zz23,i64_w,i32_w]
                rfl
               refine take_ (i:=14) (N:=some 44) (v:=?_) (a':=?_) #[T,T,T,T,T,T,T,T,T,T,T,T,T,T,T,F,F,F,F,F,F,F,F,F,F,F,F,F,F,F,F,F,F,F] rfl rfl (take_ofW HT_.out HW_.out (by kernel_rfl)) (fun _ _ _ h=>h) (Or.inl ⟨by rfl,?_⟩) hHeld ?_ ?_
               rotate_left
               ·rintro w' ⟨s0,s1,s2,s3,s4,s5⟩
                go_simp
                with_reducible rfl
               rotate_left
               ·simp only [Act.put,zz21,zz22,zz23,i64_w,i32_w]
                rfl
               refine pure_ (i:=15) (N:=some 45) (v:=?_) (a':=?_) #[T,T,T,T,T,T,T,T,T,T,T,T,T,T,T,T,F,F,F,F,F,F,F,F,F,F,F,F,F,F,F,F,F,F] rfl rfl (any_of HT_.out (by kernel_rfl)) (fun _ _ _ h=>h) (Or.inl ⟨by rfl,?_⟩) ?_ ?_
               rotate_left
               ·intro w'
                go_simp
                with_reducible rfl
               rotate_left
               ·simp only [Act.put,zz21,zz22,zz23,i64_w,i32_w]
                rfl
               refine one_ (i:=16) (N:=some 46) #[T,T,T,T,T,T,T,T,T,T,T,T,T,T,T,T,T,F,F,F,F,F,F,F,F,F,F,F,F,F,F,F,F,F] rfl rfl (one_of HT_.out (by kernel_rfl)) (by decide) (fun K hK=>?_)
               refine goes_ Try.func74 (by kernel_rfl) rfl #[.int .i64 ((rd_T70 l0_1 x25_2).f1),.int .i64 (wrap64 (((rd_T70 l0_1 x25_2).f0)+1)),.int .i64 (wrap64 (a0_0 - 1))] (by rfl) rfl rfl (by (try simp only [zz26,zz27,zz28]);first | done | rfl | (simp only [zz24,zz25];rfl)) ?_
               with_reducible refine (spec_l1In.calls ((rd_T70 l0_1 x25_2).f1) (wrap64 (((rd_T70 l0_1 x25_2).f0)+1)) (wrap64 (a0_0 - 1)) true _ A15.out).mono ?_
               rintro e w' ⟨rfl,⟨nd,rfl⟩⟩
               refine ⟨_,rfl,?_⟩
               refine hK.out _ _ ⟨(zz9 BK133.out 0).trans rfl,(zz9 BK133.out 1).trans rfl,(zz9 BK130.out 0).trans rfl,(zz9 BK130.out 1).trans rfl,((HB.out.cell (World.block_lt_of_cell? w _ hw136_0)).trans hw136_0),((HB.out.cell (World.block_lt_of_cell? w _ hw136_1)).trans hw136_1)⟩ (fun hHeld=>?_)
               clear hK K
               refine norm_ (a':=?_) ?_ ?_
               rotate_left
               ·show Act.put _ (some 46) _=_
                simp only [Act.put,zz21,zz22,zz23,i64_w,i32_w]
                rfl
               refine pure_ (i:=17) (N:=some 47) (v:=?_) (a':=?_) #[T,T,T,T,T,T,T,T,T,T,T,T,T,T,T,T,T,T,F,F,F,F,F,F,F,F,F,F,F,F,F,F,F,F] rfl rfl (any_of HT_.out (by kernel_rfl)) (fun _ _ _ h=>h) (Or.inl ⟨by rfl,?_⟩) ?_ ?_
               rotate_left
               ·intro w'
                go_simp
                with_reducible rfl
               rotate_left
               ·simp only [Act.put,zz21,zz22,zz23,i64_w,i32_w]
                rfl
               refine pure_ (i:=18) (N:=some 48) (v:=?_) (a':=?_) #[T,T,T,T,T,T,T,T,T,T,T,T,T,T,T,T,T,T,T,F,F,F,F,F,F,F,F,F,F,F,F,F,F,F] rfl rfl (any_of HT_.out (by kernel_rfl)) (fun _ _ _ h=>h) (Or.inl ⟨by rfl,?_⟩) ?_ ?_
               rotate_left
               ·intro w'
                go_simp
                with_reducible rfl
               rotate_left
               ·simp only [Act.put,zz21,zz22,zz23,i64_w,i32_w]
                rfl
               refine pure_ (i:=19) (N:=some 49) (v:=?_) (a':=?_) #[T,T,T,T,T,T,T,T,T,T,T,T,T,T,T,T,T,T,T,T,F,F,F,F,F,F,F,F,F,F,F,F,F,F] rfl rfl (any_of HT_.out (by kernel_rfl)) (fun _ _ _ h=>h) (Or.inl ⟨by rfl,?_⟩) ?_ ?_
               rotate_left
               ·intro w'
                go_simp
                with_reducible rfl
               rotate_left
               ·simp only [Act.put,zz21,zz22,zz23,i64_w,i32_w]
                rfl
               refine pure_ (i:=20) (N:=some 50) (v:=?_) (a':=?_) #[T,T,T,T,T,T,T,T,T,T,T,T,T,T,T,T,T,T,T,T,T,F,F,F,F,F,F,F,F,F,F,F,F,F] rfl rfl (any_of HT_.out (by kernel_rfl)) (fun _ _ _ h=>h) (Or.inl ⟨by rfl,?_⟩) ?_ ?_
               rotate_left
               ·intro w'
                go_simp
                with_reducible rfl
               rotate_left
               ·simp only [Act.put,zz21,zz22,zz23,i64_w,i32_w]
                rfl
               refine pure_ (i:=21) (N:=some 51) (v:=?_) (a':=?_) #[T,T,T,T,T,T,T,T,T,T,T,T,T,T,T,T,T,T,T,T,T,T,F,F,F,F,F,F,F,F,F,F,F,F] rfl rfl (any_of HT_.out (by kernel_rfl)) (fun _ _ _ h=>h) (Or.inl ⟨by rfl,?_⟩) ?_ ?_
               rotate_left
               ·intro w'
                go_simp
                with_reducible rfl
               rotate_left
               ·simp only [Act.put,zz21,zz22,zz23,i64_w,i32_w]
                rfl
               refine pure_ (i:=22) (N:=some 52) (v:=?_) (a':=?_) #[T,T,T,T,T,T,T,T,T,T,T,T,T,T,T,T,T,T,T,T,T,T,T,F,F,F,F,F,F,F,F,F,F,F] rfl rfl (any_of HT_.out (by kernel_rfl)) (fun _ _ _ h=>h) (Or.inl ⟨by rfl,?_⟩) ?_ ?_
               rotate_left
               ·intro w'
                go_simp
                with_reducible rfl
               rotate_left
               ·simp only [Act.put,zz21,zz22,zz23,i64_w,i32_w]
                rfl
               refine pure_ (i:=23) (N:=some 53) (v:=?_) (a':=?_) #[T,T,T,T,T,T,T,T,T,T,T,T,T,T,T,T,T,T,T,T,T,T,T,T,F,F,F,F,F,F,F,F,F,F] rfl rfl (any_of HT_.out (by kernel_rfl)) (fun _ _ _ h=>h) (Or.inl ⟨by rfl,?_⟩) ?_ ?_
               rotate_left
               ·intro w'
                go_simp
                with_reducible rfl
               rotate_left
               ·simp only [Act.put,zz21,zz22,zz23,i64_w,i32_w]
                rfl
               refine pure_ (i:=25) (N:=some 55) (v:=?_) (a':=?_) #[T,T,T,T,T,T,T,T,T,T,T,T,T,T,T,T,T,T,T,T,T,T,T,T,F,T,F,F,F,F,F,F,F,F] rfl rfl (any_of HT_.out (by kernel_rfl)) (fun _ _ _ h=>h) (Or.inl ⟨by rfl,?_⟩) ?_ ?_
               rotate_left
               ·intro w'
                go_simp
                with_reducible rfl
               rotate_left
               ·simp only [Act.put,zz21,zz22,zz23,i64_w,i32_w]
                rfl
               refine pure_ (i:=26) (N:=some 56) (v:=?_) (a':=?_) #[T,T,T,T,T,T,T,T,T,T,T,T,T,T,T,T,T,T,T,T,T,T,T,T,F,T,T,F,F,F,F,F,F,F] rfl rfl (any_of HT_.out (by kernel_rfl)) (fun _ _ _ h=>h) (Or.inl ⟨by rfl,?_⟩) ?_ ?_
               rotate_left
               ·intro w'
                go_simp
                with_reducible rfl
               rotate_left
               ·simp only [Act.put,zz21,zz22,zz23,i64_w,i32_w]
                rfl
               refine take_ (i:=24) (N:=some 54) (v:=?_) (a':=?_) #[T,T,T,T,T,T,T,T,T,T,T,T,T,T,T,T,T,T,T,T,T,T,T,T,T,T,T,F,F,F,F,F,F,F] rfl rfl (take_ofW HT_.out HW_.out (by kernel_rfl)) (fun _ _ _ h=>h) (Or.inl ⟨by rfl,?_⟩) hHeld ?_ ?_
               rotate_left
               ·rintro w' ⟨s0,s1,s2,s3,s4,s5⟩
                go_simp
                with_reducible rfl
               rotate_left
               ·simp only [Act.put,zz21,zz22,zz23,i64_w,i32_w]
                rfl
               refine pure_ (i:=27) (N:=some 57) (v:=?_) (a':=?_) #[T,T,T,T,T,T,T,T,T,T,T,T,T,T,T,T,T,T,T,T,T,T,T,T,T,T,T,T,F,F,F,F,F,F] rfl rfl (any_of HT_.out (by kernel_rfl)) (fun _ _ _ h=>h) (Or.inl ⟨by rfl,?_⟩) ?_ ?_
               rotate_left
               ·intro w'
                go_simp
                with_reducible rfl
               rotate_left
               ·simp only [Act.put,zz21,zz22,zz23,i64_w,i32_w]
                rfl
               refine take_ (i:=28) (N:=some 58) (v:=?_) (a':=?_) #[T,T,T,T,T,T,T,T,T,T,T,T,T,T,T,T,T,T,T,T,T,T,T,T,T,T,T,T,T,F,F,F,F,F] rfl rfl (take_ofW HT_.out HW_.out (by kernel_rfl)) (fun _ _ _ h=>h) (Or.inl ⟨by rfl,?_⟩) hHeld ?_ ?_
               rotate_left
               ·rintro w' ⟨s0,s1,s2,s3,s4,s5⟩
                go_simp
                with_reducible rfl
               rotate_left
               ·simp only [Act.put,zz21,zz22,zz23,i64_w,i32_w]
                rfl
               refine take_ (i:=29) (N:=some 59) (v:=?_) (a':=?_) #[T,T,T,T,T,T,T,T,T,T,T,T,T,T,T,T,T,T,T,T,T,T,T,T,T,T,T,T,T,T,F,F,F,F] rfl rfl (take_ofW HT_.out HW_.out (by kernel_rfl)) (fun _ _ _ h=>h) (Or.inl ⟨by rfl,?_⟩) hHeld ?_ ?_
               rotate_left
               ·rintro w' ⟨s0,s1,s2,s3,s4,s5⟩
                go_simp
                with_reducible rfl
               rotate_left
               ·simp only [Act.put,zz21,zz22,zz23,i64_w,i32_w]
                rfl
               refine one_ (i:=30) (N:=some 60) #[T,T,T,T,T,T,T,T,T,T,T,T,T,T,T,T,T,T,T,T,T,T,T,T,T,T,T,T,T,T,T,F,F,F] rfl rfl (one_of HT_.out (by kernel_rfl)) (by decide) (fun K hK=>?_)
               refine goes_ Try.func75 (by kernel_rfl) rfl #[.agg #[.int .i64 ((rd_T70 l0_1 (ji18)).f0),.int .i64 ((rd_T70 l0_1 (ji18)).f1)],.agg #[.int .i64 ((rd_T70 l0_1 x25_2).f0),.int .i64 ((rd_T70 l0_1 x25_2).f1)]] (by rfl) rfl rfl (by (try simp only [zz26,zz27,zz28]);first | done | (simp only [hji18];rfl) | rfl | (simp only [zz24,zz25];rfl)) ?_
               with_reducible refine (spec_paLess.calls ((rd_T70 l0_1 (ji18)).f0) ((rd_T70 l0_1 (ji18)).f1) ((rd_T70 l0_1 x25_2).f0) ((rd_T70 l0_1 x25_2).f1) false _ A21.out).mono ?_
               rintro e w34 ⟨rfl,hb⟩
               refine ⟨_,rfl,?_⟩
               have n0_:=zz31 (zz11 (g:=gb130) (o:=.cells #[.int .i64 a0_0,.slice (some ad132) l0_1.length c0_1] 30 (0,0)) (by (with_reducible repeat (first | refine zz6 ?_ _ | refine zz7 ?_ | refine zz8 ?_ _));exact BK130.out) hb)
               have n1_:=zz31 (zz11 (g:=gb133) (o:=.cells #[.int .i64 ((rd_T70 l0_1 x25_2).f0),.int .i64 ((rd_T70 l0_1 x25_2).f1)] 70 (0,0)) (by (with_reducible repeat (first | refine zz6 ?_ _ | refine zz7 ?_ | refine zz8 ?_ _));exact BK133.out) hb)
               have n2_:=zz31 (zz4 (by repeat first | exact HB.out | apply zz2 | apply zz0 | apply zz1 | refine zz3 ?_ GE130.out | refine zz3 ?_ GE133.out) hb)
               clear BK130
               clear BK133
               clear HB
               have BK130:=n0_
               have BK133:=n1_
               have HB:=n2_
               clear n0_ n1_ n2_
               (try clear hb)
               (try clear hb2)
               (try clear hk)
               (try clear hi)
               refine hK.out _ _ ⟨(zz9 BK133.out 0).trans rfl,(zz9 BK133.out 1).trans rfl,(zz9 BK130.out 0).trans rfl,(zz9 BK130.out 1).trans rfl,((HB.out.cell (World.block_lt_of_cell? w _ hw136_0)).trans hw136_0),((HB.out.cell (World.block_lt_of_cell? w _ hw136_1)).trans hw136_1)⟩ (fun hHeld=>?_)
               clear hK K
               refine norm_ (a':=?_) ?_ ?_
               rotate_left
               ·show Act.put _ (some 60) _=_
                simp only [Act.put,zz21,zz22,zz23,i64_w,i32_w]
                rfl
               refine pure_ (i:=31) (N:=some 61) (v:=?_) (a':=?_) #[T,T,T,T,T,T,T,T,T,T,T,T,T,T,T,T,T,T,T,T,T,T,T,T,T,T,T,T,T,T,T,T,F,F] rfl rfl (any_of HT_.out (by kernel_rfl)) (fun _ _ _ h=>h) (Or.inl ⟨by rfl,?_⟩) ?_ ?_
               rotate_left
               ·intro w'
                go_simp
                with_reducible rfl
               rotate_left
               ·simp only [Act.put,zz21,zz22,zz23,i64_w,i32_w]
                rfl
               refine pure_ (i:=32) (N:=some 62) (v:=?_) (a':=?_) #[T,T,T,T,T,T,T,T,T,T,T,T,T,T,T,T,T,T,T,T,T,T,T,T,T,T,T,T,T,T,T,T,T,F] rfl rfl (any_of HT_.out (by kernel_rfl)) (fun _ _ _ h=>h) (Or.inl ⟨by rfl,?_⟩) ?_ ?_
               rotate_left
               ·intro w'
                go_simp
                with_reducible rfl
               rotate_left
               ·simp only [Act.put,zz21,zz22,zz23,i64_w,i32_w]
                rfl
               refine pure_ (i:=33) (N:=some 63) (v:=?_) (a':=?_) #[T,T,T,T,T,T,T,T,T,T,T,T,T,T,T,T,T,T,T,T,T,T,T,T,T,T,T,T,T,T,T,T,T,T] rfl rfl (any_of HT_.out (by kernel_rfl)) (fun _ _ _ h=>h) (Or.inl ⟨by rfl,?_⟩) ?_ ?_
               rotate_left
               ·intro w'
                go_simp
                with_reducible rfl
               rotate_left
               ·simp only [Act.put,zz21,zz22,zz23,i64_w,i32_w]
                rfl
               refine done_ (done_of HT_.out (by kernel_rfl)) ?_
               try go_wp2
               go_ret
               exact ⟨by first | rfl | (simp [errW_none,errW_some] <;> rfl) | (simp only [← hji18];first | rfl | (simp [errW_none,errW_some] <;> rfl)) | (simp [*,errW_none,errW_some] <;> rfl),by repeat first | exact HB.out | apply zz2 | apply zz0 | apply zz1 | refine zz3 ?_ GE130.out | refine zz3 ?_ GE133.out⟩
             ·rw [if_neg c20] at H
              exact absurd H (by simp)
            ·rw [if_neg c19] at H
             exact absurd H (by simp)
           ·rw [if_neg c17] at H
            have c17b0:decide (0 < x25_2)=false:=decide_eq_false c17
            clear c17
            have H':=zz31 H
            clear H
            have p132:0≤(x25_2:Int):=zz29 (by first | (with_reducible assumption) | assumption)
            have q132:x25_2 < (l0_1.length:Int):=zz29 (by first | (with_reducible assumption) | assumption)
            obtain ⟨ad132,e132,hx132_0,hx132_1⟩:=at_T70 HR0_1.out x25_2 p132 q132
            cases e132
            try replace hx132_0:=(HB.out.cell (World.block_lt_of_cell? w _ hx132_0)).trans hx132_0
            try replace hx132_1:=(HB.out.cell (World.block_lt_of_cell? w _ hx132_1)).trans hx132_1
            replace p132:=eq_true p132
            replace q132:=eq_true q132
            try go_wp2_with (first | ((with_reducible refine gate_dst (N:=4) rfl ?_);(try (refine gate_guard (by rfl) ?_;dsimp only));refine box_event ?hg (N:=4) ?hd (cs:=#[.int .i64 0,.int .i64 0]) (t:=70) ?hr ?_;(case hd=>rfl);(case hg=>rfl);(case hr=>first | (go_simp;done) | (go_simp;rfl));intro gb133 hg w35 hbox hb;have n0_:=zz31 (zz11 (g:=gb130) (o:=.cells #[.int .i64 a0_0,.slice (some ad132) l0_1.length c0_1] 30 (0,0)) (by (with_reducible repeat (first | refine zz6 ?_ _ | refine zz7 ?_ | refine zz8 ?_ _));exact BK130.out) hb);have n1_:=zz31 (zz4 (by repeat first | exact HB.out | apply zz2 | apply zz0 | apply zz1 | refine zz3 ?_ GE130.out) hb);have n2_:=zz31 (hbox);have n3_:=zz31 ((by rw [hg];exact (zz5 (by repeat first | exact HB.out | apply zz2 | apply zz0 | apply zz1 | refine zz3 ?_ GE130.out)):w.heap.size≤gb133));have n4_:=zz31 ((by rw [hg];exact (zz5 (by repeat first | exact HB.out | apply zz2 | apply zz0 | apply zz1 | refine zz3 ?_ GE130.out)):w.heap.size≤gb133));have n5_:=zz31 ((by rw [hg];exact Nat.ne_of_lt (blk_lt (g:=gb130) (o:=.cells #[.int .i64 a0_0,.slice (some ad132) l0_1.length c0_1] 30 (0,0)) (by (with_reducible repeat (first | refine zz6 ?_ _ | refine zz7 ?_ | refine zz8 ?_ _));exact BK130.out)):gb130 ≠ gb133));have n6_:=zz31 ((by rw [hg];exact Nat.ne_of_gt (blk_lt (g:=gb130) (o:=.cells #[.int .i64 a0_0,.slice (some ad132) l0_1.length c0_1] 30 (0,0)) (by (with_reducible repeat (first | refine zz6 ?_ _ | refine zz7 ?_ | refine zz8 ?_ _));exact BK130.out)):gb133 ≠ gb130));clear BK130;clear HB;have BK130:=n0_;have HB:=n1_;have BK133:=n2_;have GW133:=n3_;have GE133:=n4_;have NB130_133:=n5_;have NB133_130:=n6_;clear n0_ n1_ n2_ n3_ n4_ n5_ n6_;clear hb hbox hg;have hnb36:=NB133_130.out;have hnc36:=NB130_133.out;have hcz37_0:w35.cell? ⟨gb133,0,none⟩=some (.int .i64 0):=(zz9 BK133.out 0).trans rfl;have hcz37_1:w35.cell? ⟨gb133,1,none⟩=some (.int .i64 0):=(zz9 BK133.out 1).trans rfl;have hfz37_0:=zz10 BK133.out 0;have hfz37_1:=zz10 BK133.out 1))
            have n0_:Aside0 (((w35.setCell ⟨gb133,0,none⟩ (.int .i64 ((rd_T70 l0_1 x25_2).f0))).setCell ⟨gb133,1,none⟩ (.int .i64 ((rd_T70 l0_1 x25_2).f1))).heap[gb130]?=some (.cells #[.int .i64 a0_0,.slice (some ad132) l0_1.length c0_1] 30 (0,0))):=⟨by (with_reducible repeat (first | refine zz6 ?_ _ | refine zz7 ?_ | refine zz8 ?_ _));refine blk_far ?_ NB130_133.out _;(with_reducible repeat (first | refine zz6 ?_ _ | refine zz7 ?_ | refine zz8 ?_ _));refine blk_far ?_ NB130_133.out _;(with_reducible repeat (first | refine zz6 ?_ _ | refine zz7 ?_ | refine zz8 ?_ _));exact BK130.out⟩
            have n1_:Aside0 (((w35.setCell ⟨gb133,0,none⟩ (.int .i64 ((rd_T70 l0_1 x25_2).f0))).setCell ⟨gb133,1,none⟩ (.int .i64 ((rd_T70 l0_1 x25_2).f1))).heap[gb133]?=some (.cells #[.int .i64 ((rd_T70 l0_1 x25_2).f0),.int .i64 ((rd_T70 l0_1 x25_2).f1)] 70 (0,0))):=⟨by (with_reducible repeat (first | refine zz6 ?_ _ | refine zz7 ?_ | refine zz8 ?_ _));refine blk_put (cs:=#[.int .i64 ((rd_T70 l0_1 x25_2).f0),.int .i64 0]) ?_ 1 _ rfl;(with_reducible repeat (first | refine zz6 ?_ _ | refine zz7 ?_ | refine zz8 ?_ _));refine blk_put (cs:=#[.int .i64 0,.int .i64 0]) ?_ 0 _ rfl;(with_reducible repeat (first | refine zz6 ?_ _ | refine zz7 ?_ | refine zz8 ?_ _));exact BK133.out⟩
            have n2_:Aside0 (Below w.heap.size w ((w35.setCell ⟨gb133,0,none⟩ (.int .i64 ((rd_T70 l0_1 x25_2).f0))).setCell ⟨gb133,1,none⟩ (.int .i64 ((rd_T70 l0_1 x25_2).f1)))):=⟨by repeat first | exact HB.out | apply zz2 | apply zz0 | apply zz1 | refine zz3 ?_ GE130.out | refine zz3 ?_ GE133.out⟩
            (try clear BK130)
            (try clear BK133)
            (try clear HB)
            generalize ((w35.setCell ⟨gb133,0,none⟩ (.int .i64 ((rd_T70 l0_1 x25_2).f0))).setCell ⟨gb133,1,none⟩ (.int .i64 ((rd_T70 l0_1 x25_2).f1)))=w38 at n0_ n1_ n2_ ⊢
            have BK130:=n0_
            have BK133:=n1_
            have HB:=n2_
            clear n0_ n1_ n2_
            have n0_:=zz31 (zz7 BK130.out)
            have n1_:=zz31 (zz7 BK133.out)
            have n2_:=zz31 (zz1 HB.out)
            clear BK130
            clear BK133
            clear HB
            have BK130:=n0_
            have BK133:=n1_
            have HB:=n2_
            clear n0_ n1_ n2_
            refine start_ (n:=34) (S:=fun w'=>w'.cell? ⟨gb133,0,none⟩=some (.int .i64 ((rd_T70 l0_1 x25_2).f0))∧w'.cell? ⟨gb133,1,none⟩=some (.int .i64 ((rd_T70 l0_1 x25_2).f1))∧w'.cell? ⟨gb130,0,none⟩=some (.int .i64 a0_0)∧w'.cell? ⟨gb130,1,none⟩=some (.slice (some ad132) l0_1.length c0_1)) (ds:=[]) #[F,F,F,F,F,F,F,F,F,F,F,F,F,F,F,F,F,F,F,F,F,F,F,F,F,F,F,F,F,F,F,F,F,F] (by kernel_rfl) rfl rfl ⟨(zz9 BK133.out 0).trans rfl,(zz9 BK133.out 1).trans rfl,(zz9 BK130.out 0).trans rfl,(zz9 BK130.out 1).trans rfl⟩ (fun hHeld=>?_);refine with_tabW spec_paGood.tab6 spec_paGood.bits6 (fun HT_ HW_=>?_)
            generalize w38.drew=w39 at BK130 BK133 HB hHeld ⊢
            refine pure_ (i:=0) (N:=some 30) (v:=?_) (a':=?_) #[T,F,F,F,F,F,F,F,F,F,F,F,F,F,F,F,F,F,F,F,F,F,F,F,F,F,F,F,F,F,F,F,F,F] rfl rfl (any_of HT_.out (by kernel_rfl)) (fun _ _ _ h=>h) (Or.inl ⟨by rfl,?_⟩) ?_ ?_
            rotate_left
            ·intro w'
             go_simp
             with_reducible rfl
            rotate_left
            ·simp only [Act.put,zz21,zz22,zz23,i64_w,i32_w]
             rfl
            refine pure_ (i:=2) (N:=some 32) (v:=?_) (a':=?_) #[T,F,T,F,F,F,F,F,F,F,F,F,F,F,F,F,F,F,F,F,F,F,F,F,F,F,F,F,F,F,F,F,F,F] rfl rfl (any_of HT_.out (by kernel_rfl)) (fun _ _ _ h=>h) (Or.inl ⟨by rfl,?_⟩) ?_ ?_
            rotate_left
            ·intro w'
             go_simp
             with_reducible rfl
            rotate_left
            ·simp only [Act.put,zz21,zz22,zz23,i64_w,i32_w]
             rfl
            refine take_ (i:=1) (N:=some 31) (v:=?_) (a':=?_) #[T,T,T,F,F,F,F,F,F,F,F,F,F,F,F,F,F,F,F,F,F,F,F,F,F,F,F,F,F,F,F,F,F,F] rfl rfl (take_ofW HT_.out HW_.out (by kernel_rfl)) (fun _ _ _ h=>h) (Or.inl ⟨by rfl,?_⟩) hHeld ?_ ?_
            rotate_left
            ·rintro w' ⟨s0,s1,s2,s3⟩
             go_simp
             with_reducible rfl
            rotate_left
            ·simp only [Act.put,zz21,zz22,zz23,i64_w,i32_w]
             rfl
            refine take_ (i:=3) (N:=some 33) (v:=?_) (a':=?_) #[T,T,T,T,F,F,F,F,F,F,F,F,F,F,F,F,F,F,F,F,F,F,F,F,F,F,F,F,F,F,F,F,F,F] rfl rfl (take_ofW HT_.out HW_.out (by kernel_rfl)) (fun _ _ _ h=>h) (Or.inl ⟨by rfl,?_⟩) hHeld ?_ ?_
            rotate_left
            ·rintro w' ⟨s0,s1,s2,s3⟩
             go_simp
             with_reducible rfl
            rotate_left
            ·simp only [Act.put,zz21,zz22,zz23,i64_w,i32_w]
             rfl
            refine pure_ (i:=4) (N:=some 34) (v:=?_) (a':=?_) #[T,T,T,T,T,F,F,F,F,F,F,F,F,F,F,F,F,F,F,F,F,F,F,F,F,F,F,F,F,F,F,F,F,F] rfl rfl (any_of HT_.out (by kernel_rfl)) (fun _ _ _ h=>h) (Or.inl ⟨by rfl,?_⟩) ?_ ?_
            rotate_left
            ·intro w'
             go_simp
             with_reducible rfl
            rotate_left
            ·simp only [Act.put,zz21,zz22,zz23,i64_w,i32_w]
             rfl
            refine one_ (i:=5) (N:=some 35) #[T,T,T,T,T,T,F,F,F,F,F,F,F,F,F,F,F,F,F,F,F,F,F,F,F,F,F,F,F,F,F,F,F,F] rfl rfl (one_of HT_.out (by kernel_rfl)) (by decide) (fun K hK=>?_)
            refine goes_ Try.func74 (by kernel_rfl) rfl #[.int .i64 ((rd_T70 l0_1 x25_2).f0),.int .i64 0,.int .i64 (wrap64 (a0_0 - 1))] (by rfl) rfl rfl (by (try simp only [zz26,zz27,zz28]);first | done | rfl | (simp only [zz24,zz25];rfl)) ?_
            with_reducible refine (spec_l1In.calls ((rd_T70 l0_1 x25_2).f0) 0 (wrap64 (a0_0 - 1)) true _ A13.out).mono ?_
            rintro e w' ⟨rfl,⟨nd,rfl⟩⟩
            refine ⟨_,rfl,?_⟩
            refine hK.out _ _ ⟨(zz9 BK133.out 0).trans rfl,(zz9 BK133.out 1).trans rfl,(zz9 BK130.out 0).trans rfl,(zz9 BK130.out 1).trans rfl⟩ (fun hHeld=>?_)
            clear hK K
            refine norm_ (a':=?_) ?_ ?_
            rotate_left
            ·show Act.put _ (some 35) _=_
             simp only [Act.put,zz21,zz22,zz23,i64_w,i32_w]
             rfl
            refine pure_ (i:=6) (N:=some 36) (v:=?_) (a':=?_) #[T,T,T,T,T,T,T,F,F,F,F,F,F,F,F,F,F,F,F,F,F,F,F,F,F,F,F,F,F,F,F,F,F,F] rfl rfl (any_of HT_.out (by kernel_rfl)) (fun _ _ _ h=>h) (Or.inl ⟨by rfl,?_⟩) ?_ ?_
            rotate_left
            ·intro w'
             go_simp
             with_reducible rfl
            rotate_left
            ·simp only [Act.put,zz21,zz22,zz23,i64_w,i32_w]
             rfl
            refine pure_ (i:=7) (N:=some 37) (v:=?_) (a':=?_) #[T,T,T,T,T,T,T,T,F,F,F,F,F,F,F,F,F,F,F,F,F,F,F,F,F,F,F,F,F,F,F,F,F,F] rfl rfl (any_of HT_.out (by kernel_rfl)) (fun _ _ _ h=>h) (Or.inl ⟨by rfl,?_⟩) ?_ ?_
            rotate_left
            ·intro w'
             go_simp
             with_reducible rfl
            rotate_left
            ·simp only [Act.put,zz21,zz22,zz23,i64_w,i32_w]
             rfl
            refine pure_ (i:=8) (N:=some 38) (v:=?_) (a':=?_) #[T,T,T,T,T,T,T,T,T,F,F,F,F,F,F,F,F,F,F,F,F,F,F,F,F,F,F,F,F,F,F,F,F,F] rfl rfl (any_of HT_.out (by kernel_rfl)) (fun _ _ _ h=>h) (Or.inl ⟨by rfl,?_⟩) ?_ ?_
            rotate_left
            ·intro w'
             go_simp
             with_reducible rfl
            rotate_left
            ·simp only [Act.put,zz21,zz22,zz23,i64_w,i32_w]
             rfl
            refine pure_ (i:=10) (N:=some 40) (v:=?_) (a':=?_) #[T,T,T,T,T,T,T,T,T,F,T,F,F,F,F,F,F,F,F,F,F,F,F,F,F,F,F,F,F,F,F,F,F,F] rfl rfl (any_of HT_.out (by kernel_rfl)) (fun _ _ _ h=>h) (Or.inl ⟨by rfl,?_⟩) ?_ ?_
            rotate_left
            ·intro w'
             go_simp
             with_reducible rfl
            rotate_left
            ·simp only [Act.put,zz21,zz22,zz23,i64_w,i32_w]
             rfl
            refine pure_ (i:=13) (N:=some 43) (v:=?_) (a':=?_) #[T,T,T,T,T,T,T,T,T,F,T,F,F,T,F,F,F,F,F,F,F,F,F,F,F,F,F,F,F,F,F,F,F,F] rfl rfl (any_of HT_.out (by kernel_rfl)) (fun _ _ _ h=>h) (Or.inl ⟨by rfl,?_⟩) ?_ ?_
            rotate_left
            ·intro w'
             go_simp
             with_reducible rfl
            rotate_left
            ·simp only [Act.put,zz21,zz22,zz23,i64_w,i32_w]
             rfl
            refine take_ (i:=9) (N:=some 39) (v:=?_) (a':=?_) #[T,T,T,T,T,T,T,T,T,T,T,F,F,T,F,F,F,F,F,F,F,F,F,F,F,F,F,F,F,F,F,F,F,F] rfl rfl (take_ofW HT_.out HW_.out (by kernel_rfl)) (fun _ _ _ h=>h) (Or.inl ⟨by rfl,?_⟩) hHeld ?_ ?_
            rotate_left
            ·rintro w' ⟨s0,s1,s2,s3⟩
             go_simp
             with_reducible rfl
            rotate_left
            ·simp only [Act.put,zz21,zz22,zz23,i64_w,i32_w]
             rfl
            refine take_ (i:=11) (N:=some 41) (v:=?_) (a':=?_) #[T,T,T,T,T,T,T,T,T,T,T,T,F,T,F,F,F,F,F,F,F,F,F,F,F,F,F,F,F,F,F,F,F,F] rfl rfl (take_ofW HT_.out HW_.out (by kernel_rfl)) (fun _ _ _ h=>h) (Or.inl ⟨by rfl,?_⟩) hHeld ?_ ?_
            rotate_left
            ·rintro w' ⟨s0,s1,s2,s3⟩
             go_simp
             with_reducible rfl
            rotate_left
            ·simp only [Act.put,zz21,zz22,zz23,i64_w,i32_w]
             rfl
            refine pure_ (i:=12) (N:=some 42) (v:=?_) (a':=?_) #[T,T,T,T,T,T,T,T,T,T,T,T,T,T,F,F,F,F,F,F,F,F,F,F,F,F,F,F,F,F,F,F,F,F] rfl rfl (any_of HT_.out (by kernel_rfl)) (fun _ _ _ h=>h) (Or.inl ⟨by rfl,?_⟩) ?_ ?_
            rotate_left
            ·intro w'
             go_simp
             with_reducible rfl
            rotate_left
            ·simp only [Act.put,zz21,zz22,zz23,i64_w,i32_w]
             rfl
            refine take_ (i:=14) (N:=some 44) (v:=?_) (a':=?_) #[T,T,T,T,T,T,T,T,T,T,T,T,T,T,T,F,F,F,F,F,F,F,F,F,F,F,F,F,F,F,F,F,F,F] rfl rfl (take_ofW HT_.out HW_.out (by kernel_rfl)) (fun _ _ _ h=>h) (Or.inl ⟨by rfl,?_⟩) hHeld ?_ ?_
            rotate_left
            ·rintro w' ⟨s0,s1,s2,s3⟩
             go_simp
             with_reducible rfl
            rotate_left
            ·simp only [Act.put,zz21,zz22,zz23,i64_w,i32_w]
             rfl
            refine pure_ (i:=15) (N:=some 45) (v:=?_) (a':=?_) #[T,T,T,T,T,T,T,T,T,T,T,T,T,T,T,T,F,F,F,F,F,F,F,F,F,F,F,F,F,F,F,F,F,F] rfl rfl (any_of HT_.out (by kernel_rfl)) (fun _ _ _ h=>h) (Or.inl ⟨by rfl,?_⟩) ?_ ?_
            rotate_left
            ·intro w'
             go_simp
             with_reducible rfl
            rotate_left
            ·simp only [Act.put,zz21,zz22,zz23,i64_w,i32_w]
             rfl
            refine one_ (i:=16) (N:=some 46) #[T,T,T,T,T,T,T,T,T,T,T,T,T,T,T,T,T,F,F,F,F,F,F,F,F,F,F,F,F,F,F,F,F,F] rfl rfl (one_of HT_.out (by kernel_rfl)) (by decide) (fun K hK=>?_)
            refine goes_ Try.func74 (by kernel_rfl) rfl #[.int .i64 ((rd_T70 l0_1 x25_2).f1),.int .i64 (wrap64 (((rd_T70 l0_1 x25_2).f0)+1)),.int .i64 (wrap64 (a0_0 - 1))] (by rfl) rfl rfl (by (try simp only [zz26,zz27,zz28]);first | done | rfl | (simp only [zz24,zz25];rfl)) ?_
            with_reducible refine (spec_l1In.calls ((rd_T70 l0_1 x25_2).f1) (wrap64 (((rd_T70 l0_1 x25_2).f0)+1)) (wrap64 (a0_0 - 1)) true _ A15.out).mono ?_
            rintro e w' ⟨rfl,⟨nd,rfl⟩⟩
            refine ⟨_,rfl,?_⟩
            refine hK.out _ _ ⟨(zz9 BK133.out 0).trans rfl,(zz9 BK133.out 1).trans rfl,(zz9 BK130.out 0).trans rfl,(zz9 BK130.out 1).trans rfl⟩ (fun hHeld=>?_)
            clear hK K
            refine norm_ (a':=?_) ?_ ?_
            rotate_left
            ·show Act.put _ (some 46) _=_
             simp only [Act.put,zz21,zz22,zz23,i64_w,i32_w]
             rfl
            refine pure_ (i:=17) (N:=some 47) (v:=?_) (a':=?_) #[T,T,T,T,T,T,T,T,T,T,T,T,T,T,T,T,T,T,F,F,F,F,F,F,F,F,F,F,F,F,F,F,F,F] rfl rfl (any_of HT_.out (by kernel_rfl)) (fun _ _ _ h=>h) (Or.inl ⟨by rfl,?_⟩) ?_ ?_
            rotate_left
            ·intro w'
             go_simp
             with_reducible rfl
            rotate_left
            ·simp only [Act.put,zz21,zz22,zz23,i64_w,i32_w]
             rfl
            refine pure_ (i:=18) (N:=some 48) (v:=?_) (a':=?_) #[T,T,T,T,T,T,T,T,T,T,T,T,T,T,T,T,T,T,T,F,F,F,F,F,F,F,F,F,F,F,F,F,F,F] rfl rfl (any_of HT_.out (by kernel_rfl)) (fun _ _ _ h=>h) (Or.inl ⟨by rfl,?_⟩) ?_ ?_
            rotate_left
            ·intro w'
             go_simp
             with_reducible rfl
            rotate_left
            ·simp only [Act.put,zz21,zz22,zz23,i64_w,i32_w]
             rfl
            refine pure_ (i:=19) (N:=some 49) (v:=?_) (a':=?_) #[T,T,T,T,T,T,T,T,T,T,T,T,T,T,T,T,T,T,T,T,F,F,F,F,F,F,F,F,F,F,F,F,F,F] rfl rfl (any_of HT_.out (by kernel_rfl)) (fun _ _ _ h=>h) (Or.inl ⟨by rfl,?_⟩) ?_ ?_
            rotate_left
            ·intro w'
             go_simp
             with_reducible rfl
            rotate_left
            ·simp only [Act.put,zz21,zz22,zz23,i64_w,i32_w]
             rfl
            refine pure_ (i:=20) (N:=some 50) (v:=?_) (a':=?_) #[T,T,T,T,T,T,T,T,T,T,T,T,T,T,T,T,T,T,T,T,T,F,F,F,F,F,F,F,F,F,F,F,F,F] rfl rfl (any_of HT_.out (by kernel_rfl)) (fun _ _ _ h=>h) (Or.inl ⟨by rfl,?_⟩) ?_ ?_
            rotate_left
            ·intro w'
             go_simp
             with_reducible rfl
            rotate_left
            ·simp only [Act.put,zz21,zz22,zz23,i64_w,i32_w]
             rfl
            refine pure_ (i:=21) (N:=some 51) (v:=?_) (a':=?_) #[T,T,T,T,T,T,T,T,T,T,T,T,T,T,T,T,T,T,T,T,T,T,F,F,F,F,F,F,F,F,F,F,F,F] rfl rfl (any_of HT_.out (by kernel_rfl)) (fun _ _ _ h=>h) (Or.inl ⟨by rfl,?_⟩) ?_ ?_
            rotate_left
            ·intro w'
             go_simp
             with_reducible rfl
            rotate_left
            ·simp only [Act.put,zz21,zz22,zz23,i64_w,i32_w]
             rfl
            refine pure_ (i:=22) (N:=some 52) (v:=?_) (a':=?_) #[T,T,T,T,T,T,T,T,T,T,T,T,T,T,T,T,T,T,T,T,T,T,T,F,F,F,F,F,F,F,F,F,F,F] rfl rfl (any_of HT_.out (by kernel_rfl)) (fun _ _ _ h=>h) (Or.inl ⟨by rfl,?_⟩) ?_ ?_
            rotate_left
            ·intro w'
             go_simp
             with_reducible rfl
            rotate_left
            ·simp only [Act.put,zz21,zz22,zz23,i64_w,i32_w]
             rfl
            refine pure_ (i:=23) (N:=some 53) (v:=undef) (a':=?_) #[T,T,T,T,T,T,T,T,T,T,T,T,T,T,T,T,T,T,T,T,T,T,T,T,F,F,F,F,F,F,F,F,F,F] rfl rfl (any_of HT_.out (by kernel_rfl)) (fun _ _ _ h=>h) (Or.inr ⟨by rfl,rfl⟩) ?_ ?_
            rotate_left
            ·simp only [Act.put,zz21,zz22,zz23,i64_w,i32_w]
             rfl
            refine pure_ (i:=24) (N:=some 54) (v:=undef) (a':=?_) #[T,T,T,T,T,T,T,T,T,T,T,T,T,T,T,T,T,T,T,T,T,T,T,T,T,F,F,F,F,F,F,F,F,F] rfl rfl (any_of HT_.out (by kernel_rfl)) (fun _ _ _ h=>h) (Or.inr ⟨by rfl,rfl⟩) ?_ ?_
            rotate_left
            ·simp only [Act.put,zz21,zz22,zz23,i64_w,i32_w]
             rfl
            refine pure_ (i:=25) (N:=some 55) (v:=undef) (a':=?_) #[T,T,T,T,T,T,T,T,T,T,T,T,T,T,T,T,T,T,T,T,T,T,T,T,T,T,F,F,F,F,F,F,F,F] rfl rfl (any_of HT_.out (by kernel_rfl)) (fun _ _ _ h=>h) (Or.inr ⟨by rfl,rfl⟩) ?_ ?_
            rotate_left
            ·simp only [Act.put,zz21,zz22,zz23,i64_w,i32_w]
             rfl
            refine pure_ (i:=26) (N:=some 56) (v:=undef) (a':=?_) #[T,T,T,T,T,T,T,T,T,T,T,T,T,T,T,T,T,T,T,T,T,T,T,T,T,T,T,F,F,F,F,F,F,F] rfl rfl (any_of HT_.out (by kernel_rfl)) (fun _ _ _ h=>h) (Or.inr ⟨by rfl,rfl⟩) ?_ ?_
            rotate_left
            ·simp only [Act.put,zz21,zz22,zz23,i64_w,i32_w]
             rfl
            refine pure_ (i:=27) (N:=some 57) (v:=undef) (a':=?_) #[T,T,T,T,T,T,T,T,T,T,T,T,T,T,T,T,T,T,T,T,T,T,T,T,T,T,T,T,F,F,F,F,F,F] rfl rfl (any_of HT_.out (by kernel_rfl)) (fun _ _ _ h=>h) (Or.inr ⟨by rfl,rfl⟩) ?_ ?_
            rotate_left
            ·simp only [Act.put,zz21,zz22,zz23,i64_w,i32_w]
             rfl
            refine pure_ (i:=28) (N:=some 58) (v:=undef) (a':=?_) #[T,T,T,T,T,T,T,T,T,T,T,T,T,T,T,T,T,T,T,T,T,T,T,T,T,T,T,T,T,F,F,F,F,F] rfl rfl (any_of HT_.out (by kernel_rfl)) (fun _ _ _ h=>h) (Or.inr ⟨by rfl,rfl⟩) ?_ ?_
            rotate_left
            ·simp only [Act.put,zz21,zz22,zz23,i64_w,i32_w]
             rfl
            refine pure_ (i:=29) (N:=some 59) (v:=undef) (a':=?_) #[T,T,T,T,T,T,T,T,T,T,T,T,T,T,T,T,T,T,T,T,T,T,T,T,T,T,T,T,T,T,F,F,F,F] rfl rfl (any_of HT_.out (by kernel_rfl)) (fun _ _ _ h=>h) (Or.inr ⟨by rfl,rfl⟩) ?_ ?_
            rotate_left
            ·simp only [Act.put,zz21,zz22,zz23,i64_w,i32_w]
             rfl
            refine pure_ (i:=30) (N:=some 60) (v:=undef) (a':=?_) #[T,T,T,T,T,T,T,T,T,T,T,T,T,T,T,T,T,T,T,T,T,T,T,T,T,T,T,T,T,T,T,F,F,F] rfl rfl (any_of HT_.out (by kernel_rfl)) (fun _ _ _ h=>h) (Or.inr ⟨by rfl,rfl⟩) ?_ ?_
            rotate_left
            ·simp only [Act.put,zz21,zz22,zz23,i64_w,i32_w]
             rfl
            refine pure_ (i:=31) (N:=some 61) (v:=undef) (a':=?_) #[T,T,T,T,T,T,T,T,T,T,T,T,T,T,T,T,T,T,T,T,T,T,T,T,T,T,T,T,T,T,T,T,F,F] rfl rfl (any_of HT_.out (by kernel_rfl)) (fun _ _ _ h=>h) (Or.inr ⟨by rfl,rfl⟩) ?_ ?_
            rotate_left
            ·simp only [Act.put,zz21,zz22,zz23,i64_w,i32_w]
             rfl
            refine pure_ (i:=32) (N:=some 62) (v:=?_) (a':=?_) #[T,T,T,T,T,T,T,T,T,T,T,T,T,T,T,T,T,T,T,T,T,T,T,T,T,T,T,T,T,T,T,T,T,F] rfl rfl (any_of HT_.out (by kernel_rfl)) (fun _ _ _ h=>h) (Or.inl ⟨by rfl,?_⟩) ?_ ?_
            rotate_left
            ·intro w'
             go_simp
             with_reducible rfl
            rotate_left
            ·simp only [Act.put,zz21,zz22,zz23,i64_w,i32_w]
             rfl
            refine pure_ (i:=33) (N:=some 63) (v:=?_) (a':=?_) #[T,T,T,T,T,T,T,T,T,T,T,T,T,T,T,T,T,T,T,T,T,T,T,T,T,T,T,T,T,T,T,T,T,T] rfl rfl (any_of HT_.out (by kernel_rfl)) (fun _ _ _ h=>h) (Or.inl ⟨by rfl,?_⟩) ?_ ?_
            rotate_left
            ·intro w'
             go_simp
             with_reducible rfl
            rotate_left
            ·simp only [Act.put,zz21,zz22,zz23,i64_w,i32_w]
             rfl
            refine done_ (done_of HT_.out (by kernel_rfl)) ?_
            try go_wp2
            go_roundg k2
            case measure=>have:=HJ1.out;have:=HK2.out;omega
            case rel=>exact ⟨(wrap64 (x25_2+1)),(by first | rfl | (simp;done) | (simp [*];done)),H',⟨by have:=HJ1.out;have:=HK2.out;omega⟩,⟨by (with_reducible repeat (first | refine zz6 ?_ _ | refine zz7 ?_ | refine zz8 ?_ _));exact BK130.out⟩,⟨by repeat first | exact HB.out | apply zz2 | apply zz0 | apply zz1 | refine zz3 ?_ GE130.out | refine zz3 ?_ GE133.out⟩⟩
          ·replace c16:=Bool.eq_false_iff.mpr c16
           subst c16
           have H1:(some false)=some r:=by rw [if_neg (show ¬ (false=true) by decide)] at H;exact H
           clear H
           have H:=H1
           clear H1
           obtain rfl:=Option.some.inj H
           have p132:0≤(x25_2:Int):=zz29 (by first | (with_reducible assumption) | assumption)
           have q132:x25_2 < (l0_1.length:Int):=zz29 (by first | (with_reducible assumption) | assumption)
           obtain ⟨ad132,e132,hx132_0,hx132_1⟩:=at_T70 HR0_1.out x25_2 p132 q132
           cases e132
           try replace hx132_0:=(HB.out.cell (World.block_lt_of_cell? w _ hx132_0)).trans hx132_0
           try replace hx132_1:=(HB.out.cell (World.block_lt_of_cell? w _ hx132_1)).trans hx132_1
           replace p132:=eq_true p132
           replace q132:=eq_true q132
           try go_wp2_with (first | ((with_reducible refine gate_dst (N:=4) rfl ?_);(try (refine gate_guard (by rfl) ?_;dsimp only));refine box_event ?hg (N:=4) ?hd (cs:=#[.int .i64 0,.int .i64 0]) (t:=70) ?hr ?_;(case hd=>rfl);(case hg=>rfl);(case hr=>first | (go_simp;done) | (go_simp;rfl));intro gb133 hg w40 hbox hb;have n0_:=zz31 (zz11 (g:=gb130) (o:=.cells #[.int .i64 a0_0,.slice (some ad132) l0_1.length c0_1] 30 (0,0)) (by (with_reducible repeat (first | refine zz6 ?_ _ | refine zz7 ?_ | refine zz8 ?_ _));exact BK130.out) hb);have n1_:=zz31 (zz4 (by repeat first | exact HB.out | apply zz2 | apply zz0 | apply zz1 | refine zz3 ?_ GE130.out) hb);have n2_:=zz31 (hbox);have n3_:=zz31 ((by rw [hg];exact (zz5 (by repeat first | exact HB.out | apply zz2 | apply zz0 | apply zz1 | refine zz3 ?_ GE130.out)):w.heap.size≤gb133));have n4_:=zz31 ((by rw [hg];exact (zz5 (by repeat first | exact HB.out | apply zz2 | apply zz0 | apply zz1 | refine zz3 ?_ GE130.out)):w.heap.size≤gb133));have n5_:=zz31 ((by rw [hg];exact Nat.ne_of_lt (blk_lt (g:=gb130) (o:=.cells #[.int .i64 a0_0,.slice (some ad132) l0_1.length c0_1] 30 (0,0)) (by (with_reducible repeat (first | refine zz6 ?_ _ | refine zz7 ?_ | refine zz8 ?_ _));exact BK130.out)):gb130 ≠ gb133));have n6_:=zz31 ((by rw [hg];exact Nat.ne_of_gt (blk_lt (g:=gb130) (o:=.cells #[.int .i64 a0_0,.slice (some ad132) l0_1.length c0_1] 30 (0,0)) (by (with_reducible repeat (first | refine zz6 ?_ _ | refine zz7 ?_ | refine zz8 ?_ _));exact BK130.out)):gb133 ≠ gb130));clear BK130;clear HB;have BK130:=n0_;have HB:=n1_;have BK133:=n2_;have GW133:=n3_;have GE133:=n4_;have NB130_133:=n5_;have NB133_130:=n6_;clear n0_ n1_ n2_ n3_ n4_ n5_ n6_;clear hb hbox hg;have hnb41:=NB133_130.out;have hnc41:=NB130_133.out;have hcz42_0:w40.cell? ⟨gb133,0,none⟩=some (.int .i64 0):=(zz9 BK133.out 0).trans rfl;have hcz42_1:w40.cell? ⟨gb133,1,none⟩=some (.int .i64 0):=(zz9 BK133.out 1).trans rfl;have hfz42_0:=zz10 BK133.out 0;have hfz42_1:=zz10 BK133.out 1))
           have n0_:Aside0 (((w40.setCell ⟨gb133,0,none⟩ (.int .i64 ((rd_T70 l0_1 x25_2).f0))).setCell ⟨gb133,1,none⟩ (.int .i64 ((rd_T70 l0_1 x25_2).f1))).heap[gb130]?=some (.cells #[.int .i64 a0_0,.slice (some ad132) l0_1.length c0_1] 30 (0,0))):=⟨by (with_reducible repeat (first | refine zz6 ?_ _ | refine zz7 ?_ | refine zz8 ?_ _));refine blk_far ?_ NB130_133.out _;(with_reducible repeat (first | refine zz6 ?_ _ | refine zz7 ?_ | refine zz8 ?_ _));refine blk_far ?_ NB130_133.out _;(with_reducible repeat (first | refine zz6 ?_ _ | refine zz7 ?_ | refine zz8 ?_ _));exact BK130.out⟩
           have n1_:Aside0 (((w40.setCell ⟨gb133,0,none⟩ (.int .i64 ((rd_T70 l0_1 x25_2).f0))).setCell ⟨gb133,1,none⟩ (.int .i64 ((rd_T70 l0_1 x25_2).f1))).heap[gb133]?=some (.cells #[.int .i64 ((rd_T70 l0_1 x25_2).f0),.int .i64 ((rd_T70 l0_1 x25_2).f1)] 70 (0,0))):=⟨by (with_reducible repeat (first | refine zz6 ?_ _ | refine zz7 ?_ | refine zz8 ?_ _));refine blk_put (cs:=#[.int .i64 ((rd_T70 l0_1 x25_2).f0),.int .i64 0]) ?_ 1 _ rfl;(with_reducible repeat (first | refine zz6 ?_ _ | refine zz7 ?_ | refine zz8 ?_ _));refine blk_put (cs:=#[.int .i64 0,.int .i64 0]) ?_ 0 _ rfl;(with_reducible repeat (first | refine zz6 ?_ _ | refine zz7 ?_ | refine zz8 ?_ _));exact BK133.out⟩
           have n2_:Aside0 (Below w.heap.size w ((w40.setCell ⟨gb133,0,none⟩ (.int .i64 ((rd_T70 l0_1 x25_2).f0))).setCell ⟨gb133,1,none⟩ (.int .i64 ((rd_T70 l0_1 x25_2).f1)))):=⟨by repeat first | exact HB.out | apply zz2 | apply zz0 | apply zz1 | refine zz3 ?_ GE130.out | refine zz3 ?_ GE133.out⟩
           (try clear BK130)
           (try clear BK133)
           (try clear HB)
           generalize ((w40.setCell ⟨gb133,0,none⟩ (.int .i64 ((rd_T70 l0_1 x25_2).f0))).setCell ⟨gb133,1,none⟩ (.int .i64 ((rd_T70 l0_1 x25_2).f1)))=w43 at n0_ n1_ n2_ ⊢
           have BK130:=n0_
           have BK133:=n1_
           have HB:=n2_
           clear n0_ n1_ n2_
           have n0_:=zz31 (zz7 BK130.out)
           have n1_:=zz31 (zz7 BK133.out)
           have n2_:=zz31 (zz1 HB.out)
           clear BK130
           clear BK133
           clear HB
           have BK130:=n0_
           have BK133:=n1_
           have HB:=n2_
           clear n0_ n1_ n2_
           refine start_ (n:=34) (S:=fun w'=>w'.cell? ⟨gb133,0,none⟩=some (.int .i64 ((rd_T70 l0_1 x25_2).f0))∧w'.cell? ⟨gb133,1,none⟩=some (.int .i64 ((rd_T70 l0_1 x25_2).f1))∧w'.cell? ⟨gb130,0,none⟩=some (.int .i64 a0_0)∧w'.cell? ⟨gb130,1,none⟩=some (.slice (some ad132) l0_1.length c0_1)) (ds:=[]) #[F,F,F,F,F,F,F,F,F,F,F,F,F,F,F,F,F,F,F,F,F,F,F,F,F,F,F,F,F,F,F,F,F,F] (by kernel_rfl) rfl rfl ⟨(zz9 BK133.out 0).trans rfl,(zz9 BK133.out 1).trans rfl,(zz9 BK130.out 0).trans rfl,(zz9 BK130.out 1).trans rfl⟩ (fun hHeld=>?_);refine with_tabW spec_paGood.tab6 spec_paGood.bits6 (fun HT_ HW_=>?_)
           generalize w43.drew=w44 at BK130 BK133 HB hHeld ⊢
           refine pure_ (i:=0) (N:=some 30) (v:=?_) (a':=?_) #[T,F,F,F,F,F,F,F,F,F,F,F,F,F,F,F,F,F,F,F,F,F,F,F,F,F,F,F,F,F,F,F,F,F] rfl rfl (any_of HT_.out (by kernel_rfl)) (fun _ _ _ h=>h) (Or.inl ⟨by rfl,?_⟩) ?_ ?_
           rotate_left
           ·intro w'
            go_simp
            with_reducible rfl
           rotate_left
           ·simp only [Act.put,zz21,zz22,zz23,i64_w,i32_w]
            rfl
           refine pure_ (i:=2) (N:=some 32) (v:=?_) (a':=?_) #[T,F,T,F,F,F,F,F,F,F,F,F,F,F,F,F,F,F,F,F,F,F,F,F,F,F,F,F,F,F,F,F,F,F] rfl rfl (any_of HT_.out (by kernel_rfl)) (fun _ _ _ h=>h) (Or.inl ⟨by rfl,?_⟩) ?_ ?_
           rotate_left
           ·intro w'
            go_simp
            with_reducible rfl
           rotate_left
           ·simp only [Act.put,zz21,zz22,zz23,i64_w,i32_w]
            rfl
           refine take_ (i:=1) (N:=some 31) (v:=?_) (a':=?_) #[T,T,T,F,F,F,F,F,F,F,F,F,F,F,F,F,F,F,F,F,F,F,F,F,F,F,F,F,F,F,F,F,F,F] rfl rfl (take_ofW HT_.out HW_.out (by kernel_rfl)) (fun _ _ _ h=>h) (Or.inl ⟨by rfl,?_⟩) hHeld ?_ ?_
           rotate_left
           ·rintro w' ⟨s0,s1,s2,s3⟩
            go_simp
            with_reducible rfl
           rotate_left
           ·simp only [Act.put,zz21,zz22,zz23,i64_w,i32_w]
            rfl
           refine take_ (i:=3) (N:=some 33) (v:=?_) (a':=?_) #[T,T,T,T,F,F,F,F,F,F,F,F,F,F,F,F,F,F,F,F,F,F,F,F,F,F,F,F,F,F,F,F,F,F] rfl rfl (take_ofW HT_.out HW_.out (by kernel_rfl)) (fun _ _ _ h=>h) (Or.inl ⟨by rfl,?_⟩) hHeld ?_ ?_
           rotate_left
           ·rintro w' ⟨s0,s1,s2,s3⟩
            go_simp
            with_reducible rfl
           rotate_left
           ·simp only [Act.put,zz21,zz22,zz23,i64_w,i32_w]
            rfl
           refine pure_ (i:=4) (N:=some 34) (v:=?_) (a':=?_) #[T,T,T,T,T,F,F,F,F,F,F,F,F,F,F,F,F,F,F,F,F,F,F,F,F,F,F,F,F,F,F,F,F,F] rfl rfl (any_of HT_.out (by kernel_rfl)) (fun _ _ _ h=>h) (Or.inl ⟨by rfl,?_⟩) ?_ ?_
           rotate_left
           ·intro w'
            go_simp
            with_reducible rfl
           rotate_left
           ·simp only [Act.put,zz21,zz22,zz23,i64_w,i32_w]
            rfl
           refine one_ (i:=5) (N:=some 35) #[T,T,T,T,T,T,F,F,F,F,F,F,F,F,F,F,F,F,F,F,F,F,F,F,F,F,F,F,F,F,F,F,F,F] rfl rfl (one_of HT_.out (by kernel_rfl)) (by decide) (fun K hK=>?_)
           refine goes_ Try.func74 (by kernel_rfl) rfl #[.int .i64 ((rd_T70 l0_1 x25_2).f0),.int .i64 0,.int .i64 (wrap64 (a0_0 - 1))] (by rfl) rfl rfl (by (try simp only [zz26,zz27,zz28]);first | done | rfl | (simp only [zz24,zz25];rfl)) ?_
           with_reducible refine (spec_l1In.calls ((rd_T70 l0_1 x25_2).f0) 0 (wrap64 (a0_0 - 1)) true _ A13.out).mono ?_
           rintro e w' ⟨rfl,⟨nd,rfl⟩⟩
           refine ⟨_,rfl,?_⟩
           refine hK.out _ _ ⟨(zz9 BK133.out 0).trans rfl,(zz9 BK133.out 1).trans rfl,(zz9 BK130.out 0).trans rfl,(zz9 BK130.out 1).trans rfl⟩ (fun hHeld=>?_)
           clear hK K
           refine norm_ (a':=?_) ?_ ?_
           rotate_left
           ·show Act.put _ (some 35) _=_
            simp only [Act.put,zz21,zz22,zz23,i64_w,i32_w]
            rfl
           refine pure_ (i:=6) (N:=some 36) (v:=?_) (a':=?_) #[T,T,T,T,T,T,T,F,F,F,F,F,F,F,F,F,F,F,F,F,F,F,F,F,F,F,F,F,F,F,F,F,F,F] rfl rfl (any_of HT_.out (by kernel_rfl)) (fun _ _ _ h=>h) (Or.inl ⟨by rfl,?_⟩) ?_ ?_
           rotate_left
           ·intro w'
            go_simp
            with_reducible rfl
           rotate_left
           ·simp only [Act.put,zz21,zz22,zz23,i64_w,i32_w]
            rfl
           refine pure_ (i:=7) (N:=some 37) (v:=?_) (a':=?_) #[T,T,T,T,T,T,T,T,F,F,F,F,F,F,F,F,F,F,F,F,F,F,F,F,F,F,F,F,F,F,F,F,F,F] rfl rfl (any_of HT_.out (by kernel_rfl)) (fun _ _ _ h=>h) (Or.inl ⟨by rfl,?_⟩) ?_ ?_
           rotate_left
           ·intro w'
            go_simp
            with_reducible rfl
           rotate_left
           ·simp only [Act.put,zz21,zz22,zz23,i64_w,i32_w]
            rfl
           refine pure_ (i:=8) (N:=some 38) (v:=?_) (a':=?_) #[T,T,T,T,T,T,T,T,T,F,F,F,F,F,F,F,F,F,F,F,F,F,F,F,F,F,F,F,F,F,F,F,F,F] rfl rfl (any_of HT_.out (by kernel_rfl)) (fun _ _ _ h=>h) (Or.inl ⟨by rfl,?_⟩) ?_ ?_
           rotate_left
           ·intro w'
            go_simp
            with_reducible rfl
           rotate_left
           ·simp only [Act.put,zz21,zz22,zz23,i64_w,i32_w]
            rfl
           refine pure_ (i:=10) (N:=some 40) (v:=?_) (a':=?_) #[T,T,T,T,T,T,T,T,T,F,T,F,F,F,F,F,F,F,F,F,F,F,F,F,F,F,F,F,F,F,F,F,F,F] rfl rfl (any_of HT_.out (by kernel_rfl)) (fun _ _ _ h=>h) (Or.inl ⟨by rfl,?_⟩) ?_ ?_
           rotate_left
           ·intro w'
            go_simp
            with_reducible rfl
           rotate_left
           ·simp only [Act.put,zz21,zz22,zz23,i64_w,i32_w]
            rfl
           refine pure_ (i:=13) (N:=some 43) (v:=?_) (a':=?_) #[T,T,T,T,T,T,T,T,T,F,T,F,F,T,F,F,F,F,F,F,F,F,F,F,F,F,F,F,F,F,F,F,F,F] rfl rfl (any_of HT_.out (by kernel_rfl)) (fun _ _ _ h=>h) (Or.inl ⟨by rfl,?_⟩) ?_ ?_
           rotate_left
           ·intro w'
            go_simp
            with_reducible rfl
           rotate_left
           ·simp only [Act.put,zz21,zz22,zz23,i64_w,i32_w]
            rfl
           refine take_ (i:=9) (N:=some 39) (v:=?_) (a':=?_) #[T,T,T,T,T,T,T,T,T,T,T,F,F,T,F,F,F,F,F,F,F,F,F,F,F,F,F,F,F,F,F,F,F,F] rfl rfl (take_ofW HT_.out HW_.out (by kernel_rfl)) (fun _ _ _ h=>h) (Or.inl ⟨by rfl,?_⟩) hHeld ?_ ?_
           rotate_left
           ·rintro w' ⟨s0,s1,s2,s3⟩
            go_simp
            with_reducible rfl
           rotate_left
           ·simp only [Act.put,zz21,zz22,zz23,i64_w,i32_w]
            rfl
           refine take_ (i:=11) (N:=some 41) (v:=?_) (a':=?_) #[T,T,T,T,T,T,T,T,T,T,T,T,F,T,F,F,F,F,F,F,F,F,F,F,F,F,F,F,F,F,F,F,F,F] rfl rfl (take_ofW HT_.out HW_.out (by kernel_rfl)) (fun _ _ _ h=>h) (Or.inl ⟨by rfl,?_⟩) hHeld ?_ ?_
           rotate_left
           ·rintro w' ⟨s0,s1,s2,s3⟩
            go_simp
            with_reducible rfl
           rotate_left
           ·simp only [Act.put,zz21,zz22,zz23,i64_w,i32_w]
            rfl
           refine pure_ (i:=12) (N:=some 42) (v:=?_) (a':=?_) #[T,T,T,T,T,T,T,T,T,T,T,T,T,T,F,F,F,F,F,F,F,F,F,F,F,F,F,F,F,F,F,F,F,F] rfl rfl (any_of HT_.out (by kernel_rfl)) (fun _ _ _ h=>h) (Or.inl ⟨by rfl,?_⟩) ?_ ?_
           rotate_left
           ·intro w'
            go_simp
            with_reducible rfl
           rotate_left
           ·simp only [Act.put,zz21,zz22,zz23,i64_w,i32_w]
            rfl
           refine take_ (i:=14) (N:=some 44) (v:=?_) (a':=?_) #[T,T,T,T,T,T,T,T,T,T,T,T,T,T,T,F,F,F,F,F,F,F,F,F,F,F,F,F,F,F,F,F,F,F] rfl rfl (take_ofW HT_.out HW_.out (by kernel_rfl)) (fun _ _ _ h=>h) (Or.inl ⟨by rfl,?_⟩) hHeld ?_ ?_
           rotate_left
           ·rintro w' ⟨s0,s1,s2,s3⟩
            go_simp
            with_reducible rfl
           rotate_left
           ·simp only [Act.put,zz21,zz22,zz23,i64_w,i32_w]
            rfl
           refine pure_ (i:=15) (N:=some 45) (v:=?_) (a':=?_) #[T,T,T,T,T,T,T,T,T,T,T,T,T,T,T,T,F,F,F,F,F,F,F,F,F,F,F,F,F,F,F,F,F,F] rfl rfl (any_of HT_.out (by kernel_rfl)) (fun _ _ _ h=>h) (Or.inl ⟨by rfl,?_⟩) ?_ ?_
           rotate_left
           ·intro w'
            go_simp
            with_reducible rfl
           rotate_left
           ·simp only [Act.put,zz21,zz22,zz23,i64_w,i32_w]
            rfl
           refine one_ (i:=16) (N:=some 46) #[T,T,T,T,T,T,T,T,T,T,T,T,T,T,T,T,T,F,F,F,F,F,F,F,F,F,F,F,F,F,F,F,F,F] rfl rfl (one_of HT_.out (by kernel_rfl)) (by decide) (fun K hK=>?_)
           refine goes_ Try.func74 (by kernel_rfl) rfl #[.int .i64 ((rd_T70 l0_1 x25_2).f1),.int .i64 (wrap64 (((rd_T70 l0_1 x25_2).f0)+1)),.int .i64 (wrap64 (a0_0 - 1))] (by rfl) rfl rfl (by (try simp only [zz26,zz27,zz28]);first | done | rfl | (simp only [zz24,zz25];rfl)) ?_
           with_reducible refine (spec_l1In.calls ((rd_T70 l0_1 x25_2).f1) (wrap64 (((rd_T70 l0_1 x25_2).f0)+1)) (wrap64 (a0_0 - 1)) false _ A15.out).mono ?_
           rintro e w' ⟨rfl,⟨nd,rfl⟩⟩
           refine ⟨_,rfl,?_⟩
           refine hK.out _ _ ⟨(zz9 BK133.out 0).trans rfl,(zz9 BK133.out 1).trans rfl,(zz9 BK130.out 0).trans rfl,(zz9 BK130.out 1).trans rfl⟩ (fun hHeld=>?_)
           clear hK K
           refine norm_ (a':=?_) ?_ ?_
           rotate_left
           ·show Act.put _ (some 46) _=_
            simp only [Act.put,zz21,zz22,zz23,i64_w,i32_w]
            rfl
           refine pure_ (i:=17) (N:=some 47) (v:=?_) (a':=?_) #[T,T,T,T,T,T,T,T,T,T,T,T,T,T,T,T,T,T,F,F,F,F,F,F,F,F,F,F,F,F,F,F,F,F] rfl rfl (any_of HT_.out (by kernel_rfl)) (fun _ _ _ h=>h) (Or.inl ⟨by rfl,?_⟩) ?_ ?_
           rotate_left
           ·intro w'
            go_simp
            with_reducible rfl
           rotate_left
           ·simp only [Act.put,zz21,zz22,zz23,i64_w,i32_w]
            rfl
           refine pure_ (i:=18) (N:=some 48) (v:=?_) (a':=?_) #[T,T,T,T,T,T,T,T,T,T,T,T,T,T,T,T,T,T,T,F,F,F,F,F,F,F,F,F,F,F,F,F,F,F] rfl rfl (any_of HT_.out (by kernel_rfl)) (fun _ _ _ h=>h) (Or.inl ⟨by rfl,?_⟩) ?_ ?_
           rotate_left
           ·intro w'
            go_simp
            with_reducible rfl
           rotate_left
           ·simp only [Act.put,zz21,zz22,zz23,i64_w,i32_w]
            rfl
           refine pure_ (i:=19) (N:=some 49) (v:=?_) (a':=?_) #[T,T,T,T,T,T,T,T,T,T,T,T,T,T,T,T,T,T,T,T,F,F,F,F,F,F,F,F,F,F,F,F,F,F] rfl rfl (any_of HT_.out (by kernel_rfl)) (fun _ _ _ h=>h) (Or.inl ⟨by rfl,?_⟩) ?_ ?_
           rotate_left
           ·intro w'
            go_simp
            with_reducible rfl
           rotate_left
           ·simp only [Act.put,zz21,zz22,zz23,i64_w,i32_w]
            rfl
           refine pure_ (i:=20) (N:=some 50) (v:=undef) (a':=?_) #[T,T,T,T,T,T,T,T,T,T,T,T,T,T,T,T,T,T,T,T,T,F,F,F,F,F,F,F,F,F,F,F,F,F] rfl rfl (any_of HT_.out (by kernel_rfl)) (fun _ _ _ h=>h) (Or.inr ⟨by rfl,rfl⟩) ?_ ?_
           rotate_left
           ·simp only [Act.put,zz21,zz22,zz23,i64_w,i32_w]
            rfl
           refine pure_ (i:=21) (N:=some 51) (v:=undef) (a':=?_) #[T,T,T,T,T,T,T,T,T,T,T,T,T,T,T,T,T,T,T,T,T,T,F,F,F,F,F,F,F,F,F,F,F,F] rfl rfl (any_of HT_.out (by kernel_rfl)) (fun _ _ _ h=>h) (Or.inr ⟨by rfl,rfl⟩) ?_ ?_
           rotate_left
           ·simp only [Act.put,zz21,zz22,zz23,i64_w,i32_w]
            rfl
           refine pure_ (i:=22) (N:=some 52) (v:=undef) (a':=?_) #[T,T,T,T,T,T,T,T,T,T,T,T,T,T,T,T,T,T,T,T,T,T,T,F,F,F,F,F,F,F,F,F,F,F] rfl rfl (any_of HT_.out (by kernel_rfl)) (fun _ _ _ h=>h) (Or.inr ⟨by rfl,rfl⟩) ?_ ?_
           rotate_left
           ·simp only [Act.put,zz21,zz22,zz23,i64_w,i32_w]
            rfl
           refine pure_ (i:=23) (N:=some 53) (v:=undef) (a':=?_) #[T,T,T,T,T,T,T,T,T,T,T,T,T,T,T,T,T,T,T,T,T,T,T,T,F,F,F,F,F,F,F,F,F,F] rfl rfl (any_of HT_.out (by kernel_rfl)) (fun _ _ _ h=>h) (Or.inr ⟨by rfl,rfl⟩) ?_ ?_
           rotate_left
           ·simp only [Act.put,zz21,zz22,zz23,i64_w,i32_w]
            rfl
           refine pure_ (i:=24) (N:=some 54) (v:=undef) (a':=?_) #[T,T,T,T,T,T,T,T,T,T,T,T,T,T,T,T,T,T,T,T,T,T,T,T,T,F,F,F,F,F,F,F,F,F] rfl rfl (any_of HT_.out (by kernel_rfl)) (fun _ _ _ h=>h) (Or.inr ⟨by rfl,rfl⟩) ?_ ?_
           rotate_left
           ·simp only [Act.put,zz21,zz22,zz23,i64_w,i32_w]
            rfl
           refine pure_ (i:=25) (N:=some 55) (v:=undef) (a':=?_) #[T,T,T,T,T,T,T,T,T,T,T,T,T,T,T,T,T,T,T,T,T,T,T,T,T,T,F,F,F,F,F,F,F,F] rfl rfl (any_of HT_.out (by kernel_rfl)) (fun _ _ _ h=>h) (Or.inr ⟨by rfl,rfl⟩) ?_ ?_
           rotate_left
           ·simp only [Act.put,zz21,zz22,zz23,i64_w,i32_w]
            rfl
           refine pure_ (i:=26) (N:=some 56) (v:=undef) (a':=?_) #[T,T,T,T,T,T,T,T,T,T,T,T,T,T,T,T,T,T,T,T,T,T,T,T,T,T,T,F,F,F,F,F,F,F] rfl rfl (any_of HT_.out (by kernel_rfl)) (fun _ _ _ h=>h) (Or.inr ⟨by rfl,rfl⟩) ?_ ?_
           rotate_left
           ·simp only [Act.put,zz21,zz22,zz23,i64_w,i32_w]
            rfl
           refine pure_ (i:=27) (N:=some 57) (v:=undef) (a':=?_) #[T,T,T,T,T,T,T,T,T,T,T,T,T,T,T,T,T,T,T,T,T,T,T,T,T,T,T,T,F,F,F,F,F,F] rfl rfl (any_of HT_.out (by kernel_rfl)) (fun _ _ _ h=>h) (Or.inr ⟨by rfl,rfl⟩) ?_ ?_
           rotate_left
           ·simp only [Act.put,zz21,zz22,zz23,i64_w,i32_w]
            rfl
           refine pure_ (i:=28) (N:=some 58) (v:=undef) (a':=?_) #[T,T,T,T,T,T,T,T,T,T,T,T,T,T,T,T,T,T,T,T,T,T,T,T,T,T,T,T,T,F,F,F,F,F] rfl rfl (any_of HT_.out (by kernel_rfl)) (fun _ _ _ h=>h) (Or.inr ⟨by rfl,rfl⟩) ?_ ?_
           rotate_left
           ·simp only [Act.put,zz21,zz22,zz23,i64_w,i32_w]
            rfl
           refine pure_ (i:=29) (N:=some 59) (v:=undef) (a':=?_) #[T,T,T,T,T,T,T,T,T,T,T,T,T,T,T,T,T,T,T,T,T,T,T,T,T,T,T,T,T,T,F,F,F,F] rfl rfl (any_of HT_.out (by kernel_rfl)) (fun _ _ _ h=>h) (Or.inr ⟨by rfl,rfl⟩) ?_ ?_
           rotate_left
           ·simp only [Act.put,zz21,zz22,zz23,i64_w,i32_w]
            rfl
           refine pure_ (i:=30) (N:=some 60) (v:=undef) (a':=?_) #[T,T,T,T,T,T,T,T,T,T,T,T,T,T,T,T,T,T,T,T,T,T,T,T,T,T,T,T,T,T,T,F,F,F] rfl rfl (any_of HT_.out (by kernel_rfl)) (fun _ _ _ h=>h) (Or.inr ⟨by rfl,rfl⟩) ?_ ?_
           rotate_left
           ·simp only [Act.put,zz21,zz22,zz23,i64_w,i32_w]
            rfl
           refine pure_ (i:=31) (N:=some 61) (v:=undef) (a':=?_) #[T,T,T,T,T,T,T,T,T,T,T,T,T,T,T,T,T,T,T,T,T,T,T,T,T,T,T,T,T,T,T,T,F,F] rfl rfl (any_of HT_.out (by kernel_rfl)) (fun _ _ _ h=>h) (Or.inr ⟨by rfl,rfl⟩) ?_ ?_
           rotate_left
           ·simp only [Act.put,zz21,zz22,zz23,i64_w,i32_w]
            rfl
           refine pure_ (i:=32) (N:=some 62) (v:=undef) (a':=?_) #[T,T,T,T,T,T,T,T,T,T,T,T,T,T,T,T,T,T,T,T,T,T,T,T,T,T,T,T,T,T,T,T,T,F] rfl rfl (any_of HT_.out (by kernel_rfl)) (fun _ _ _ h=>h) (Or.inr ⟨by rfl,rfl⟩) ?_ ?_
           rotate_left
           ·simp only [Act.put,zz21,zz22,zz23,i64_w,i32_w]
            rfl
           refine pure_ (i:=33) (N:=some 63) (v:=?_) (a':=?_) #[T,T,T,T,T,T,T,T,T,T,T,T,T,T,T,T,T,T,T,T,T,T,T,T,T,T,T,T,T,T,T,T,T,T] rfl rfl (any_of HT_.out (by kernel_rfl)) (fun _ _ _ h=>h) (Or.inl ⟨by rfl,?_⟩) ?_ ?_
           rotate_left
           ·intro w'
            go_simp
            with_reducible rfl
           rotate_left
           ·simp only [Act.put,zz21,zz22,zz23,i64_w,i32_w]
            rfl
           refine done_ (done_of HT_.out (by kernel_rfl)) ?_
           try go_wp2
           go_ret
           exact ⟨by first | rfl | (simp [errW_none,errW_some] <;> rfl) | (simp [*,errW_none,errW_some] <;> rfl),by repeat first | exact HB.out | apply zz2 | apply zz0 | apply zz1 | refine zz3 ?_ GE130.out | refine zz3 ?_ GE133.out⟩
         ·replace c14:=Bool.eq_false_iff.mpr c14
          subst c14
          have H1:(some false)=some r:=by rw [if_neg (show ¬ (false=true) by decide)] at H;exact H
          clear H
          have H:=H1
          clear H1
          obtain rfl:=Option.some.inj H
          have p132:0≤(x25_2:Int):=zz29 (by first | (with_reducible assumption) | assumption)
          have q132:x25_2 < (l0_1.length:Int):=zz29 (by first | (with_reducible assumption) | assumption)
          obtain ⟨ad132,e132,hx132_0,hx132_1⟩:=at_T70 HR0_1.out x25_2 p132 q132
          cases e132
          try replace hx132_0:=(HB.out.cell (World.block_lt_of_cell? w _ hx132_0)).trans hx132_0
          try replace hx132_1:=(HB.out.cell (World.block_lt_of_cell? w _ hx132_1)).trans hx132_1
          replace p132:=eq_true p132
          replace q132:=eq_true q132
          try go_wp2_with (first | ((with_reducible refine gate_dst (N:=4) rfl ?_);(try (refine gate_guard (by rfl) ?_;dsimp only));refine box_event ?hg (N:=4) ?hd (cs:=#[.int .i64 0,.int .i64 0]) (t:=70) ?hr ?_;(case hd=>rfl);(case hg=>rfl);(case hr=>first | (go_simp;done) | (go_simp;rfl));intro gb133 hg w45 hbox hb;have n0_:=zz31 (zz11 (g:=gb130) (o:=.cells #[.int .i64 a0_0,.slice (some ad132) l0_1.length c0_1] 30 (0,0)) (by (with_reducible repeat (first | refine zz6 ?_ _ | refine zz7 ?_ | refine zz8 ?_ _));exact BK130.out) hb);have n1_:=zz31 (zz4 (by repeat first | exact HB.out | apply zz2 | apply zz0 | apply zz1 | refine zz3 ?_ GE130.out) hb);have n2_:=zz31 (hbox);have n3_:=zz31 ((by rw [hg];exact (zz5 (by repeat first | exact HB.out | apply zz2 | apply zz0 | apply zz1 | refine zz3 ?_ GE130.out)):w.heap.size≤gb133));have n4_:=zz31 ((by rw [hg];exact (zz5 (by repeat first | exact HB.out | apply zz2 | apply zz0 | apply zz1 | refine zz3 ?_ GE130.out)):w.heap.size≤gb133));have n5_:=zz31 ((by rw [hg];exact Nat.ne_of_lt (blk_lt (g:=gb130) (o:=.cells #[.int .i64 a0_0,.slice (some ad132) l0_1.length c0_1] 30 (0,0)) (by (with_reducible repeat (first | refine zz6 ?_ _ | refine zz7 ?_ | refine zz8 ?_ _));exact BK130.out)):gb130 ≠ gb133));have n6_:=zz31 ((by rw [hg];exact Nat.ne_of_gt (blk_lt (g:=gb130) (o:=.cells #[.int .i64 a0_0,.slice (some ad132) l0_1.length c0_1] 30 (0,0)) (by (with_reducible repeat (first | refine zz6 ?_ _ | refine zz7 ?_ | refine zz8 ?_ _));exact BK130.out)):gb133 ≠ gb130));clear BK130;clear HB;have BK130:=n0_;have HB:=n1_;have BK133:=n2_;have GW133:=n3_;have GE133:=n4_;have NB130_133:=n5_;have NB133_130:=n6_;clear n0_ n1_ n2_ n3_ n4_ n5_ n6_;clear hb hbox hg;have hnb46:=NB133_130.out;have hnc46:=NB130_133.out;have hcz47_0:w45.cell? ⟨gb133,0,none⟩=some (.int .i64 0):=(zz9 BK133.out 0).trans rfl;have hcz47_1:w45.cell? ⟨gb133,1,none⟩=some (.int .i64 0):=(zz9 BK133.out 1).trans rfl;have hfz47_0:=zz10 BK133.out 0;have hfz47_1:=zz10 BK133.out 1))
          have n0_:Aside0 (((w45.setCell ⟨gb133,0,none⟩ (.int .i64 ((rd_T70 l0_1 x25_2).f0))).setCell ⟨gb133,1,none⟩ (.int .i64 ((rd_T70 l0_1 x25_2).f1))).heap[gb130]?=some (.cells #[.int .i64 a0_0,.slice (some ad132) l0_1.length c0_1] 30 (0,0))):=⟨by (with_reducible repeat (first | refine zz6 ?_ _ | refine zz7 ?_ | refine zz8 ?_ _));refine blk_far ?_ NB130_133.out _;(with_reducible repeat (first | refine zz6 ?_ _ | refine zz7 ?_ | refine zz8 ?_ _));refine blk_far ?_ NB130_133.out _;(with_reducible repeat (first | refine zz6 ?_ _ | refine zz7 ?_ | refine zz8 ?_ _));exact BK130.out⟩
          have n1_:Aside0 (((w45.setCell ⟨gb133,0,none⟩ (.int .i64 ((rd_T70 l0_1 x25_2).f0))).setCell ⟨gb133,1,none⟩ (.int .i64 ((rd_T70 l0_1 x25_2).f1))).heap[gb133]?=some (.cells #[.int .i64 ((rd_T70 l0_1 x25_2).f0),.int .i64 ((rd_T70 l0_1 x25_2).f1)] 70 (0,0))):=⟨by (with_reducible repeat (first | refine zz6 ?_ _ | refine zz7 ?_ | refine zz8 ?_ _));refine blk_put (cs:=#[.int .i64 ((rd_T70 l0_1 x25_2).f0),.int .i64 0]) ?_ 1 _ rfl;(with_reducible repeat (first | refine zz6 ?_ _ | refine zz7 ?_ | refine zz8 ?_ _));refine blk_put (cs:=#[.int .i64 0,.int .i64 0]) ?_ 0 _ rfl;(with_reducible repeat (first | refine zz6 ?_ _ | refine zz7 ?_ | refine zz8 ?_ _));exact BK133.out⟩
          have n2_:Aside0 (Below w.heap.size w ((w45.setCell ⟨gb133,0,none⟩ (.int .i64 ((rd_T70 l0_1 x25_2).f0))).setCell ⟨gb133,1,none⟩ (.int .i64 ((rd_T70 l0_1 x25_2).f1)))):=⟨by repeat first | exact HB.out | apply zz2 | apply zz0 | apply zz1 | refine zz3 ?_ GE130.out | refine zz3 ?_ GE133.out⟩
          (try clear BK130)
          (try clear BK133)
          (try clear HB)
          generalize ((w45.setCell ⟨gb133,0,none⟩ (.int .i64 ((rd_T70 l0_1 x25_2).f0))).setCell ⟨gb133,1,none⟩ (.int .i64 ((rd_T70 l0_1 x25_2).f1)))=w48 at n0_ n1_ n2_ ⊢
          have BK130:=n0_
          have BK133:=n1_
          have HB:=n2_
          clear n0_ n1_ n2_
          have n0_:=zz31 (zz7 BK130.out)
          have n1_:=zz31 (zz7 BK133.out)
          have n2_:=zz31 (zz1 HB.out)
          clear BK130
          clear BK133
          clear HB
          have BK130:=n0_
          have BK133:=n1_
          have HB:=n2_
          clear n0_ n1_ n2_
          refine start_ (n:=34) (S:=fun w'=>w'.cell? ⟨gb133,0,none⟩=some (.int .i64 ((rd_T70 l0_1 x25_2).f0))∧w'.cell? ⟨gb133,1,none⟩=some (.int .i64 ((rd_T70 l0_1 x25_2).f1))∧w'.cell? ⟨gb130,0,none⟩=some (.int .i64 a0_0)∧w'.cell? ⟨gb130,1,none⟩=some (.slice (some ad132) l0_1.length c0_1)) (ds:=[]) #[F,F,F,F,F,F,F,F,F,F,F,F,F,F,F,F,F,F,F,F,F,F,F,F,F,F,F,F,F,F,F,F,F,F] (by kernel_rfl) rfl rfl ⟨(zz9 BK133.out 0).trans rfl,(zz9 BK133.out 1).trans rfl,(zz9 BK130.out 0).trans rfl,(zz9 BK130.out 1).trans rfl⟩ (fun hHeld=>?_);refine with_tabW spec_paGood.tab6 spec_paGood.bits6 (fun HT_ HW_=>?_)
          generalize w48.drew=w49 at BK130 BK133 HB hHeld ⊢
          refine pure_ (i:=0) (N:=some 30) (v:=?_) (a':=?_) #[T,F,F,F,F,F,F,F,F,F,F,F,F,F,F,F,F,F,F,F,F,F,F,F,F,F,F,F,F,F,F,F,F,F] rfl rfl (any_of HT_.out (by kernel_rfl)) (fun _ _ _ h=>h) (Or.inl ⟨by rfl,?_⟩) ?_ ?_
          rotate_left
          ·intro w'
           go_simp
           with_reducible rfl
          rotate_left
          ·simp only [Act.put,zz21,zz22,zz23,i64_w,i32_w]
           rfl
          refine pure_ (i:=2) (N:=some 32) (v:=?_) (a':=?_) #[T,F,T,F,F,F,F,F,F,F,F,F,F,F,F,F,F,F,F,F,F,F,F,F,F,F,F,F,F,F,F,F,F,F] rfl rfl (any_of HT_.out (by kernel_rfl)) (fun _ _ _ h=>h) (Or.inl ⟨by rfl,?_⟩) ?_ ?_
          rotate_left
          ·intro w'
           go_simp
           with_reducible rfl
          rotate_left
          ·simp only [Act.put,zz21,zz22,zz23,i64_w,i32_w]
           rfl
          refine take_ (i:=1) (N:=some 31) (v:=?_) (a':=?_) #[T,T,T,F,F,F,F,F,F,F,F,F,F,F,F,F,F,F,F,F,F,F,F,F,F,F,F,F,F,F,F,F,F,F] rfl rfl (take_ofW HT_.out HW_.out (by kernel_rfl)) (fun _ _ _ h=>h) (Or.inl ⟨by rfl,?_⟩) hHeld ?_ ?_
          rotate_left
          ·rintro w' ⟨s0,s1,s2,s3⟩
           go_simp
           with_reducible rfl
          rotate_left
          ·simp only [Act.put,zz21,zz22,zz23,i64_w,i32_w]
           rfl
          refine take_ (i:=3) (N:=some 33) (v:=?_) (a':=?_) #[T,T,T,T,F,F,F,F,F,F,F,F,F,F,F,F,F,F,F,F,F,F,F,F,F,F,F,F,F,F,F,F,F,F] rfl rfl (take_ofW HT_.out HW_.out (by kernel_rfl)) (fun _ _ _ h=>h) (Or.inl ⟨by rfl,?_⟩) hHeld ?_ ?_
          rotate_left
          ·rintro w' ⟨s0,s1,s2,s3⟩
           go_simp
           with_reducible rfl
          rotate_left
          ·simp only [Act.put,zz21,zz22,zz23,i64_w,i32_w]
           rfl
          refine pure_ (i:=4) (N:=some 34) (v:=?_) (a':=?_) #[T,T,T,T,T,F,F,F,F,F,F,F,F,F,F,F,F,F,F,F,F,F,F,F,F,F,F,F,F,F,F,F,F,F] rfl rfl (any_of HT_.out (by kernel_rfl)) (fun _ _ _ h=>h) (Or.inl ⟨by rfl,?_⟩) ?_ ?_
          rotate_left
          ·intro w'
           go_simp
           with_reducible rfl
          rotate_left
          ·simp only [Act.put,zz21,zz22,zz23,i64_w,i32_w]
           rfl
          refine one_ (i:=5) (N:=some 35) #[T,T,T,T,T,T,F,F,F,F,F,F,F,F,F,F,F,F,F,F,F,F,F,F,F,F,F,F,F,F,F,F,F,F] rfl rfl (one_of HT_.out (by kernel_rfl)) (by decide) (fun K hK=>?_)
          refine goes_ Try.func74 (by kernel_rfl) rfl #[.int .i64 ((rd_T70 l0_1 x25_2).f0),.int .i64 0,.int .i64 (wrap64 (a0_0 - 1))] (by rfl) rfl rfl (by (try simp only [zz26,zz27,zz28]);first | done | rfl | (simp only [zz24,zz25];rfl)) ?_
          with_reducible refine (spec_l1In.calls ((rd_T70 l0_1 x25_2).f0) 0 (wrap64 (a0_0 - 1)) false _ A13.out).mono ?_
          rintro e w' ⟨rfl,⟨nd,rfl⟩⟩
          refine ⟨_,rfl,?_⟩
          refine hK.out _ _ ⟨(zz9 BK133.out 0).trans rfl,(zz9 BK133.out 1).trans rfl,(zz9 BK130.out 0).trans rfl,(zz9 BK130.out 1).trans rfl⟩ (fun hHeld=>?_)
          clear hK K
          refine norm_ (a':=?_) ?_ ?_
          rotate_left
          ·show Act.put _ (some 35) _=_
           simp only [Act.put,zz21,zz22,zz23,i64_w,i32_w]
           rfl
          refine pure_ (i:=6) (N:=some 36) (v:=?_) (a':=?_) #[T,T,T,T,T,T,T,F,F,F,F,F,F,F,F,F,F,F,F,F,F,F,F,F,F,F,F,F,F,F,F,F,F,F] rfl rfl (any_of HT_.out (by kernel_rfl)) (fun _ _ _ h=>h) (Or.inl ⟨by rfl,?_⟩) ?_ ?_
          rotate_left
          ·intro w'
           go_simp
           with_reducible rfl
          rotate_left
          ·simp only [Act.put,zz21,zz22,zz23,i64_w,i32_w]
           rfl
          refine pure_ (i:=7) (N:=some 37) (v:=?_) (a':=?_) #[T,T,T,T,T,T,T,T,F,F,F,F,F,F,F,F,F,F,F,F,F,F,F,F,F,F,F,F,F,F,F,F,F,F] rfl rfl (any_of HT_.out (by kernel_rfl)) (fun _ _ _ h=>h) (Or.inl ⟨by rfl,?_⟩) ?_ ?_
          rotate_left
          ·intro w'
           go_simp
           with_reducible rfl
          rotate_left
          ·simp only [Act.put,zz21,zz22,zz23,i64_w,i32_w]
           rfl
          refine pure_ (i:=8) (N:=some 38) (v:=undef) (a':=?_) #[T,T,T,T,T,T,T,T,T,F,F,F,F,F,F,F,F,F,F,F,F,F,F,F,F,F,F,F,F,F,F,F,F,F] rfl rfl (any_of HT_.out (by kernel_rfl)) (fun _ _ _ h=>h) (Or.inr ⟨by rfl,rfl⟩) ?_ ?_
          rotate_left
          ·simp only [Act.put,zz21,zz22,zz23,i64_w,i32_w]
           rfl
          refine pure_ (i:=9) (N:=some 39) (v:=undef) (a':=?_) #[T,T,T,T,T,T,T,T,T,T,F,F,F,F,F,F,F,F,F,F,F,F,F,F,F,F,F,F,F,F,F,F,F,F] rfl rfl (any_of HT_.out (by kernel_rfl)) (fun _ _ _ h=>h) (Or.inr ⟨by rfl,rfl⟩) ?_ ?_
          rotate_left
          ·simp only [Act.put,zz21,zz22,zz23,i64_w,i32_w]
           rfl
          refine pure_ (i:=10) (N:=some 40) (v:=undef) (a':=?_) #[T,T,T,T,T,T,T,T,T,T,T,F,F,F,F,F,F,F,F,F,F,F,F,F,F,F,F,F,F,F,F,F,F,F] rfl rfl (any_of HT_.out (by kernel_rfl)) (fun _ _ _ h=>h) (Or.inr ⟨by rfl,rfl⟩) ?_ ?_
          rotate_left
          ·simp only [Act.put,zz21,zz22,zz23,i64_w,i32_w]
           rfl
          refine pure_ (i:=11) (N:=some 41) (v:=undef) (a':=?_) #[T,T,T,T,T,T,T,T,T,T,T,T,F,F,F,F,F,F,F,F,F,F,F,F,F,F,F,F,F,F,F,F,F,F] rfl rfl (any_of HT_.out (by kernel_rfl)) (fun _ _ _ h=>h) (Or.inr ⟨by rfl,rfl⟩) ?_ ?_
          rotate_left
          ·simp only [Act.put,zz21,zz22,zz23,i64_w,i32_w]
           rfl
          refine pure_ (i:=12) (N:=some 42) (v:=undef) (a':=?_) #[T,T,T,T,T,T,T,T,T,T,T,T,T,F,F,F,F,F,F,F,F,F,F,F,F,F,F,F,F,F,F,F,F,F] rfl rfl (any_of HT_.out (by kernel_rfl)) (fun _ _ _ h=>h) (Or.inr ⟨by rfl,rfl⟩) ?_ ?_
          rotate_left
          ·simp only [Act.put,zz21,zz22,zz23,i64_w,i32_w]
           rfl
          refine pure_ (i:=13) (N:=some 43) (v:=undef) (a':=?_) #[T,T,T,T,T,T,T,T,T,T,T,T,T,T,F,F,F,F,F,F,F,F,F,F,F,F,F,F,F,F,F,F,F,F] rfl rfl (any_of HT_.out (by kernel_rfl)) (fun _ _ _ h=>h) (Or.inr ⟨by rfl,rfl⟩) ?_ ?_
          rotate_left
          ·simp only [Act.put,zz21,zz22,zz23,i64_w,i32_w]
           rfl
          refine pure_ (i:=14) (N:=some 44) (v:=undef) (a':=?_) #[T,T,T,T,T,T,T,T,T,T,T,T,T,T,T,F,F,F,F,F,F,F,F,F,F,F,F,F,F,F,F,F,F,F] rfl rfl (any_of HT_.out (by kernel_rfl)) (fun _ _ _ h=>h) (Or.inr ⟨by rfl,rfl⟩) ?_ ?_
          rotate_left
          ·simp only [Act.put,zz21,zz22,zz23,i64_w,i32_w]
           rfl
          refine pure_ (i:=15) (N:=some 45) (v:=undef) (a':=?_) #[T,T,T,T,T,T,T,T,T,T,T,T,T,T,T,T,F,F,F,F,F,F,F,F,F,F,F,F,F,F,F,F,F,F] rfl rfl (any_of HT_.out (by kernel_rfl)) (fun _ _ _ h=>h) (Or.inr ⟨by rfl,rfl⟩) ?_ ?_
          rotate_left
          ·simp only [Act.put,zz21,zz22,zz23,i64_w,i32_w]
           rfl
          refine pure_ (i:=16) (N:=some 46) (v:=undef) (a':=?_) #[T,T,T,T,T,T,T,T,T,T,T,T,T,T,T,T,T,F,F,F,F,F,F,F,F,F,F,F,F,F,F,F,F,F] rfl rfl (any_of HT_.out (by kernel_rfl)) (fun _ _ _ h=>h) (Or.inr ⟨by rfl,rfl⟩) ?_ ?_
          rotate_left
          ·simp only [Act.put,zz21,zz22,zz23,i64_w,i32_w]
           rfl
          refine pure_ (i:=17) (N:=some 47) (v:=undef) (a':=?_) #[T,T,T,T,T,T,T,T,T,T,T,T,T,T,T,T,T,T,F,F,F,F,F,F,F,F,F,F,F,F,F,F,F,F] rfl rfl (any_of HT_.out (by kernel_rfl)) (fun _ _ _ h=>h) (Or.inr ⟨by rfl,rfl⟩) ?_ ?_
          rotate_left
          ·simp only [Act.put,zz21,zz22,zz23,i64_w,i32_w]
           rfl
          refine pure_ (i:=18) (N:=some 48) (v:=?_) (a':=?_) #[T,T,T,T,T,T,T,T,T,T,T,T,T,T,T,T,T,T,T,F,F,F,F,F,F,F,F,F,F,F,F,F,F,F] rfl rfl (any_of HT_.out (by kernel_rfl)) (fun _ _ _ h=>h) (Or.inl ⟨by rfl,?_⟩) ?_ ?_
          rotate_left
          ·intro w'
           go_simp
           with_reducible rfl
          rotate_left
          ·simp only [Act.put,zz21,zz22,zz23,i64_w,i32_w]
           rfl
          refine pure_ (i:=19) (N:=some 49) (v:=?_) (a':=?_) #[T,T,T,T,T,T,T,T,T,T,T,T,T,T,T,T,T,T,T,T,F,F,F,F,F,F,F,F,F,F,F,F,F,F] rfl rfl (any_of HT_.out (by kernel_rfl)) (fun _ _ _ h=>h) (Or.inl ⟨by rfl,?_⟩) ?_ ?_
          rotate_left
          ·intro w'
           go_simp
           with_reducible rfl
          rotate_left
          ·simp only [Act.put,zz21,zz22,zz23,i64_w,i32_w]
           rfl
          refine pure_ (i:=20) (N:=some 50) (v:=undef) (a':=?_) #[T,T,T,T,T,T,T,T,T,T,T,T,T,T,T,T,T,T,T,T,T,F,F,F,F,F,F,F,F,F,F,F,F,F] rfl rfl (any_of HT_.out (by kernel_rfl)) (fun _ _ _ h=>h) (Or.inr ⟨by rfl,rfl⟩) ?_ ?_
          rotate_left
          ·simp only [Act.put,zz21,zz22,zz23,i64_w,i32_w]
           rfl
          refine pure_ (i:=21) (N:=some 51) (v:=undef) (a':=?_) #[T,T,T,T,T,T,T,T,T,T,T,T,T,T,T,T,T,T,T,T,T,T,F,F,F,F,F,F,F,F,F,F,F,F] rfl rfl (any_of HT_.out (by kernel_rfl)) (fun _ _ _ h=>h) (Or.inr ⟨by rfl,rfl⟩) ?_ ?_
          rotate_left
          ·simp only [Act.put,zz21,zz22,zz23,i64_w,i32_w]
           rfl
          refine pure_ (i:=22) (N:=some 52) (v:=undef) (a':=?_) #[T,T,T,T,T,T,T,T,T,T,T,T,T,T,T,T,T,T,T,T,T,T,T,F,F,F,F,F,F,F,F,F,F,F] rfl rfl (any_of HT_.out (by kernel_rfl)) (fun _ _ _ h=>h) (Or.inr ⟨by rfl,rfl⟩) ?_ ?_
          rotate_left
          ·simp only [Act.put,zz21,zz22,zz23,i64_w,i32_w]
           rfl
          refine pure_ (i:=23) (N:=some 53) (v:=undef) (a':=?_) #[T,T,T,T,T,T,T,T,T,T,T,T,T,T,T,T,T,T,T,T,T,T,T,T,F,F,F,F,F,F,F,F,F,F] rfl rfl (any_of HT_.out (by kernel_rfl)) (fun _ _ _ h=>h) (Or.inr ⟨by rfl,rfl⟩) ?_ ?_
          rotate_left
          ·simp only [Act.put,zz21,zz22,zz23,i64_w,i32_w]
           rfl
          refine pure_ (i:=24) (N:=some 54) (v:=undef) (a':=?_) #[T,T,T,T,T,T,T,T,T,T,T,T,T,T,T,T,T,T,T,T,T,T,T,T,T,F,F,F,F,F,F,F,F,F] rfl rfl (any_of HT_.out (by kernel_rfl)) (fun _ _ _ h=>h) (Or.inr ⟨by rfl,rfl⟩) ?_ ?_
          rotate_left
          ·simp only [Act.put,zz21,zz22,zz23,i64_w,i32_w]
           rfl
          refine pure_ (i:=25) (N:=some 55) (v:=undef) (a':=?_) #[T,T,T,T,T,T,T,T,T,T,T,T,T,T,T,T,T,T,T,T,T,T,T,T,T,T,F,F,F,F,F,F,F,F] rfl rfl (any_of HT_.out (by kernel_rfl)) (fun _ _ _ h=>h) (Or.inr ⟨by rfl,rfl⟩) ?_ ?_
          rotate_left
          ·simp only [Act.put,zz21,zz22,zz23,i64_w,i32_w]
           rfl
          refine pure_ (i:=26) (N:=some 56) (v:=undef) (a':=?_) #[T,T,T,T,T,T,T,T,T,T,T,T,T,T,T,T,T,T,T,T,T,T,T,T,T,T,T,F,F,F,F,F,F,F] rfl rfl (any_of HT_.out (by kernel_rfl)) (fun _ _ _ h=>h) (Or.inr ⟨by rfl,rfl⟩) ?_ ?_
          rotate_left
          ·simp only [Act.put,zz21,zz22,zz23,i64_w,i32_w]
           rfl
          refine pure_ (i:=27) (N:=some 57) (v:=undef) (a':=?_) #[T,T,T,T,T,T,T,T,T,T,T,T,T,T,T,T,T,T,T,T,T,T,T,T,T,T,T,T,F,F,F,F,F,F] rfl rfl (any_of HT_.out (by kernel_rfl)) (fun _ _ _ h=>h) (Or.inr ⟨by rfl,rfl⟩) ?_ ?_
          rotate_left
          ·simp only [Act.put,zz21,zz22,zz23,i64_w,i32_w]
           rfl
          refine pure_ (i:=28) (N:=some 58) (v:=undef) (a':=?_) #[T,T,T,T,T,T,T,T,T,T,T,T,T,T,T,T,T,T,T,T,T,T,T,T,T,T,T,T,T,F,F,F,F,F] rfl rfl (any_of HT_.out (by kernel_rfl)) (fun _ _ _ h=>h) (Or.inr ⟨by rfl,rfl⟩) ?_ ?_
          rotate_left
          ·simp only [Act.put,zz21,zz22,zz23,i64_w,i32_w]
           rfl
          refine pure_ (i:=29) (N:=some 59) (v:=undef) (a':=?_) #[T,T,T,T,T,T,T,T,T,T,T,T,T,T,T,T,T,T,T,T,T,T,T,T,T,T,T,T,T,T,F,F,F,F] rfl rfl (any_of HT_.out (by kernel_rfl)) (fun _ _ _ h=>h) (Or.inr ⟨by rfl,rfl⟩) ?_ ?_
          rotate_left
          ·simp only [Act.put,zz21,zz22,zz23,i64_w,i32_w]
           rfl
          refine pure_ (i:=30) (N:=some 60) (v:=undef) (a':=?_) #[T,T,T,T,T,T,T,T,T,T,T,T,T,T,T,T,T,T,T,T,T,T,T,T,T,T,T,T,T,T,T,F,F,F] rfl rfl (any_of HT_.out (by kernel_rfl)) (fun _ _ _ h=>h) (Or.inr ⟨by rfl,rfl⟩) ?_ ?_
          rotate_left
          ·simp only [Act.put,zz21,zz22,zz23,i64_w,i32_w]
           rfl
          refine pure_ (i:=31) (N:=some 61) (v:=undef) (a':=?_) #[T,T,T,T,T,T,T,T,T,T,T,T,T,T,T,T,T,T,T,T,T,T,T,T,T,T,T,T,T,T,T,T,F,F] rfl rfl (any_of HT_.out (by kernel_rfl)) (fun _ _ _ h=>h) (Or.inr ⟨by rfl,rfl⟩) ?_ ?_
          rotate_left
          ·simp only [Act.put,zz21,zz22,zz23,i64_w,i32_w]
           rfl
          refine pure_ (i:=32) (N:=some 62) (v:=undef) (a':=?_) #[T,T,T,T,T,T,T,T,T,T,T,T,T,T,T,T,T,T,T,T,T,T,T,T,T,T,T,T,T,T,T,T,T,F] rfl rfl (any_of HT_.out (by kernel_rfl)) (fun _ _ _ h=>h) (Or.inr ⟨by rfl,rfl⟩) ?_ ?_
          rotate_left
          ·simp only [Act.put,zz21,zz22,zz23,i64_w,i32_w]
           rfl
          refine pure_ (i:=33) (N:=some 63) (v:=?_) (a':=?_) #[T,T,T,T,T,T,T,T,T,T,T,T,T,T,T,T,T,T,T,T,T,T,T,T,T,T,T,T,T,T,T,T,T,T] rfl rfl (any_of HT_.out (by kernel_rfl)) (fun _ _ _ h=>h) (Or.inl ⟨by rfl,?_⟩) ?_ ?_
          rotate_left
          ·intro w'
           go_simp
           with_reducible rfl
          rotate_left
          ·simp only [Act.put,zz21,zz22,zz23,i64_w,i32_w]
           rfl
          refine done_ (done_of HT_.out (by kernel_rfl)) ?_
          try go_wp2
          go_ret
          exact ⟨by first | rfl | (simp [errW_none,errW_some] <;> rfl) | (simp [*,errW_none,errW_some] <;> rfl),by repeat first | exact HB.out | apply zz2 | apply zz0 | apply zz1 | refine zz3 ?_ GE130.out | refine zz3 ?_ GE133.out⟩
        ·rw [if_neg c12] at H
         exact absurd H (by simp)
       ·rw [if_neg c11] at H
        exact absurd H (by simp)
      ·rw [if_neg c10] at H
       have c10b0:decide (x25_2 < (l0_1.length:Int))=false:=decide_eq_false c10
       clear c10
       obtain rfl:=Option.some.inj H
       go_wp2
       go_ret
       exact ⟨by first | rfl | (simp [errW_none,errW_some] <;> rfl) | (simp [*,errW_none,errW_some] <;> rfl),by repeat first | exact HB.out | apply zz2 | apply zz0 | apply zz1 | refine zz3 ?_ GE130.out⟩

/-! ### spec_paFew: function 30 -/
def spec_paFew.f (k:Nat) (a0_0:Int) (l0_1:List (S70)):Option (Bool):=(spec_paGood.f k a0_0 l0_1).bind fun t139=>(if t139=true then (some (decide (a0_0≤7))) else (some false))
theorem spec_paFew.mono:∀ a0 a1 k,LeO (spec_paFew.f k a0 a1) (spec_paFew.f (k+1) a0 a1):=by
 intro a0 a1 k
 unfold spec_paFew.f
 repeat' first
   | (with_reducible exact spec_paGood.mono _ _ _)
   | (with_reducible exact LeO.refl _)
   | (with_reducible exact LeO.none _)
   | (with_reducible refine LeO.ite ?_ ?_)
   | (with_reducible refine LeO.bind ?_ (fun _=>?_))
   | exact spec_paGood.mono _ _ _
   | exact LeO.none _
   | refine LeO.ite ?_ ?_
   | refine LeO.bind ?_ (fun _=>?_)
set_option maxHeartbeats 8000000 in
set_option maxRecDepth 100000 in
theorem spec_paFew.calls (k:Nat) (a0_0:Int) (A0_1:Option Addr) (c0_1:Nat) (l0_1:List (S70)) (r:Bool) (w:World) (hr0_1:Kd.C k70 w A0_1 l0_1.length l0_1) (hc0_1:l0_1.length≤c0_1) (h:spec_paFew.f k a0_0 l0_1=some r) :
  Calls Try.prog 30 #[.agg #[.int .i64 a0_0,.slice A0_1 l0_1.length c0_1]] w fun e w'=>e=.returned (.bool r)∧Below w.heap.size w w':=by
 have hu30:=Try.underlying30
 have HR0_1:=zz31 hr0_1
 have HC0_1:=zz31 hc0_1
 clear hr0_1 hc0_1
 have HB:=zz31 (Below.refl w.heap.size w)
 have H:((spec_paGood.f k a0_0 l0_1).bind fun t139=>(if t139=true then (some (decide (a0_0≤7))) else (some false)))=some r:=h
 clear h
 replace H:=zz30.mp H
 obtain ⟨t139,A20,H⟩:=H
 replace H:(if t139=true then (some (decide (a0_0≤7))) else (some false))=some r:=H
 have A2:=zz31 A20
 clear A20
 by_cases c3:t139=true
 ·subst c3
  have H1:(some (decide (a0_0≤7)))=some r:=by rw [if_pos rfl] at H;exact H
  clear H
  have H:=H1
  clear H1
  obtain rfl:=Option.some.inj H
  go_enter Try.func30,Try.ntmps30
  go_wp2_with (first | ((with_reducible refine gate_dst (N:=1) rfl ?_);refine box_event ?hg (N:=1) ?hd (cs:=#[.int .i64 a0_0,.slice A0_1 l0_1.length c0_1]) (t:=30) ?hr ?_;(case hd=>rfl);(case hg=>rfl);(case hr=>first | (go_simp;done) | (go_simp;rfl));intro gb138 hg w4 hbox hb;have n0_:=zz31 (zz4 (by repeat first | exact HB.out | apply zz2 | apply zz0 | apply zz1) hb);have n1_:=zz31 (hbox);have n2_:=zz31 ((by rw [hg];exact (zz5 (by repeat first | exact HB.out | apply zz2 | apply zz0 | apply zz1)):w.heap.size≤gb138));have n3_:=zz31 ((by rw [hg];exact (zz5 (by repeat first | exact HB.out | apply zz2 | apply zz0 | apply zz1)):w.heap.size≤gb138));clear HB;have HB:=n0_;have BK138:=n1_;have GW138:=n2_;have GE138:=n3_;clear n0_ n1_ n2_ n3_;clear hb hbox hg;have hcz5_0:w4.cell? ⟨gb138,0,none⟩=some (.int .i64 a0_0):=(zz9 BK138.out 0).trans rfl;have hcz5_1:w4.cell? ⟨gb138,1,none⟩=some (.slice A0_1 l0_1.length c0_1):=(zz9 BK138.out 1).trans rfl;have hfz5_0:=zz10 BK138.out 0;have hfz5_1:=zz10 BK138.out 1) | ((with_reducible refine gate_callee (f:=46) rfl ?_);refine goesL_ (some 4) rfl rfl Try.func46 (by kernel_rfl) rfl #[.agg #[.int .i64 a0_0,.slice A0_1 l0_1.length c0_1]] rfl (by (try simp only [zz26,zz27,zz28]);first | done | rfl | (simp only [zz24,zz25];rfl)) ?_;(with_reducible refine (spec_paGood.calls k a0_0 _ _ l0_1 true _ ?side1 ?side2 A2.out).mono ?_);(case side1=>repeat (first | exact (Kd.C_below HR0_1.out HB.out) | (with_reducible refine zz18 ?_ _) | (with_reducible refine zz19 ?_ _) | (with_reducible refine zz20 ?_)));(case side2=>exact HC0_1.out);rintro e w6 ⟨rfl,hb⟩;refine ⟨_,rfl,?_⟩;have n0_:=zz31 (zz11 (g:=gb138) (o:=.cells #[.int .i64 a0_0,.slice A0_1 l0_1.length c0_1] 30 (0,0)) (by (with_reducible repeat (first | refine zz6 ?_ _ | refine zz7 ?_ | refine zz8 ?_ _));exact BK138.out) hb);have n1_:=zz31 (zz4 (by repeat first | exact HB.out | apply zz2 | apply zz0 | apply zz1 | refine zz3 ?_ GE138.out) hb);clear BK138;clear HB;have BK138:=n0_;have HB:=n1_;clear n0_ n1_;(try clear hb);(try clear hb2);(try clear hk);(try clear hi);have hcz7_0:w6.cell? ⟨gb138,0,none⟩=some (.int .i64 a0_0):=(zz9 BK138.out 0).trans rfl;have hcz7_1:w6.cell? ⟨gb138,1,none⟩=some (.slice A0_1 l0_1.length c0_1):=(zz9 BK138.out 1).trans rfl;have hfz7_0:=zz10 BK138.out 0;have hfz7_1:=zz10 BK138.out 1))
  go_ret
  exact ⟨by first | rfl | (simp [errW_none,errW_some] <;> rfl) | (simp [*,errW_none,errW_some] <;> rfl),by repeat first | exact HB.out | apply zz2 | apply zz0 | apply zz1 | refine zz3 ?_ GE138.out⟩
 ·replace c3:=Bool.eq_false_iff.mpr c3
  subst c3
  have H1:(some false)=some r:=by rw [if_neg (show ¬ (false=true) by decide)] at H;exact H
  clear H
  have H:=H1
  clear H1
  obtain rfl:=Option.some.inj H
  go_enter Try.func30,Try.ntmps30
  go_wp2_with (first | ((with_reducible refine gate_dst (N:=1) rfl ?_);refine box_event ?hg (N:=1) ?hd (cs:=#[.int .i64 a0_0,.slice A0_1 l0_1.length c0_1]) (t:=30) ?hr ?_;(case hd=>rfl);(case hg=>rfl);(case hr=>first | (go_simp;done) | (go_simp;rfl));intro gb138 hg w8 hbox hb;have n0_:=zz31 (zz4 (by repeat first | exact HB.out | apply zz2 | apply zz0 | apply zz1) hb);have n1_:=zz31 (hbox);have n2_:=zz31 ((by rw [hg];exact (zz5 (by repeat first | exact HB.out | apply zz2 | apply zz0 | apply zz1)):w.heap.size≤gb138));have n3_:=zz31 ((by rw [hg];exact (zz5 (by repeat first | exact HB.out | apply zz2 | apply zz0 | apply zz1)):w.heap.size≤gb138));clear HB;have HB:=n0_;have BK138:=n1_;have GW138:=n2_;have GE138:=n3_;clear n0_ n1_ n2_ n3_;clear hb hbox hg;have hcz9_0:w8.cell? ⟨gb138,0,none⟩=some (.int .i64 a0_0):=(zz9 BK138.out 0).trans rfl;have hcz9_1:w8.cell? ⟨gb138,1,none⟩=some (.slice A0_1 l0_1.length c0_1):=(zz9 BK138.out 1).trans rfl;have hfz9_0:=zz10 BK138.out 0;have hfz9_1:=zz10 BK138.out 1) | ((with_reducible refine gate_callee (f:=46) rfl ?_);refine goesL_ (some 4) rfl rfl Try.func46 (by kernel_rfl) rfl #[.agg #[.int .i64 a0_0,.slice A0_1 l0_1.length c0_1]] rfl (by (try simp only [zz26,zz27,zz28]);first | done | rfl | (simp only [zz24,zz25];rfl)) ?_;(with_reducible refine (spec_paGood.calls k a0_0 _ _ l0_1 false _ ?side1 ?side2 A2.out).mono ?_);(case side1=>repeat (first | exact (Kd.C_below HR0_1.out HB.out) | (with_reducible refine zz18 ?_ _) | (with_reducible refine zz19 ?_ _) | (with_reducible refine zz20 ?_)));(case side2=>exact HC0_1.out);rintro e w10 ⟨rfl,hb⟩;refine ⟨_,rfl,?_⟩;have n0_:=zz31 (zz11 (g:=gb138) (o:=.cells #[.int .i64 a0_0,.slice A0_1 l0_1.length c0_1] 30 (0,0)) (by (with_reducible repeat (first | refine zz6 ?_ _ | refine zz7 ?_ | refine zz8 ?_ _));exact BK138.out) hb);have n1_:=zz31 (zz4 (by repeat first | exact HB.out | apply zz2 | apply zz0 | apply zz1 | refine zz3 ?_ GE138.out) hb);clear BK138;clear HB;have BK138:=n0_;have HB:=n1_;clear n0_ n1_;(try clear hb);(try clear hb2);(try clear hk);(try clear hi)))
  go_ret
  exact ⟨by first | rfl | (simp [errW_none,errW_some] <;> rfl) | (simp [*,errW_none,errW_some] <;> rfl),by repeat first | exact HB.out | apply zz2 | apply zz0 | apply zz1 | refine zz3 ?_ GE138.out⟩

/-! ### spec_paBefore: function 62 -/
def spec_paBefore.l0:Nat→List (S70)→Int→Int→Int→List (S70)→Int→List (S70)→Option (Bool)
 | 0,_,_,_,_,_,_,_=>none
 | k+1,x8,x9,x10,x141000,x141001,x142000,x142001=>if x10 < x9 then (if 0≤x10 then (if x10 < (x8.length:Int) then (if x10 ≥ (x142001.length:Int) then (some false) else (if x10 < (x142001.length:Int) then (if (!(((rd_T70 x8 x10).f0) == ((rd_T70 x142001 x10).f0)) || (!(((rd_T70 x8 x10).f1) == ((rd_T70 x142001 x10).f1))))=true then ((spec_paLess.f ((rd_T70 x8 x10).f0) ((rd_T70 x8 x10).f1) ((rd_T70 x142001 x10).f0) ((rd_T70 x142001 x10).f1)).bind fun t146=>(some t146)) else (spec_paBefore.l0 k x8 x9 (wrap64 (x10+1)) x141000 x141001 x142000 x142001)) else (none))) else (none)) else (none)) else (some (decide ((x141001.length:Int) < (x142001.length:Int))))
def spec_paBefore.f (k:Nat) (a0_0:Int) (l0_1:List (S70)) (a1_0:Int) (l1_1:List (S70)):Option (Bool):=spec_paBefore.l0 k l0_1 (l0_1.length:Int) 0 a0_0 l0_1 a1_0 l1_1
theorem spec_paBefore.mono_l:∀ k,(∀ y0 y1 y2 y3 y4 y5 y6,LeO (spec_paBefore.l0 k y0 y1 y2 y3 y4 y5 y6) (spec_paBefore.l0 (k+1) y0 y1 y2 y3 y4 y5 y6))
 | 0=>fun _ _ _ _ _ _ _ r h=>by simp [spec_paBefore.l0] at h
 | k+1=>by
  have ih0:=spec_paBefore.mono_l k
  ·intro y0 y1 y2 y3 y4 y5 y6
   unfold spec_paBefore.l0
   repeat' first
   | (with_reducible exact ih0 _ _ _ _ _ _ _)
   | (with_reducible exact LeO.refl _)
   | (with_reducible exact LeO.none _)
   | (with_reducible refine LeO.ite ?_ ?_)
   | (with_reducible refine LeO.bind ?_ (fun _=>?_))
   | exact ih0 _ _ _ _ _ _ _
   | exact LeO.none _
   | refine LeO.ite ?_ ?_
   | refine LeO.bind ?_ (fun _=>?_)
theorem spec_paBefore.mono:∀ a0 a1 a2 a3 k,LeO (spec_paBefore.f k a0 a1 a2 a3) (spec_paBefore.f (k+1) a0 a1 a2 a3):=by
 intro a0 a1 a2 a3 k
 have ih0:=spec_paBefore.mono_l k
 unfold spec_paBefore.f
 repeat' first
   | (with_reducible exact ih0 _ _ _ _ _ _ _)
   | (with_reducible exact LeO.refl _)
   | (with_reducible exact LeO.none _)
   | (with_reducible refine LeO.ite ?_ ?_)
   | (with_reducible refine LeO.bind ?_ (fun _=>?_))
   | exact ih0 _ _ _ _ _ _ _
   | exact LeO.none _
   | refine LeO.ite ?_ ?_
   | refine LeO.bind ?_ (fun _=>?_)
def spec_paBefore.T7:Bool × List (List Nat × List Nat):=(true,[([],[]),([],[]),([1],[1]),([],[]),([2,3],[2,3]),([4],[4]),([0,5],[0,5]),([6,6,0,1,2,3,4,5,6],[6])])
def spec_paBefore.B7:List Nat:=[0,0,2,0,14,30,63,127]
theorem spec_paBefore.tab7:rtab .any (opsOf Try.f62 7)=spec_paBefore.T7:=by kernel_rfl
theorem spec_paBefore.bits7:waitsOk spec_paBefore.T7.2 spec_paBefore.B7=true:=by kernel_rfl
set_option maxHeartbeats 8000000 in
set_option maxRecDepth 100000 in
theorem spec_paBefore.calls (k:Nat) (a0_0:Int) (A0_1:Option Addr) (c0_1:Nat) (l0_1:List (S70)) (a1_0:Int) (A1_1:Option Addr) (c1_1:Nat) (l1_1:List (S70)) (r:Bool) (w:World) (hr0_1:Kd.C k70 w A0_1 l0_1.length l0_1) (hc0_1:l0_1.length≤c0_1) (hr1_1:Kd.C k70 w A1_1 l1_1.length l1_1) (hc1_1:l1_1.length≤c1_1) (h:spec_paBefore.f k a0_0 l0_1 a1_0 l1_1=some r) :
  Calls Try.prog 62 #[.agg #[.int .i64 a0_0,.slice A0_1 l0_1.length c0_1],.agg #[.int .i64 a1_0,.slice A1_1 l1_1.length c1_1]] w fun e w'=>e=.returned (.bool r)∧Below w.heap.size w w':=by
 have hu30:=Try.underlying30
 have hu70:=Try.underlying70
 have HR0_1:=zz31 hr0_1
 have HC0_1:=zz31 hc0_1
 clear hr0_1 hc0_1
 have HR1_1:=zz31 hr1_1
 have HC1_1:=zz31 hc1_1
 clear hr1_1 hc1_1
 have HB:=zz31 (Below.refl w.heap.size w)
 have H:(spec_paBefore.l0 k l0_1 (l0_1.length:Int) 0 a0_0 l0_1 a1_0 l1_1)=some r:=h
 clear h
 have H':=zz31 H
 clear H
 go_enter Try.func62,Try.ntmps62
 go_wp2_with (first | ((with_reducible refine gate_dst (N:=2) rfl ?_);refine box_event ?hg (N:=2) ?hd (cs:=#[.int .i64 a0_0,.slice A0_1 l0_1.length c0_1]) (t:=30) ?hr ?_;(case hd=>rfl);(case hg=>rfl);(case hr=>first | (go_simp;done) | (go_simp;rfl));intro gb140 hg w3 hbox hb;have n0_:=zz31 (zz4 (by repeat first | exact HB.out | apply zz2 | apply zz0 | apply zz1) hb);have n1_:=zz31 (hbox);have n2_:=zz31 ((by rw [hg];exact (zz5 (by repeat first | exact HB.out | apply zz2 | apply zz0 | apply zz1)):w.heap.size≤gb140));have n3_:=zz31 ((by rw [hg];exact (zz5 (by repeat first | exact HB.out | apply zz2 | apply zz0 | apply zz1)):w.heap.size≤gb140));clear HB;have HB:=n0_;have BK140:=n1_;have GW140:=n2_;have GE140:=n3_;clear n0_ n1_ n2_ n3_;clear hb hbox hg) | ((with_reducible refine gate_dst (N:=3) rfl ?_);refine box_event ?hg (N:=3) ?hd (cs:=#[.int .i64 a1_0,.slice A1_1 l1_1.length c1_1]) (t:=30) ?hr ?_;(case hd=>rfl);(case hg=>rfl);(case hr=>first | (go_simp;done) | (go_simp;rfl));intro gb141 hg w4 hbox hb;have n0_:=zz31 (zz11 (g:=gb140) (o:=.cells #[.int .i64 a0_0,.slice A0_1 l0_1.length c0_1] 30 (0,0)) (by (with_reducible repeat (first | refine zz6 ?_ _ | refine zz7 ?_ | refine zz8 ?_ _));exact BK140.out) hb);have n1_:=zz31 (zz4 (by repeat first | exact HB.out | apply zz2 | apply zz0 | apply zz1 | refine zz3 ?_ GE140.out) hb);have n2_:=zz31 (hbox);have n3_:=zz31 ((by rw [hg];exact (zz5 (by repeat first | exact HB.out | apply zz2 | apply zz0 | apply zz1 | refine zz3 ?_ GE140.out)):w.heap.size≤gb141));have n4_:=zz31 ((by rw [hg];exact (zz5 (by repeat first | exact HB.out | apply zz2 | apply zz0 | apply zz1 | refine zz3 ?_ GE140.out)):w.heap.size≤gb141));have n5_:=zz31 ((by rw [hg];exact Nat.ne_of_lt (blk_lt (g:=gb140) (o:=.cells #[.int .i64 a0_0,.slice A0_1 l0_1.length c0_1] 30 (0,0)) (by (with_reducible repeat (first | refine zz6 ?_ _ | refine zz7 ?_ | refine zz8 ?_ _));exact BK140.out)):gb140 ≠ gb141));have n6_:=zz31 ((by rw [hg];exact Nat.ne_of_gt (blk_lt (g:=gb140) (o:=.cells #[.int .i64 a0_0,.slice A0_1 l0_1.length c0_1] 30 (0,0)) (by (with_reducible repeat (first | refine zz6 ?_ _ | refine zz7 ?_ | refine zz8 ?_ _));exact BK140.out)):gb141 ≠ gb140));clear BK140;clear HB;have BK140:=n0_;have HB:=n1_;have BK141:=n2_;have GW141:=n3_;have GE141:=n4_;have NB140_141:=n5_;have NB141_140:=n6_;clear n0_ n1_ n2_ n3_ n4_ n5_ n6_;clear hb hbox hg;have hnb5:=NB140_141.out;have hnc5:=NB141_140.out;have hcz6_0:w4.cell? ⟨gb140,0,none⟩=some (.int .i64 a0_0):=(zz9 BK140.out 0).trans rfl;have hcz6_1:w4.cell? ⟨gb140,1,none⟩=some (.slice A0_1 l0_1.length c0_1):=(zz9 BK140.out 1).trans rfl;have hfz6_0:=zz10 BK140.out 0;have hfz6_1:=zz10 BK140.out 1))
 go_loopg [10] k (fun kq v10 w'=>∃ (x10_1:Int),v10=.int .i64 x10_1∧Aside0 (spec_paBefore.l0 kq l0_1 (l0_1.length:Int) x10_1 a0_0 l0_1 a1_0 l1_1=some r)∧Aside0 (kq≤k)∧Aside0 (w'.heap[gb140]?=some (.cells #[.int .i64 a0_0,(.slice A0_1 l0_1.length c0_1)] 30 (0,0)))∧Aside0 (w'.heap[gb141]?=some (.cells #[.int .i64 a1_0,(.slice A1_1 l1_1.length c1_1)] 30 (0,0)))∧Aside0 (Below w.heap.size w w'))
 case atStart=>exact ⟨(0),(by first | rfl | (simp;done) | (simp [*];done)),H',⟨Nat.le_refl _⟩,⟨by (with_reducible repeat (first | refine zz6 ?_ _ | refine zz7 ?_ | refine zz8 ?_ _));exact BK140.out⟩,⟨by (with_reducible repeat (first | refine zz6 ?_ _ | refine zz7 ?_ | refine zz8 ?_ _));exact BK141.out⟩,⟨by repeat first | exact HB.out | apply zz2 | apply zz0 | apply zz1 | refine zz3 ?_ GE140.out | refine zz3 ?_ GE141.out⟩⟩
 case round =>
  clear H'
  try clear c1
  try clear p2
  try clear c5
  try clear c6
  try clear hcz6_0
  try clear hcz6_1
  try clear hfz6_0
  try clear hfz6_1
  obtain ⟨x10_1,rfl,HA,HK1,BK140,BK141,HB⟩:=hrel
  cases gk with
  | zero=>exact absurd HA.out (by simp [spec_paBefore.l0])
  | succ k1 =>
   have H:=HA.out
   clear HA
   simp only [spec_paBefore.l0] at H
   by_cases c7:x10_1 < (l0_1.length:Int)
   ·rw [if_pos c7] at H
    have c7b0:decide (x10_1 < (l0_1.length:Int))=true:=decide_eq_true c7
    clear c7
    by_cases c8:0≤x10_1
    ·rw [if_pos c8] at H
     have c8b0:decide (0≤x10_1)=true:=decide_eq_true c8
     clear c8
     by_cases c9:x10_1 < (l0_1.length:Int)
     ·rw [if_pos c9] at H
      have c9b0:decide (x10_1 < (l0_1.length:Int))=true:=decide_eq_true c9
      clear c9
      by_cases c10:x10_1 ≥ (l1_1.length:Int)
      ·rw [if_pos c10] at H
       have c10b0:decide ((l1_1.length:Int)≤x10_1)=true:=decide_eq_true c10
       clear c10
       obtain rfl:=Option.some.inj H
       have p142:0≤(x10_1:Int):=zz29 (by first | (with_reducible assumption) | assumption)
       have q142:x10_1 < (l0_1.length:Int):=zz29 (by first | (with_reducible assumption) | assumption)
       obtain ⟨ad142,e142,hx142_0,hx142_1⟩:=at_T70 HR0_1.out x10_1 p142 q142
       cases e142
       try replace hx142_0:=(HB.out.cell (World.block_lt_of_cell? w _ hx142_0)).trans hx142_0
       try replace hx142_1:=(HB.out.cell (World.block_lt_of_cell? w _ hx142_1)).trans hx142_1
       replace p142:=eq_true p142
       replace q142:=eq_true q142
       go_wp2_with (first | ((with_reducible refine gate_dst (N:=6) rfl ?_);refine box_event ?hg (N:=6) ?hd (cs:=#[.int .i64 0,.int .i64 0]) (t:=70) ?hr ?_;(case hd=>rfl);(case hg=>rfl);(case hr=>first | (go_simp;done) | (go_simp;rfl));intro gb143 hg w11 hbox hb;have n0_:=zz31 (zz11 (g:=gb140) (o:=.cells #[.int .i64 a0_0,.slice (some ad142) l0_1.length c0_1] 30 (0,0)) (by (with_reducible repeat (first | refine zz6 ?_ _ | refine zz7 ?_ | refine zz8 ?_ _));exact BK140.out) hb);have n1_:=zz31 (zz11 (g:=gb141) (o:=.cells #[.int .i64 a1_0,.slice A1_1 l1_1.length c1_1] 30 (0,0)) (by (with_reducible repeat (first | refine zz6 ?_ _ | refine zz7 ?_ | refine zz8 ?_ _));exact BK141.out) hb);have n2_:=zz31 (zz4 (by repeat first | exact HB.out | apply zz2 | apply zz0 | apply zz1 | refine zz3 ?_ GE140.out | refine zz3 ?_ GE141.out) hb);have n3_:=zz31 (hbox);have n4_:=zz31 ((by rw [hg];exact (zz5 (by repeat first | exact HB.out | apply zz2 | apply zz0 | apply zz1 | refine zz3 ?_ GE140.out | refine zz3 ?_ GE141.out)):w.heap.size≤gb143));have n5_:=zz31 ((by rw [hg];exact (zz5 (by repeat first | exact HB.out | apply zz2 | apply zz0 | apply zz1 | refine zz3 ?_ GE140.out | refine zz3 ?_ GE141.out)):w.heap.size≤gb143));have n6_:=zz31 ((by rw [hg];exact Nat.ne_of_lt (blk_lt (g:=gb140) (o:=.cells #[.int .i64 a0_0,.slice (some ad142) l0_1.length c0_1] 30 (0,0)) (by (with_reducible repeat (first | refine zz6 ?_ _ | refine zz7 ?_ | refine zz8 ?_ _));exact BK140.out)):gb140 ≠ gb143));have n7_:=zz31 ((by rw [hg];exact Nat.ne_of_gt (blk_lt (g:=gb140) (o:=.cells #[.int .i64 a0_0,.slice (some ad142) l0_1.length c0_1] 30 (0,0)) (by (with_reducible repeat (first | refine zz6 ?_ _ | refine zz7 ?_ | refine zz8 ?_ _));exact BK140.out)):gb143 ≠ gb140));have n8_:=zz31 ((by rw [hg];exact Nat.ne_of_lt (blk_lt (g:=gb141) (o:=.cells #[.int .i64 a1_0,.slice A1_1 l1_1.length c1_1] 30 (0,0)) (by (with_reducible repeat (first | refine zz6 ?_ _ | refine zz7 ?_ | refine zz8 ?_ _));exact BK141.out)):gb141 ≠ gb143));have n9_:=zz31 ((by rw [hg];exact Nat.ne_of_gt (blk_lt (g:=gb141) (o:=.cells #[.int .i64 a1_0,.slice A1_1 l1_1.length c1_1] 30 (0,0)) (by (with_reducible repeat (first | refine zz6 ?_ _ | refine zz7 ?_ | refine zz8 ?_ _));exact BK141.out)):gb143 ≠ gb141));clear BK140;clear BK141;clear HB;have BK140:=n0_;have BK141:=n1_;have HB:=n2_;have BK143:=n3_;have GW143:=n4_;have GE143:=n5_;have NB140_143:=n6_;have NB143_140:=n7_;have NB141_143:=n8_;have NB143_141:=n9_;clear n0_ n1_ n2_ n3_ n4_ n5_ n6_ n7_ n8_ n9_;clear hb hbox hg;have hnb12:=NB143_140.out;have hnc12:=NB140_143.out;have hnb13:=NB143_141.out;have hnc13:=NB141_143.out;have hcz14_0:w11.cell? ⟨gb143,0,none⟩=some (.int .i64 0):=(zz9 BK143.out 0).trans rfl;have hcz14_1:w11.cell? ⟨gb143,1,none⟩=some (.int .i64 0):=(zz9 BK143.out 1).trans rfl;have hfz14_0:=zz10 BK143.out 0;have hfz14_1:=zz10 BK143.out 1;have hnb15:=NB141_140.out;have hnc15:=NB140_141.out;have hcz16_0:w11.cell? ⟨gb141,0,none⟩=some (.int .i64 a1_0):=(zz9 BK141.out 0).trans rfl;have hcz16_1:w11.cell? ⟨gb141,1,none⟩=some (.slice A1_1 l1_1.length c1_1):=(zz9 BK141.out 1).trans rfl;have hfz16_0:=zz10 BK141.out 0;have hfz16_1:=zz10 BK141.out 1))
       go_ret
       exact ⟨by first | rfl | (simp [errW_none,errW_some] <;> rfl) | (simp [*,errW_none,errW_some] <;> rfl),by repeat first | exact HB.out | apply zz2 | apply zz0 | apply zz1 | refine zz3 ?_ GE140.out | refine zz3 ?_ GE141.out | refine zz3 ?_ GE143.out⟩
      ·rw [if_neg c10] at H
       have c10b0:decide ((l1_1.length:Int)≤x10_1)=false:=decide_eq_false c10
       clear c10
       by_cases c17:x10_1 < (l1_1.length:Int)
       ·rw [if_pos c17] at H
        have c17b0:decide (x10_1 < (l1_1.length:Int))=true:=decide_eq_true c17
        clear c17
        by_cases c18:(!(((rd_T70 l0_1 x10_1).f0) == ((rd_T70 l1_1 x10_1).f0)) || (!(((rd_T70 l0_1 x10_1).f1) == ((rd_T70 l1_1 x10_1).f1))))=true
        ·rw [if_pos c18] at H
         have c18b0:(!(((rd_T70 l0_1 x10_1).f0) == ((rd_T70 l1_1 x10_1).f0)) || (!(((rd_T70 l0_1 x10_1).f1) == ((rd_T70 l1_1 x10_1).f1))))=true:=c18
         clear c18
         replace H:=zz30.mp H
         obtain ⟨t146,A190,H⟩:=H
         replace H:(some t146)=some r:=H
         have A19:=zz31 A190
         clear A190
         obtain rfl:=Option.some.inj H
         have p142:0≤(x10_1:Int):=zz29 (by first | (with_reducible assumption) | assumption)
         have q142:x10_1 < (l0_1.length:Int):=zz29 (by first | (with_reducible assumption) | assumption)
         obtain ⟨ad142,e142,hx142_0,hx142_1⟩:=at_T70 HR0_1.out x10_1 p142 q142
         cases e142
         try replace hx142_0:=(HB.out.cell (World.block_lt_of_cell? w _ hx142_0)).trans hx142_0
         try replace hx142_1:=(HB.out.cell (World.block_lt_of_cell? w _ hx142_1)).trans hx142_1
         replace p142:=eq_true p142
         replace q142:=eq_true q142
         try go_wp2_with (first | ((with_reducible refine gate_dst (N:=6) rfl ?_);refine box_event ?hg (N:=6) ?hd (cs:=#[.int .i64 0,.int .i64 0]) (t:=70) ?hr ?_;(case hd=>rfl);(case hg=>rfl);(case hr=>first | (go_simp;done) | (go_simp;rfl));intro gb143 hg w20 hbox hb;have n0_:=zz31 (zz11 (g:=gb140) (o:=.cells #[.int .i64 a0_0,.slice (some ad142) l0_1.length c0_1] 30 (0,0)) (by (with_reducible repeat (first | refine zz6 ?_ _ | refine zz7 ?_ | refine zz8 ?_ _));exact BK140.out) hb);have n1_:=zz31 (zz11 (g:=gb141) (o:=.cells #[.int .i64 a1_0,.slice A1_1 l1_1.length c1_1] 30 (0,0)) (by (with_reducible repeat (first | refine zz6 ?_ _ | refine zz7 ?_ | refine zz8 ?_ _));exact BK141.out) hb);have n2_:=zz31 (zz4 (by repeat first | exact HB.out | apply zz2 | apply zz0 | apply zz1 | refine zz3 ?_ GE140.out | refine zz3 ?_ GE141.out) hb);have n3_:=zz31 (hbox);have n4_:=zz31 ((by rw [hg];exact (zz5 (by repeat first | exact HB.out | apply zz2 | apply zz0 | apply zz1 | refine zz3 ?_ GE140.out | refine zz3 ?_ GE141.out)):w.heap.size≤gb143));have n5_:=zz31 ((by rw [hg];exact (zz5 (by repeat first | exact HB.out | apply zz2 | apply zz0 | apply zz1 | refine zz3 ?_ GE140.out | refine zz3 ?_ GE141.out)):w.heap.size≤gb143));have n6_:=zz31 ((by rw [hg];exact Nat.ne_of_lt (blk_lt (g:=gb140) (o:=.cells #[.int .i64 a0_0,.slice (some ad142) l0_1.length c0_1] 30 (0,0)) (by (with_reducible repeat (first | refine zz6 ?_ _ | refine zz7 ?_ | refine zz8 ?_ _));exact BK140.out)):gb140 ≠ gb143));have n7_:=zz31 ((by rw [hg];exact Nat.ne_of_gt (blk_lt (g:=gb140) (o:=.cells #[.int .i64 a0_0,.slice (some ad142) l0_1.length c0_1] 30 (0,0)) (by (with_reducible repeat (first | refine zz6 ?_ _ | refine zz7 ?_ | refine zz8 ?_ _));exact BK140.out)):gb143 ≠ gb140));have n8_:=zz31 ((by rw [hg];exact Nat.ne_of_lt (blk_lt (g:=gb141) (o:=.cells #[.int .i64 a1_0,.slice A1_1 l1_1.length c1_1] 30 (0,0)) (by (with_reducible repeat (first | refine zz6 ?_ _ | refine zz7 ?_ | refine zz8 ?_ _));exact BK141.out)):gb141 ≠ gb143));have n9_:=zz31 ((by rw [hg];exact Nat.ne_of_gt (blk_lt (g:=gb141) (o:=.cells #[.int .i64 a1_0,.slice A1_1 l1_1.length c1_1] 30 (0,0)) (by (with_reducible repeat (first | refine zz6 ?_ _ | refine zz7 ?_ | refine zz8 ?_ _));exact BK141.out)):gb143 ≠ gb141));clear BK140;clear BK141;clear HB;have BK140:=n0_;have BK141:=n1_;have HB:=n2_;have BK143:=n3_;have GW143:=n4_;have GE143:=n5_;have NB140_143:=n6_;have NB143_140:=n7_;have NB141_143:=n8_;have NB143_141:=n9_;clear n0_ n1_ n2_ n3_ n4_ n5_ n6_ n7_ n8_ n9_;clear hb hbox hg;have hnb21:=NB143_140.out;have hnc21:=NB140_143.out;have hnb22:=NB143_141.out;have hnc22:=NB141_143.out;have hcz23_0:w20.cell? ⟨gb143,0,none⟩=some (.int .i64 0):=(zz9 BK143.out 0).trans rfl;have hcz23_1:w20.cell? ⟨gb143,1,none⟩=some (.int .i64 0):=(zz9 BK143.out 1).trans rfl;have hfz23_0:=zz10 BK143.out 0;have hfz23_1:=zz10 BK143.out 1;have hnb24:=NB141_140.out;have hnc24:=NB140_141.out;have hcz25_0:w20.cell? ⟨gb141,0,none⟩=some (.int .i64 a1_0):=(zz9 BK141.out 0).trans rfl;have hcz25_1:w20.cell? ⟨gb141,1,none⟩=some (.slice A1_1 l1_1.length c1_1):=(zz9 BK141.out 1).trans rfl;have hfz25_0:=zz10 BK141.out 0;have hfz25_1:=zz10 BK141.out 1))
         have n0_:Aside0 (((w20.setCell ⟨gb143,0,none⟩ (.int .i64 ((rd_T70 l0_1 x10_1).f0))).setCell ⟨gb143,1,none⟩ (.int .i64 ((rd_T70 l0_1 x10_1).f1))).heap[gb140]?=some (.cells #[.int .i64 a0_0,.slice (some ad142) l0_1.length c0_1] 30 (0,0))):=⟨by (with_reducible repeat (first | refine zz6 ?_ _ | refine zz7 ?_ | refine zz8 ?_ _));refine blk_far ?_ NB140_143.out _;(with_reducible repeat (first | refine zz6 ?_ _ | refine zz7 ?_ | refine zz8 ?_ _));refine blk_far ?_ NB140_143.out _;(with_reducible repeat (first | refine zz6 ?_ _ | refine zz7 ?_ | refine zz8 ?_ _));exact BK140.out⟩
         have n1_:Aside0 (((w20.setCell ⟨gb143,0,none⟩ (.int .i64 ((rd_T70 l0_1 x10_1).f0))).setCell ⟨gb143,1,none⟩ (.int .i64 ((rd_T70 l0_1 x10_1).f1))).heap[gb141]?=some (.cells #[.int .i64 a1_0,.slice A1_1 l1_1.length c1_1] 30 (0,0))):=⟨by (with_reducible repeat (first | refine zz6 ?_ _ | refine zz7 ?_ | refine zz8 ?_ _));refine blk_far ?_ NB141_143.out _;(with_reducible repeat (first | refine zz6 ?_ _ | refine zz7 ?_ | refine zz8 ?_ _));refine blk_far ?_ NB141_143.out _;(with_reducible repeat (first | refine zz6 ?_ _ | refine zz7 ?_ | refine zz8 ?_ _));exact BK141.out⟩
         have n2_:Aside0 (((w20.setCell ⟨gb143,0,none⟩ (.int .i64 ((rd_T70 l0_1 x10_1).f0))).setCell ⟨gb143,1,none⟩ (.int .i64 ((rd_T70 l0_1 x10_1).f1))).heap[gb143]?=some (.cells #[.int .i64 ((rd_T70 l0_1 x10_1).f0),.int .i64 ((rd_T70 l0_1 x10_1).f1)] 70 (0,0))):=⟨by (with_reducible repeat (first | refine zz6 ?_ _ | refine zz7 ?_ | refine zz8 ?_ _));refine blk_put (cs:=#[.int .i64 ((rd_T70 l0_1 x10_1).f0),.int .i64 0]) ?_ 1 _ rfl;(with_reducible repeat (first | refine zz6 ?_ _ | refine zz7 ?_ | refine zz8 ?_ _));refine blk_put (cs:=#[.int .i64 0,.int .i64 0]) ?_ 0 _ rfl;(with_reducible repeat (first | refine zz6 ?_ _ | refine zz7 ?_ | refine zz8 ?_ _));exact BK143.out⟩
         have n3_:Aside0 (Below w.heap.size w ((w20.setCell ⟨gb143,0,none⟩ (.int .i64 ((rd_T70 l0_1 x10_1).f0))).setCell ⟨gb143,1,none⟩ (.int .i64 ((rd_T70 l0_1 x10_1).f1)))):=⟨by repeat first | exact HB.out | apply zz2 | apply zz0 | apply zz1 | refine zz3 ?_ GE140.out | refine zz3 ?_ GE141.out | refine zz3 ?_ GE143.out⟩
         (try clear BK140)
         (try clear BK141)
         (try clear BK143)
         (try clear HB)
         generalize ((w20.setCell ⟨gb143,0,none⟩ (.int .i64 ((rd_T70 l0_1 x10_1).f0))).setCell ⟨gb143,1,none⟩ (.int .i64 ((rd_T70 l0_1 x10_1).f1)))=w26 at n0_ n1_ n2_ n3_ ⊢
         have BK140:=n0_
         have BK141:=n1_
         have BK143:=n2_
         have HB:=n3_
         clear n0_ n1_ n2_ n3_
         have n0_:=zz31 (zz7 BK140.out)
         have n1_:=zz31 (zz7 BK141.out)
         have n2_:=zz31 (zz7 BK143.out)
         have n3_:=zz31 (zz1 HB.out)
         clear BK140
         clear BK141
         clear BK143
         clear HB
         have BK140:=n0_
         have BK141:=n1_
         have BK143:=n2_
         have HB:=n3_
         clear n0_ n1_ n2_ n3_
         have p144:0≤(x10_1:Int):=zz29 (by first | (with_reducible assumption) | assumption)
         have q144:x10_1 < (l1_1.length:Int):=zz29 (by first | (with_reducible assumption) | assumption)
         obtain ⟨ad144,e144,hx144_0,hx144_1⟩:=at_T70 HR1_1.out x10_1 p144 q144
         have hw144_1:=hx144_1
         have hw144_0:=hx144_0
         cases e144
         try replace hx144_0:=(HB.out.cell (World.block_lt_of_cell? w _ hx144_0)).trans hx144_0
         try replace hx144_1:=(HB.out.cell (World.block_lt_of_cell? w _ hx144_1)).trans hx144_1
         replace p144:=eq_true p144
         replace q144:=eq_true q144
         refine start_ (n:=7) (S:=fun w'=>w'.cell? ⟨gb143,0,none⟩=some (.int .i64 ((rd_T70 l0_1 x10_1).f0))∧w'.cell? ⟨gb143,1,none⟩=some (.int .i64 ((rd_T70 l0_1 x10_1).f1))∧w'.cell? ⟨gb141,0,none⟩=some (.int .i64 a1_0)∧w'.cell? ⟨gb141,1,none⟩=some (.slice (some ad144) l1_1.length c1_1)∧w'.cell? (ad144.add ((x10_1).toNat * 2))=some (.int .i64 ((rd_T70 l1_1 x10_1).f0))∧w'.cell? ⟨(ad144.add ((x10_1).toNat * 2)).block,(ad144.add ((x10_1).toNat * 2)).off+1,none⟩=some (.int .i64 ((rd_T70 l1_1 x10_1).f1))) (ds:=[]) #[F,F,F,F,F,F,F] (by kernel_rfl) rfl rfl ⟨(zz9 BK143.out 0).trans rfl,(zz9 BK143.out 1).trans rfl,(zz9 BK141.out 0).trans rfl,(zz9 BK141.out 1).trans rfl,((HB.out.cell (World.block_lt_of_cell? w _ hw144_0)).trans hw144_0),((HB.out.cell (World.block_lt_of_cell? w _ hw144_1)).trans hw144_1)⟩ (fun hHeld=>?_)
         generalize w26.drew=w27 at BK140 BK141 BK143 HB hx144_0 hx144_1 hHeld ⊢
         refine pure_ (i:=1) (N:=some 21) (v:=?_) (a':=?_) #[F,T,F,F,F,F,F] rfl rfl (by kernel_rfl) (fun _ _ _ h=>h) (Or.inl ⟨by rfl,?_⟩) ?_ ?_
         rotate_left
         ·intro w'
          go_simp
          with_reducible rfl
         rotate_left
         ·simp only [Act.put,zz21,zz22,zz23,i64_w,i32_w]
          rfl
         refine pure_ (i:=3) (N:=some 23) (v:=?_) (a':=?_) #[F,T,F,T,F,F,F] rfl rfl (by kernel_rfl) (fun _ _ _ h=>h) (Or.inl ⟨by rfl,?_⟩) ?_ ?_
         rotate_left
         ·intro w'
          go_simp
          with_reducible rfl
         rotate_left
         ·simp only [Act.put,zz21,zz22,zz23,i64_w,i32_w]
          rfl
         refine take_ (i:=0) (N:=some 20) (v:=?_) (a':=?_) #[T,T,F,T,F,F,F] rfl rfl (by kernel_rfl) (fun _ _ _ h=>h) (Or.inl ⟨by rfl,?_⟩) hHeld ?_ ?_
         rotate_left
         ·rintro w' ⟨s0,s1,s2,s3,s4,s5⟩
          go_simp
          with_reducible rfl
         rotate_left
         ·simp only [Act.put,zz21,zz22,zz23,i64_w,i32_w]
          rfl
         refine take_ (i:=2) (N:=some 22) (v:=?_) (a':=?_) #[T,T,T,T,F,F,F] rfl rfl (by kernel_rfl) (fun _ _ _ h=>h) (Or.inl ⟨by rfl,?_⟩) hHeld ?_ ?_
         rotate_left
         ·rintro w' ⟨s0,s1,s2,s3,s4,s5⟩
          go_simp
          with_reducible rfl
         rotate_left
         ·simp only [Act.put,zz21,zz22,zz23,i64_w,i32_w]
          rfl
         refine pure_ (i:=4) (N:=some 24) (v:=?_) (a':=?_) #[T,T,T,T,T,F,F] rfl rfl (by kernel_rfl) (fun _ _ _ h=>h) (Or.inl ⟨by rfl,?_⟩) ?_ ?_
         rotate_left
         ·intro w'
          go_simp
          with_reducible rfl
         rotate_left
         ·simp only [Act.put,zz21,zz22,zz23,i64_w,i32_w]
          rfl
         refine take_ (i:=5) (N:=some 25) (v:=?_) (a':=?_) #[T,T,T,T,T,T,F] rfl rfl (by kernel_rfl) (fun _ _ _ h=>h) (Or.inl ⟨by rfl,?_⟩) hHeld ?_ ?_
         rotate_left
         ·rintro w' ⟨s0,s1,s2,s3,s4,s5⟩
          go_simp
          with_reducible rfl
         rotate_left
         ·simp only [Act.put,zz21,zz22,zz23,i64_w,i32_w]
          rfl
         refine pure_ (i:=6) (N:=some 26) (v:=?_) (a':=?_) #[T,T,T,T,T,T,T] rfl rfl (by kernel_rfl) (fun _ _ _ h=>h) (Or.inl ⟨by rfl,?_⟩) ?_ ?_
         rotate_left
         ·intro w'
          go_simp
          with_reducible rfl
         rotate_left
         ·simp only [Act.put,zz21,zz22,zz23,i64_w,i32_w]
          rfl
         refine done_ (by kernel_rfl) ?_
         try go_wp2
         have n0_:=zz31 (zz7 BK140.out)
         have n1_:=zz31 (zz7 BK141.out)
         have n2_:=zz31 (zz7 BK143.out)
         have n3_:=zz31 (zz1 HB.out)
         clear BK140
         clear BK141
         clear BK143
         clear HB
         have BK140:=n0_
         have BK141:=n1_
         have BK143:=n2_
         have HB:=n3_
         clear n0_ n1_ n2_ n3_
         have p145:0≤(x10_1:Int):=zz29 (by first | (with_reducible assumption) | assumption)
         have q145:x10_1 < (l1_1.length:Int):=zz29 (by first | (with_reducible assumption) | assumption)
         obtain ⟨ad145,e145,hx145_0,hx145_1⟩:=at_T70 HR1_1.out x10_1 p145 q145
         have hw145_1:=hx145_1
         have hw145_0:=hx145_0
         obtain rfl:ad144=ad145:=(by injection e145)
         try replace hx145_0:=(HB.out.cell (World.block_lt_of_cell? w _ hx145_0)).trans hx145_0
         try replace hx145_1:=(HB.out.cell (World.block_lt_of_cell? w _ hx145_1)).trans hx145_1
         replace p145:=eq_true p145
         replace q145:=eq_true q145
         refine start_ (n:=8) (S:=fun w'=>w'.cell? ⟨gb143,0,none⟩=some (.int .i64 ((rd_T70 l0_1 x10_1).f0))∧w'.cell? ⟨gb143,1,none⟩=some (.int .i64 ((rd_T70 l0_1 x10_1).f1))∧w'.cell? ⟨gb141,0,none⟩=some (.int .i64 a1_0)∧w'.cell? ⟨gb141,1,none⟩=some (.slice (some ad144) l1_1.length c1_1)∧w'.cell? (ad144.add ((x10_1).toNat * 2))=some (.int .i64 ((rd_T70 l1_1 x10_1).f0))∧w'.cell? ⟨(ad144.add ((x10_1).toNat * 2)).block,(ad144.add ((x10_1).toNat * 2)).off+1,none⟩=some (.int .i64 ((rd_T70 l1_1 x10_1).f1))) (ds:=[]) #[F,F,F,F,F,F,F,F] (by kernel_rfl) rfl rfl ⟨(zz9 BK143.out 0).trans rfl,(zz9 BK143.out 1).trans rfl,(zz9 BK141.out 0).trans rfl,(zz9 BK141.out 1).trans rfl,((HB.out.cell (World.block_lt_of_cell? w _ hw145_0)).trans hw145_0),((HB.out.cell (World.block_lt_of_cell? w _ hw145_1)).trans hw145_1)⟩ (fun hHeld=>?_);refine with_tabW spec_paBefore.tab7 spec_paBefore.bits7 (fun HT_ HW_=>?_)
         generalize w27.drew=w28 at BK140 BK141 BK143 HB hx145_0 hx145_1 hHeld ⊢
         refine pure_ (i:=1) (N:=some 28) (v:=?_) (a':=?_) #[F,T,F,F,F,F,F,F] rfl rfl (any_of HT_.out (by kernel_rfl)) (fun _ _ _ h=>h) (Or.inl ⟨by rfl,?_⟩) ?_ ?_
         rotate_left
         ·intro w'
          go_simp
          with_reducible rfl
         rotate_left
         ·simp only [Act.put,zz21,zz22,zz23,i64_w,i32_w]
          rfl
         refine pure_ (i:=3) (N:=some 30) (v:=?_) (a':=?_) #[F,T,F,T,F,F,F,F] rfl rfl (any_of HT_.out (by kernel_rfl)) (fun _ _ _ h=>h) (Or.inl ⟨by rfl,?_⟩) ?_ ?_
         rotate_left
         ·intro w'
          go_simp
          with_reducible rfl
         rotate_left
         ·simp only [Act.put,zz21,zz22,zz23,i64_w,i32_w]
          rfl
         refine take_ (i:=0) (N:=some 27) (v:=?_) (a':=?_) #[T,T,F,T,F,F,F,F] rfl rfl (take_ofW HT_.out HW_.out (by kernel_rfl)) (fun _ _ _ h=>h) (Or.inl ⟨by rfl,?_⟩) hHeld ?_ ?_
         rotate_left
         ·rintro w' ⟨s0,s1,s2,s3,s4,s5⟩
          go_simp
          with_reducible rfl
         rotate_left
         ·simp only [Act.put,zz21,zz22,zz23,i64_w,i32_w]
          rfl
         refine take_ (i:=2) (N:=some 29) (v:=?_) (a':=?_) #[T,T,T,T,F,F,F,F] rfl rfl (take_ofW HT_.out HW_.out (by kernel_rfl)) (fun _ _ _ h=>h) (Or.inl ⟨by rfl,?_⟩) hHeld ?_ ?_
         rotate_left
         ·rintro w' ⟨s0,s1,s2,s3,s4,s5⟩
          go_simp
          with_reducible rfl
         rotate_left
         ·simp only [Act.put,zz21,zz22,zz23,i64_w,i32_w]
          rfl
         refine pure_ (i:=4) (N:=some 31) (v:=?_) (a':=?_) #[T,T,T,T,T,F,F,F] rfl rfl (any_of HT_.out (by kernel_rfl)) (fun _ _ _ h=>h) (Or.inl ⟨by rfl,?_⟩) ?_ ?_
         rotate_left
         ·intro w'
          go_simp
          with_reducible rfl
         rotate_left
         ·simp only [Act.put,zz21,zz22,zz23,i64_w,i32_w]
          rfl
         refine take_ (i:=5) (N:=some 32) (v:=?_) (a':=?_) #[T,T,T,T,T,T,F,F] rfl rfl (take_ofW HT_.out HW_.out (by kernel_rfl)) (fun _ _ _ h=>h) (Or.inl ⟨by rfl,?_⟩) hHeld ?_ ?_
         rotate_left
         ·rintro w' ⟨s0,s1,s2,s3,s4,s5⟩
          go_simp
          with_reducible rfl
         rotate_left
         ·simp only [Act.put,zz21,zz22,zz23,i64_w,i32_w]
          rfl
         refine one_ (i:=6) (N:=some 33) #[T,T,T,T,T,T,T,F] rfl rfl (one_of HT_.out (by kernel_rfl)) (by decide) (fun K hK=>?_)
         refine goes_ Try.func75 (by kernel_rfl) rfl #[.agg #[.int .i64 ((rd_T70 l0_1 x10_1).f0),.int .i64 ((rd_T70 l0_1 x10_1).f1)],.agg #[.int .i64 ((rd_T70 l1_1 x10_1).f0),.int .i64 ((rd_T70 l1_1 x10_1).f1)]] (by rfl) rfl rfl (by (try simp only [zz26,zz27,zz28]);first | done | rfl | (simp only [zz24,zz25];rfl)) ?_
         with_reducible refine (spec_paLess.calls ((rd_T70 l0_1 x10_1).f0) ((rd_T70 l0_1 x10_1).f1) ((rd_T70 l1_1 x10_1).f0) ((rd_T70 l1_1 x10_1).f1) t146 _ A19.out).mono ?_
         rintro e w29 ⟨rfl,hb⟩
         refine ⟨_,rfl,?_⟩
         have n0_:=zz31 (zz11 (g:=gb140) (o:=.cells #[.int .i64 a0_0,.slice (some ad142) l0_1.length c0_1] 30 (0,0)) (by (with_reducible repeat (first | refine zz6 ?_ _ | refine zz7 ?_ | refine zz8 ?_ _));exact BK140.out) hb)
         have n1_:=zz31 (zz11 (g:=gb141) (o:=.cells #[.int .i64 a1_0,.slice (some ad144) l1_1.length c1_1] 30 (0,0)) (by (with_reducible repeat (first | refine zz6 ?_ _ | refine zz7 ?_ | refine zz8 ?_ _));exact BK141.out) hb)
         have n2_:=zz31 (zz11 (g:=gb143) (o:=.cells #[.int .i64 ((rd_T70 l0_1 x10_1).f0),.int .i64 ((rd_T70 l0_1 x10_1).f1)] 70 (0,0)) (by (with_reducible repeat (first | refine zz6 ?_ _ | refine zz7 ?_ | refine zz8 ?_ _));exact BK143.out) hb)
         have n3_:=zz31 (zz4 (by repeat first | exact HB.out | apply zz2 | apply zz0 | apply zz1 | refine zz3 ?_ GE140.out | refine zz3 ?_ GE141.out | refine zz3 ?_ GE143.out) hb)
         clear BK140
         clear BK141
         clear BK143
         clear HB
         have BK140:=n0_
         have BK141:=n1_
         have BK143:=n2_
         have HB:=n3_
         clear n0_ n1_ n2_ n3_
         (try clear hb)
         (try clear hb2)
         (try clear hk)
         (try clear hi)
         refine hK.out _ _ ⟨(zz9 BK143.out 0).trans rfl,(zz9 BK143.out 1).trans rfl,(zz9 BK141.out 0).trans rfl,(zz9 BK141.out 1).trans rfl,((HB.out.cell (World.block_lt_of_cell? w _ hw145_0)).trans hw145_0),((HB.out.cell (World.block_lt_of_cell? w _ hw145_1)).trans hw145_1)⟩ (fun hHeld=>?_)
         clear hK K
         refine norm_ (a':=?_) ?_ ?_
         rotate_left
         ·show Act.put _ (some 33) _=_
          simp only [Act.put,zz21,zz22,zz23,i64_w,i32_w]
          rfl
         refine pure_ (i:=7) (N:=some 4) (v:=?_) (a':=?_) #[T,T,T,T,T,T,T,T] rfl rfl (any_of HT_.out (by kernel_rfl)) (fun _ _ _ h=>h) (Or.inl ⟨by rfl,?_⟩) ?_ ?_
         rotate_left
         ·intro w'
          go_simp
          with_reducible rfl
         rotate_left
         ·simp only [Act.put,zz21,zz22,zz23,i64_w,i32_w]
          rfl
         refine done_ (done_of HT_.out (by kernel_rfl)) ?_
         try go_wp2
         go_ret
         exact ⟨by first | rfl | (simp [errW_none,errW_some] <;> rfl) | (simp [*,errW_none,errW_some] <;> rfl),by repeat first | exact HB.out | apply zz2 | apply zz0 | apply zz1 | refine zz3 ?_ GE140.out | refine zz3 ?_ GE141.out | refine zz3 ?_ GE143.out⟩
        ·rw [if_neg c18] at H
         have c18b0:(!(((rd_T70 l0_1 x10_1).f0) == ((rd_T70 l1_1 x10_1).f0)) || (!(((rd_T70 l0_1 x10_1).f1) == ((rd_T70 l1_1 x10_1).f1))))=false:=by simpa using c18
         clear c18
         have H':=zz31 H
         clear H
         have p142:0≤(x10_1:Int):=zz29 (by first | (with_reducible assumption) | assumption)
         have q142:x10_1 < (l0_1.length:Int):=zz29 (by first | (with_reducible assumption) | assumption)
         obtain ⟨ad142,e142,hx142_0,hx142_1⟩:=at_T70 HR0_1.out x10_1 p142 q142
         cases e142
         try replace hx142_0:=(HB.out.cell (World.block_lt_of_cell? w _ hx142_0)).trans hx142_0
         try replace hx142_1:=(HB.out.cell (World.block_lt_of_cell? w _ hx142_1)).trans hx142_1
         replace p142:=eq_true p142
         replace q142:=eq_true q142
         try go_wp2_with (first | ((with_reducible refine gate_dst (N:=6) rfl ?_);refine box_event ?hg (N:=6) ?hd (cs:=#[.int .i64 0,.int .i64 0]) (t:=70) ?hr ?_;(case hd=>rfl);(case hg=>rfl);(case hr=>first | (go_simp;done) | (go_simp;rfl));intro gb143 hg w30 hbox hb;have n0_:=zz31 (zz11 (g:=gb140) (o:=.cells #[.int .i64 a0_0,.slice (some ad142) l0_1.length c0_1] 30 (0,0)) (by (with_reducible repeat (first | refine zz6 ?_ _ | refine zz7 ?_ | refine zz8 ?_ _));exact BK140.out) hb);have n1_:=zz31 (zz11 (g:=gb141) (o:=.cells #[.int .i64 a1_0,.slice A1_1 l1_1.length c1_1] 30 (0,0)) (by (with_reducible repeat (first | refine zz6 ?_ _ | refine zz7 ?_ | refine zz8 ?_ _));exact BK141.out) hb);have n2_:=zz31 (zz4 (by repeat first | exact HB.out | apply zz2 | apply zz0 | apply zz1 | refine zz3 ?_ GE140.out | refine zz3 ?_ GE141.out) hb);have n3_:=zz31 (hbox);have n4_:=zz31 ((by rw [hg];exact (zz5 (by repeat first | exact HB.out | apply zz2 | apply zz0 | apply zz1 | refine zz3 ?_ GE140.out | refine zz3 ?_ GE141.out)):w.heap.size≤gb143));have n5_:=zz31 ((by rw [hg];exact (zz5 (by repeat first | exact HB.out | apply zz2 | apply zz0 | apply zz1 | refine zz3 ?_ GE140.out | refine zz3 ?_ GE141.out)):w.heap.size≤gb143));have n6_:=zz31 ((by rw [hg];exact Nat.ne_of_lt (blk_lt (g:=gb140) (o:=.cells #[.int .i64 a0_0,.slice (some ad142) l0_1.length c0_1] 30 (0,0)) (by (with_reducible repeat (first | refine zz6 ?_ _ | refine zz7 ?_ | refine zz8 ?_ _));exact BK140.out)):gb140 ≠ gb143));have n7_:=zz31 ((by rw [hg];exact Nat.ne_of_gt (blk_lt (g:=gb140) (o:=.cells #[.int .i64 a0_0,.slice (some ad142) l0_1.length c0_1] 30 (0,0)) (by (with_reducible repeat (first | refine zz6 ?_ _ | refine zz7 ?_ | refine zz8 ?_ _));exact BK140.out)):gb143 ≠ gb140));have n8_:=zz31 ((by rw [hg];exact Nat.ne_of_lt (blk_lt (g:=gb141) (o:=.cells #[.int .i64 a1_0,.slice A1_1 l1_1.length c1_1] 30 (0,0)) (by (with_reducible repeat (first | refine zz6 ?_ _ | refine zz7 ?_ | refine zz8 ?_ _));exact BK141.out)):gb141 ≠ gb143));have n9_:=zz31 ((by rw [hg];exact Nat.ne_of_gt (blk_lt (g:=gb141) (o:=.cells #[.int .i64 a1_0,.slice A1_1 l1_1.length c1_1] 30 (0,0)) (by (with_reducible repeat (first | refine zz6 ?_ _ | refine zz7 ?_ | refine zz8 ?_ _));exact BK141.out)):gb143 ≠ gb141));clear BK140;clear BK141;clear HB;have BK140:=n0_;have BK141:=n1_;have HB:=n2_;have BK143:=n3_;have GW143:=n4_;have GE143:=n5_;have NB140_143:=n6_;have NB143_140:=n7_;have NB141_143:=n8_;have NB143_141:=n9_;clear n0_ n1_ n2_ n3_ n4_ n5_ n6_ n7_ n8_ n9_;clear hb hbox hg;have hnb31:=NB143_140.out;have hnc31:=NB140_143.out;have hnb32:=NB143_141.out;have hnc32:=NB141_143.out;have hcz33_0:w30.cell? ⟨gb143,0,none⟩=some (.int .i64 0):=(zz9 BK143.out 0).trans rfl;have hcz33_1:w30.cell? ⟨gb143,1,none⟩=some (.int .i64 0):=(zz9 BK143.out 1).trans rfl;have hfz33_0:=zz10 BK143.out 0;have hfz33_1:=zz10 BK143.out 1;have hnb34:=NB141_140.out;have hnc34:=NB140_141.out;have hcz35_0:w30.cell? ⟨gb141,0,none⟩=some (.int .i64 a1_0):=(zz9 BK141.out 0).trans rfl;have hcz35_1:w30.cell? ⟨gb141,1,none⟩=some (.slice A1_1 l1_1.length c1_1):=(zz9 BK141.out 1).trans rfl;have hfz35_0:=zz10 BK141.out 0;have hfz35_1:=zz10 BK141.out 1))
         have n0_:Aside0 (((w30.setCell ⟨gb143,0,none⟩ (.int .i64 ((rd_T70 l0_1 x10_1).f0))).setCell ⟨gb143,1,none⟩ (.int .i64 ((rd_T70 l0_1 x10_1).f1))).heap[gb140]?=some (.cells #[.int .i64 a0_0,.slice (some ad142) l0_1.length c0_1] 30 (0,0))):=⟨by (with_reducible repeat (first | refine zz6 ?_ _ | refine zz7 ?_ | refine zz8 ?_ _));refine blk_far ?_ NB140_143.out _;(with_reducible repeat (first | refine zz6 ?_ _ | refine zz7 ?_ | refine zz8 ?_ _));refine blk_far ?_ NB140_143.out _;(with_reducible repeat (first | refine zz6 ?_ _ | refine zz7 ?_ | refine zz8 ?_ _));exact BK140.out⟩
         have n1_:Aside0 (((w30.setCell ⟨gb143,0,none⟩ (.int .i64 ((rd_T70 l0_1 x10_1).f0))).setCell ⟨gb143,1,none⟩ (.int .i64 ((rd_T70 l0_1 x10_1).f1))).heap[gb141]?=some (.cells #[.int .i64 a1_0,.slice A1_1 l1_1.length c1_1] 30 (0,0))):=⟨by (with_reducible repeat (first | refine zz6 ?_ _ | refine zz7 ?_ | refine zz8 ?_ _));refine blk_far ?_ NB141_143.out _;(with_reducible repeat (first | refine zz6 ?_ _ | refine zz7 ?_ | refine zz8 ?_ _));refine blk_far ?_ NB141_143.out _;(with_reducible repeat (first | refine zz6 ?_ _ | refine zz7 ?_ | refine zz8 ?_ _));exact BK141.out⟩
         have n2_:Aside0 (((w30.setCell ⟨gb143,0,none⟩ (.int .i64 ((rd_T70 l0_1 x10_1).f0))).setCell ⟨gb143,1,none⟩ (.int .i64 ((rd_T70 l0_1 x10_1).f1))).heap[gb143]?=some (.cells #[.int .i64 ((rd_T70 l0_1 x10_1).f0),.int .i64 ((rd_T70 l0_1 x10_1).f1)] 70 (0,0))):=⟨by (with_reducible repeat (first | refine zz6 ?_ _ | refine zz7 ?_ | refine zz8 ?_ _));refine blk_put (cs:=#[.int .i64 ((rd_T70 l0_1 x10_1).f0),.int .i64 0]) ?_ 1 _ rfl;(with_reducible repeat (first | refine zz6 ?_ _ | refine zz7 ?_ | refine zz8 ?_ _));refine blk_put (cs:=#[.int .i64 0,.int .i64 0]) ?_ 0 _ rfl;(with_reducible repeat (first | refine zz6 ?_ _ | refine zz7 ?_ | refine zz8 ?_ _));exact BK143.out⟩
         have n3_:Aside0 (Below w.heap.size w ((w30.setCell ⟨gb143,0,none⟩ (.int .i64 ((rd_T70 l0_1 x10_1).f0))).setCell ⟨gb143,1,none⟩ (.int .i64 ((rd_T70 l0_1 x10_1).f1)))):=⟨by repeat first | exact HB.out | apply zz2 | apply zz0 | apply zz1 | refine zz3 ?_ GE140.out | refine zz3 ?_ GE141.out | refine zz3 ?_ GE143.out⟩
         (try clear BK140)
         (try clear BK141)
         (try clear BK143)
         (try clear HB)
         generalize ((w30.setCell ⟨gb143,0,none⟩ (.int .i64 ((rd_T70 l0_1 x10_1).f0))).setCell ⟨gb143,1,none⟩ (.int .i64 ((rd_T70 l0_1 x10_1).f1)))=w36 at n0_ n1_ n2_ n3_ ⊢
         have BK140:=n0_
         have BK141:=n1_
         have BK143:=n2_
         have HB:=n3_
         clear n0_ n1_ n2_ n3_
         have n0_:=zz31 (zz7 BK140.out)
         have n1_:=zz31 (zz7 BK141.out)
         have n2_:=zz31 (zz7 BK143.out)
         have n3_:=zz31 (zz1 HB.out)
         clear BK140
         clear BK141
         clear BK143
         clear HB
         have BK140:=n0_
         have BK141:=n1_
         have BK143:=n2_
         have HB:=n3_
         clear n0_ n1_ n2_ n3_
         have p144:0≤(x10_1:Int):=zz29 (by first | (with_reducible assumption) | assumption)
         have q144:x10_1 < (l1_1.length:Int):=zz29 (by first | (with_reducible assumption) | assumption)
         obtain ⟨ad144,e144,hx144_0,hx144_1⟩:=at_T70 HR1_1.out x10_1 p144 q144
         have hw144_1:=hx144_1
         have hw144_0:=hx144_0
         cases e144
         try replace hx144_0:=(HB.out.cell (World.block_lt_of_cell? w _ hx144_0)).trans hx144_0
         try replace hx144_1:=(HB.out.cell (World.block_lt_of_cell? w _ hx144_1)).trans hx144_1
         replace p144:=eq_true p144
         replace q144:=eq_true q144
         refine start_ (n:=7) (S:=fun w'=>w'.cell? ⟨gb143,0,none⟩=some (.int .i64 ((rd_T70 l0_1 x10_1).f0))∧w'.cell? ⟨gb143,1,none⟩=some (.int .i64 ((rd_T70 l0_1 x10_1).f1))∧w'.cell? ⟨gb141,0,none⟩=some (.int .i64 a1_0)∧w'.cell? ⟨gb141,1,none⟩=some (.slice (some ad144) l1_1.length c1_1)∧w'.cell? (ad144.add ((x10_1).toNat * 2))=some (.int .i64 ((rd_T70 l1_1 x10_1).f0))∧w'.cell? ⟨(ad144.add ((x10_1).toNat * 2)).block,(ad144.add ((x10_1).toNat * 2)).off+1,none⟩=some (.int .i64 ((rd_T70 l1_1 x10_1).f1))) (ds:=[]) #[F,F,F,F,F,F,F] (by kernel_rfl) rfl rfl ⟨(zz9 BK143.out 0).trans rfl,(zz9 BK143.out 1).trans rfl,(zz9 BK141.out 0).trans rfl,(zz9 BK141.out 1).trans rfl,((HB.out.cell (World.block_lt_of_cell? w _ hw144_0)).trans hw144_0),((HB.out.cell (World.block_lt_of_cell? w _ hw144_1)).trans hw144_1)⟩ (fun hHeld=>?_)
         generalize w36.drew=w37 at BK140 BK141 BK143 HB hx144_0 hx144_1 hHeld ⊢
         refine pure_ (i:=1) (N:=some 21) (v:=?_) (a':=?_) #[F,T,F,F,F,F,F] rfl rfl (by kernel_rfl) (fun _ _ _ h=>h) (Or.inl ⟨by rfl,?_⟩) ?_ ?_
         rotate_left
         ·intro w'
          go_simp
          with_reducible rfl
         rotate_left
         ·simp only [Act.put,zz21,zz22,zz23,i64_w,i32_w]
          rfl
         refine pure_ (i:=3) (N:=some 23) (v:=?_) (a':=?_) #[F,T,F,T,F,F,F] rfl rfl (by kernel_rfl) (fun _ _ _ h=>h) (Or.inl ⟨by rfl,?_⟩) ?_ ?_
         rotate_left
         ·intro w'
          go_simp
          with_reducible rfl
         rotate_left
         ·simp only [Act.put,zz21,zz22,zz23,i64_w,i32_w]
          rfl
         refine take_ (i:=0) (N:=some 20) (v:=?_) (a':=?_) #[T,T,F,T,F,F,F] rfl rfl (by kernel_rfl) (fun _ _ _ h=>h) (Or.inl ⟨by rfl,?_⟩) hHeld ?_ ?_
         rotate_left
         ·rintro w' ⟨s0,s1,s2,s3,s4,s5⟩
          go_simp
          with_reducible rfl
         rotate_left
         ·simp only [Act.put,zz21,zz22,zz23,i64_w,i32_w]
          rfl
         refine take_ (i:=2) (N:=some 22) (v:=?_) (a':=?_) #[T,T,T,T,F,F,F] rfl rfl (by kernel_rfl) (fun _ _ _ h=>h) (Or.inl ⟨by rfl,?_⟩) hHeld ?_ ?_
         rotate_left
         ·rintro w' ⟨s0,s1,s2,s3,s4,s5⟩
          go_simp
          with_reducible rfl
         rotate_left
         ·simp only [Act.put,zz21,zz22,zz23,i64_w,i32_w]
          rfl
         refine pure_ (i:=4) (N:=some 24) (v:=?_) (a':=?_) #[T,T,T,T,T,F,F] rfl rfl (by kernel_rfl) (fun _ _ _ h=>h) (Or.inl ⟨by rfl,?_⟩) ?_ ?_
         rotate_left
         ·intro w'
          go_simp
          with_reducible rfl
         rotate_left
         ·simp only [Act.put,zz21,zz22,zz23,i64_w,i32_w]
          rfl
         refine take_ (i:=5) (N:=some 25) (v:=?_) (a':=?_) #[T,T,T,T,T,T,F] rfl rfl (by kernel_rfl) (fun _ _ _ h=>h) (Or.inl ⟨by rfl,?_⟩) hHeld ?_ ?_
         rotate_left
         ·rintro w' ⟨s0,s1,s2,s3,s4,s5⟩
          go_simp
          with_reducible rfl
         rotate_left
         ·simp only [Act.put,zz21,zz22,zz23,i64_w,i32_w]
          rfl
         refine pure_ (i:=6) (N:=some 26) (v:=?_) (a':=?_) #[T,T,T,T,T,T,T] rfl rfl (by kernel_rfl) (fun _ _ _ h=>h) (Or.inl ⟨by rfl,?_⟩) ?_ ?_
         rotate_left
         ·intro w'
          go_simp
          with_reducible rfl
         rotate_left
         ·simp only [Act.put,zz21,zz22,zz23,i64_w,i32_w]
          rfl
         refine done_ (by kernel_rfl) ?_
         try go_wp2
         go_roundg k1
         case measure=>have:=HK1.out;omega
         case rel=>exact ⟨(wrap64 (x10_1+1)),(by first | rfl | (simp;done) | (simp [*];done)),H',⟨by have:=HK1.out;omega⟩,⟨by (with_reducible repeat (first | refine zz6 ?_ _ | refine zz7 ?_ | refine zz8 ?_ _));exact BK140.out⟩,⟨by (with_reducible repeat (first | refine zz6 ?_ _ | refine zz7 ?_ | refine zz8 ?_ _));exact BK141.out⟩,⟨by repeat first | exact HB.out | apply zz2 | apply zz0 | apply zz1 | refine zz3 ?_ GE140.out | refine zz3 ?_ GE141.out | refine zz3 ?_ GE143.out⟩⟩
       ·rw [if_neg c17] at H
        exact absurd H (by simp)
     ·rw [if_neg c9] at H
      exact absurd H (by simp)
    ·rw [if_neg c8] at H
     exact absurd H (by simp)
   ·rw [if_neg c7] at H
    have c7b0:decide (x10_1 < (l0_1.length:Int))=false:=decide_eq_false c7
    clear c7
    obtain rfl:=Option.some.inj H
    have hnb38:=NB140_141.out
    have hnc38:=NB141_140.out
    have hcz39_0:wr.cell? ⟨gb140,0,none⟩=some (.int .i64 a0_0):=(zz9 BK140.out 0).trans rfl
    have hcz39_1:wr.cell? ⟨gb140,1,none⟩=some (.slice A0_1 l0_1.length c0_1):=(zz9 BK140.out 1).trans rfl
    have hfz39_0:=zz10 BK140.out 0
    have hfz39_1:=zz10 BK140.out 1
    have hcz40_0:wr.cell? ⟨gb141,0,none⟩=some (.int .i64 a1_0):=(zz9 BK141.out 0).trans rfl
    have hcz40_1:wr.cell? ⟨gb141,1,none⟩=some (.slice A1_1 l1_1.length c1_1):=(zz9 BK141.out 1).trans rfl
    have hfz40_0:=zz10 BK141.out 0
    have hfz40_1:=zz10 BK141.out 1
    go_wp2
    go_ret
    exact ⟨by first | rfl | (simp [errW_none,errW_some] <;> rfl) | (simp [*,errW_none,errW_some] <;> rfl),by repeat first | exact HB.out | apply zz2 | apply zz0 | apply zz1 | refine zz3 ?_ GE140.out | refine zz3 ?_ GE141.out⟩

/-! ### spec_paSame: function 32 -/
def spec_paSame.f (k:Nat) (a0_0:Int) (l0_1:List (S70)) (a1_0:Int) (l1_1:List (S70)):Option (Bool):=if a0_0=a1_0 then ((spec_paBefore.f k a0_0 l0_1 a1_0 l1_1).bind fun t149=>(if t149=true then (some false) else ((spec_paBefore.f k a1_0 l1_1 a0_0 l0_1).bind fun t150=>(some (!t150))))) else (some false)
theorem spec_paSame.mono:∀ a0 a1 a2 a3 k,LeO (spec_paSame.f k a0 a1 a2 a3) (spec_paSame.f (k+1) a0 a1 a2 a3):=by
 intro a0 a1 a2 a3 k
 unfold spec_paSame.f
 repeat' first
   | (with_reducible exact spec_paBefore.mono _ _ _ _ _)
   | (with_reducible exact LeO.refl _)
   | (with_reducible exact LeO.none _)
   | (with_reducible refine LeO.ite ?_ ?_)
   | (with_reducible refine LeO.bind ?_ (fun _=>?_))
   | exact spec_paBefore.mono _ _ _ _ _
   | exact LeO.none _
   | refine LeO.ite ?_ ?_
   | refine LeO.bind ?_ (fun _=>?_)
set_option maxHeartbeats 8000000 in
set_option maxRecDepth 100000 in
theorem spec_paSame.calls (k:Nat) (a0_0:Int) (A0_1:Option Addr) (c0_1:Nat) (l0_1:List (S70)) (a1_0:Int) (A1_1:Option Addr) (c1_1:Nat) (l1_1:List (S70)) (r:Bool) (w:World) (hr0_1:Kd.C k70 w A0_1 l0_1.length l0_1) (hc0_1:l0_1.length≤c0_1) (hr1_1:Kd.C k70 w A1_1 l1_1.length l1_1) (hc1_1:l1_1.length≤c1_1) (h:spec_paSame.f k a0_0 l0_1 a1_0 l1_1=some r) :
  Calls Try.prog 32 #[.agg #[.int .i64 a0_0,.slice A0_1 l0_1.length c0_1],.agg #[.int .i64 a1_0,.slice A1_1 l1_1.length c1_1]] w fun e w'=>e=.returned (.bool r)∧Below w.heap.size w w':=by
 have hu30:=Try.underlying30
 have HR0_1:=zz31 hr0_1
 have HC0_1:=zz31 hc0_1
 clear hr0_1 hc0_1
 have HR1_1:=zz31 hr1_1
 have HC1_1:=zz31 hc1_1
 clear hr1_1 hc1_1
 have HB:=zz31 (Below.refl w.heap.size w)
 have H:(if a0_0=a1_0 then ((spec_paBefore.f k a0_0 l0_1 a1_0 l1_1).bind fun t149=>(if t149=true then (some false) else ((spec_paBefore.f k a1_0 l1_1 a0_0 l0_1).bind fun t150=>(some (!t150))))) else (some false))=some r:=h
 clear h
 by_cases c3:a0_0=a1_0
 ·rw [if_pos c3] at H
  have c3b0:(a0_0 == a1_0)=true:=beq_iff_eq.mpr c3
  have c3b1:(a0_0 != a1_0)=false:=bne_eq_false_iff_eq.mpr c3
  clear c3
  replace H:=zz30.mp H
  obtain ⟨t149,A40,H⟩:=H
  replace H:(if t149=true then (some false) else ((spec_paBefore.f k a1_0 l1_1 a0_0 l0_1).bind fun t150=>(some (!t150))))=some r:=H
  have A4:=zz31 A40
  clear A40
  by_cases c5:t149=true
  ·subst c5
   have H1:(some false)=some r:=by rw [if_pos rfl] at H;exact H
   clear H
   have H:=H1
   clear H1
   obtain rfl:=Option.some.inj H
   go_enter Try.func32,Try.ntmps32
   go_wp2_with (first | ((with_reducible refine gate_dst (N:=2) rfl ?_);refine box_event ?hg (N:=2) ?hd (cs:=#[.int .i64 a0_0,.slice A0_1 l0_1.length c0_1]) (t:=30) ?hr ?_;(case hd=>rfl);(case hg=>rfl);(case hr=>first | (go_simp;done) | (go_simp;rfl));intro gb147 hg w6 hbox hb;have n0_:=zz31 (zz4 (by repeat first | exact HB.out | apply zz2 | apply zz0 | apply zz1) hb);have n1_:=zz31 (hbox);have n2_:=zz31 ((by rw [hg];exact (zz5 (by repeat first | exact HB.out | apply zz2 | apply zz0 | apply zz1)):w.heap.size≤gb147));have n3_:=zz31 ((by rw [hg];exact (zz5 (by repeat first | exact HB.out | apply zz2 | apply zz0 | apply zz1)):w.heap.size≤gb147));clear HB;have HB:=n0_;have BK147:=n1_;have GW147:=n2_;have GE147:=n3_;clear n0_ n1_ n2_ n3_;clear hb hbox hg) | ((with_reducible refine gate_dst (N:=3) rfl ?_);refine box_event ?hg (N:=3) ?hd (cs:=#[.int .i64 a1_0,.slice A1_1 l1_1.length c1_1]) (t:=30) ?hr ?_;(case hd=>rfl);(case hg=>rfl);(case hr=>first | (go_simp;done) | (go_simp;rfl));intro gb148 hg w7 hbox hb;have n0_:=zz31 (zz11 (g:=gb147) (o:=.cells #[.int .i64 a0_0,.slice A0_1 l0_1.length c0_1] 30 (0,0)) (by (with_reducible repeat (first | refine zz6 ?_ _ | refine zz7 ?_ | refine zz8 ?_ _));exact BK147.out) hb);have n1_:=zz31 (zz4 (by repeat first | exact HB.out | apply zz2 | apply zz0 | apply zz1 | refine zz3 ?_ GE147.out) hb);have n2_:=zz31 (hbox);have n3_:=zz31 ((by rw [hg];exact (zz5 (by repeat first | exact HB.out | apply zz2 | apply zz0 | apply zz1 | refine zz3 ?_ GE147.out)):w.heap.size≤gb148));have n4_:=zz31 ((by rw [hg];exact (zz5 (by repeat first | exact HB.out | apply zz2 | apply zz0 | apply zz1 | refine zz3 ?_ GE147.out)):w.heap.size≤gb148));have n5_:=zz31 ((by rw [hg];exact Nat.ne_of_lt (blk_lt (g:=gb147) (o:=.cells #[.int .i64 a0_0,.slice A0_1 l0_1.length c0_1] 30 (0,0)) (by (with_reducible repeat (first | refine zz6 ?_ _ | refine zz7 ?_ | refine zz8 ?_ _));exact BK147.out)):gb147 ≠ gb148));have n6_:=zz31 ((by rw [hg];exact Nat.ne_of_gt (blk_lt (g:=gb147) (o:=.cells #[.int .i64 a0_0,.slice A0_1 l0_1.length c0_1] 30 (0,0)) (by (with_reducible repeat (first | refine zz6 ?_ _ | refine zz7 ?_ | refine zz8 ?_ _));exact BK147.out)):gb148 ≠ gb147));clear BK147;clear HB;have BK147:=n0_;have HB:=n1_;have BK148:=n2_;have GW148:=n3_;have GE148:=n4_;have NB147_148:=n5_;have NB148_147:=n6_;clear n0_ n1_ n2_ n3_ n4_ n5_ n6_;clear hb hbox hg;have hnb8:=NB147_148.out;have hnc8:=NB148_147.out;have hcz9_0:w7.cell? ⟨gb147,0,none⟩=some (.int .i64 a0_0):=(zz9 BK147.out 0).trans rfl;have hcz9_1:w7.cell? ⟨gb147,1,none⟩=some (.slice A0_1 l0_1.length c0_1):=(zz9 BK147.out 1).trans rfl;have hfz9_0:=zz10 BK147.out 0;have hfz9_1:=zz10 BK147.out 1;have hcz10_0:w7.cell? ⟨gb148,0,none⟩=some (.int .i64 a1_0):=(zz9 BK148.out 0).trans rfl;have hcz10_1:w7.cell? ⟨gb148,1,none⟩=some (.slice A1_1 l1_1.length c1_1):=(zz9 BK148.out 1).trans rfl;have hfz10_0:=zz10 BK148.out 0;have hfz10_1:=zz10 BK148.out 1) | (go_at_call 62;(with_reducible refine (spec_paBefore.calls k a0_0 _ _ l0_1 a1_0 _ _ l1_1 true _ ?side1 ?side2 ?side3 ?side4 A4.out).mono ?_);(case side1=>repeat (first | exact (Kd.C_below HR0_1.out HB.out) | (with_reducible refine zz18 ?_ _) | (with_reducible refine zz19 ?_ _) | (with_reducible refine zz20 ?_)));(case side2=>exact HC0_1.out);(case side3=>repeat (first | exact (Kd.C_below HR1_1.out HB.out) | (with_reducible refine zz18 ?_ _) | (with_reducible refine zz19 ?_ _) | (with_reducible refine zz20 ?_)));(case side4=>exact HC1_1.out);rintro e w11 ⟨rfl,hb⟩;have n0_:=zz31 (zz11 (g:=gb147) (o:=.cells #[.int .i64 a0_0,.slice A0_1 l0_1.length c0_1] 30 (0,0)) (by (with_reducible repeat (first | refine zz6 ?_ _ | refine zz7 ?_ | refine zz8 ?_ _));exact BK147.out) hb);have n1_:=zz31 (zz11 (g:=gb148) (o:=.cells #[.int .i64 a1_0,.slice A1_1 l1_1.length c1_1] 30 (0,0)) (by (with_reducible repeat (first | refine zz6 ?_ _ | refine zz7 ?_ | refine zz8 ?_ _));exact BK148.out) hb);have n2_:=zz31 (zz4 (by repeat first | exact HB.out | apply zz2 | apply zz0 | apply zz1 | refine zz3 ?_ GE147.out | refine zz3 ?_ GE148.out) hb);clear BK147;clear BK148;clear HB;have BK147:=n0_;have BK148:=n1_;have HB:=n2_;clear n0_ n1_ n2_;(try clear hb);(try clear hb2);(try clear hk);(try clear hi)))
   go_ret
   exact ⟨by first | rfl | (simp [errW_none,errW_some] <;> rfl) | (simp [*,errW_none,errW_some] <;> rfl),by repeat first | exact HB.out | apply zz2 | apply zz0 | apply zz1 | refine zz3 ?_ GE147.out | refine zz3 ?_ GE148.out⟩
  ·replace c5:=Bool.eq_false_iff.mpr c5
   subst c5
   have H1:((spec_paBefore.f k a1_0 l1_1 a0_0 l0_1).bind fun t150=>(some (!t150)))=some r:=by rw [if_neg (show ¬ (false=true) by decide)] at H;exact H
   clear H
   have H:=H1
   clear H1
   replace H:=zz30.mp H
   obtain ⟨t150,A120,H⟩:=H
   replace H:(some (!t150))=some r:=H
   have A12:=zz31 A120
   clear A120
   obtain rfl:=Option.some.inj H
   go_enter Try.func32,Try.ntmps32
   go_wp2_with (first | ((with_reducible refine gate_dst (N:=2) rfl ?_);refine box_event ?hg (N:=2) ?hd (cs:=#[.int .i64 a0_0,.slice A0_1 l0_1.length c0_1]) (t:=30) ?hr ?_;(case hd=>rfl);(case hg=>rfl);(case hr=>first | (go_simp;done) | (go_simp;rfl));intro gb147 hg w13 hbox hb;have n0_:=zz31 (zz4 (by repeat first | exact HB.out | apply zz2 | apply zz0 | apply zz1) hb);have n1_:=zz31 (hbox);have n2_:=zz31 ((by rw [hg];exact (zz5 (by repeat first | exact HB.out | apply zz2 | apply zz0 | apply zz1)):w.heap.size≤gb147));have n3_:=zz31 ((by rw [hg];exact (zz5 (by repeat first | exact HB.out | apply zz2 | apply zz0 | apply zz1)):w.heap.size≤gb147));clear HB;have HB:=n0_;have BK147:=n1_;have GW147:=n2_;have GE147:=n3_;clear n0_ n1_ n2_ n3_;clear hb hbox hg) | ((with_reducible refine gate_dst (N:=3) rfl ?_);refine box_event ?hg (N:=3) ?hd (cs:=#[.int .i64 a1_0,.slice A1_1 l1_1.length c1_1]) (t:=30) ?hr ?_;(case hd=>rfl);(case hg=>rfl);(case hr=>first | (go_simp;done) | (go_simp;rfl));intro gb148 hg w14 hbox hb;have n0_:=zz31 (zz11 (g:=gb147) (o:=.cells #[.int .i64 a0_0,.slice A0_1 l0_1.length c0_1] 30 (0,0)) (by (with_reducible repeat (first | refine zz6 ?_ _ | refine zz7 ?_ | refine zz8 ?_ _));exact BK147.out) hb);have n1_:=zz31 (zz4 (by repeat first | exact HB.out | apply zz2 | apply zz0 | apply zz1 | refine zz3 ?_ GE147.out) hb);have n2_:=zz31 (hbox);have n3_:=zz31 ((by rw [hg];exact (zz5 (by repeat first | exact HB.out | apply zz2 | apply zz0 | apply zz1 | refine zz3 ?_ GE147.out)):w.heap.size≤gb148));have n4_:=zz31 ((by rw [hg];exact (zz5 (by repeat first | exact HB.out | apply zz2 | apply zz0 | apply zz1 | refine zz3 ?_ GE147.out)):w.heap.size≤gb148));have n5_:=zz31 ((by rw [hg];exact Nat.ne_of_lt (blk_lt (g:=gb147) (o:=.cells #[.int .i64 a0_0,.slice A0_1 l0_1.length c0_1] 30 (0,0)) (by (with_reducible repeat (first | refine zz6 ?_ _ | refine zz7 ?_ | refine zz8 ?_ _));exact BK147.out)):gb147 ≠ gb148));have n6_:=zz31 ((by rw [hg];exact Nat.ne_of_gt (blk_lt (g:=gb147) (o:=.cells #[.int .i64 a0_0,.slice A0_1 l0_1.length c0_1] 30 (0,0)) (by (with_reducible repeat (first | refine zz6 ?_ _ | refine zz7 ?_ | refine zz8 ?_ _));exact BK147.out)):gb148 ≠ gb147));clear BK147;clear HB;have BK147:=n0_;have HB:=n1_;have BK148:=n2_;have GW148:=n3_;have GE148:=n4_;have NB147_148:=n5_;have NB148_147:=n6_;clear n0_ n1_ n2_ n3_ n4_ n5_ n6_;clear hb hbox hg;have hnb15:=NB147_148.out;have hnc15:=NB148_147.out;have hcz16_0:w14.cell? ⟨gb147,0,none⟩=some (.int .i64 a0_0):=(zz9 BK147.out 0).trans rfl;have hcz16_1:w14.cell? ⟨gb147,1,none⟩=some (.slice A0_1 l0_1.length c0_1):=(zz9 BK147.out 1).trans rfl;have hfz16_0:=zz10 BK147.out 0;have hfz16_1:=zz10 BK147.out 1;have hcz17_0:w14.cell? ⟨gb148,0,none⟩=some (.int .i64 a1_0):=(zz9 BK148.out 0).trans rfl;have hcz17_1:w14.cell? ⟨gb148,1,none⟩=some (.slice A1_1 l1_1.length c1_1):=(zz9 BK148.out 1).trans rfl;have hfz17_0:=zz10 BK148.out 0;have hfz17_1:=zz10 BK148.out 1) | (go_at_call 62;(with_reducible refine (spec_paBefore.calls k a0_0 _ _ l0_1 a1_0 _ _ l1_1 false _ ?side1 ?side2 ?side3 ?side4 A4.out).mono ?_);(case side1=>repeat (first | exact (Kd.C_below HR0_1.out HB.out) | (with_reducible refine zz18 ?_ _) | (with_reducible refine zz19 ?_ _) | (with_reducible refine zz20 ?_)));(case side2=>exact HC0_1.out);(case side3=>repeat (first | exact (Kd.C_below HR1_1.out HB.out) | (with_reducible refine zz18 ?_ _) | (with_reducible refine zz19 ?_ _) | (with_reducible refine zz20 ?_)));(case side4=>exact HC1_1.out);rintro e w18 ⟨rfl,hb⟩;have n0_:=zz31 (zz11 (g:=gb147) (o:=.cells #[.int .i64 a0_0,.slice A0_1 l0_1.length c0_1] 30 (0,0)) (by (with_reducible repeat (first | refine zz6 ?_ _ | refine zz7 ?_ | refine zz8 ?_ _));exact BK147.out) hb);have n1_:=zz31 (zz11 (g:=gb148) (o:=.cells #[.int .i64 a1_0,.slice A1_1 l1_1.length c1_1] 30 (0,0)) (by (with_reducible repeat (first | refine zz6 ?_ _ | refine zz7 ?_ | refine zz8 ?_ _));exact BK148.out) hb);have n2_:=zz31 (zz4 (by repeat first | exact HB.out | apply zz2 | apply zz0 | apply zz1 | refine zz3 ?_ GE147.out | refine zz3 ?_ GE148.out) hb);clear BK147;clear BK148;clear HB;have BK147:=n0_;have BK148:=n1_;have HB:=n2_;clear n0_ n1_ n2_;(try clear hb);(try clear hb2);(try clear hk);(try clear hi);have hcz19_0:w18.cell? ⟨gb148,0,none⟩=some (.int .i64 a1_0):=(zz9 BK148.out 0).trans rfl;have hcz19_1:w18.cell? ⟨gb148,1,none⟩=some (.slice A1_1 l1_1.length c1_1):=(zz9 BK148.out 1).trans rfl;have hfz19_0:=zz10 BK148.out 0;have hfz19_1:=zz10 BK148.out 1;have hcz20_0:w18.cell? ⟨gb147,0,none⟩=some (.int .i64 a0_0):=(zz9 BK147.out 0).trans rfl;have hcz20_1:w18.cell? ⟨gb147,1,none⟩=some (.slice A0_1 l0_1.length c0_1):=(zz9 BK147.out 1).trans rfl;have hfz20_0:=zz10 BK147.out 0;have hfz20_1:=zz10 BK147.out 1) | (go_at_call 62;(with_reducible refine (spec_paBefore.calls k a1_0 _ _ l1_1 a0_0 _ _ l0_1 t150 _ ?side1 ?side2 ?side3 ?side4 A12.out).mono ?_);(case side1=>repeat (first | exact (Kd.C_below HR1_1.out HB.out) | (with_reducible refine zz18 ?_ _) | (with_reducible refine zz19 ?_ _) | (with_reducible refine zz20 ?_)));(case side2=>exact HC1_1.out);(case side3=>repeat (first | exact (Kd.C_below HR0_1.out HB.out) | (with_reducible refine zz18 ?_ _) | (with_reducible refine zz19 ?_ _) | (with_reducible refine zz20 ?_)));(case side4=>exact HC0_1.out);rintro e w21 ⟨rfl,hb⟩;have n0_:=zz31 (zz11 (g:=gb147) (o:=.cells #[.int .i64 a0_0,.slice A0_1 l0_1.length c0_1] 30 (0,0)) (by (with_reducible repeat (first | refine zz6 ?_ _ | refine zz7 ?_ | refine zz8 ?_ _));exact BK147.out) hb);have n1_:=zz31 (zz11 (g:=gb148) (o:=.cells #[.int .i64 a1_0,.slice A1_1 l1_1.length c1_1] 30 (0,0)) (by (with_reducible repeat (first | refine zz6 ?_ _ | refine zz7 ?_ | refine zz8 ?_ _));exact BK148.out) hb);have n2_:=zz31 (zz4 (by repeat first | exact HB.out | apply zz2 | apply zz0 | apply zz1 | refine zz3 ?_ GE147.out | refine zz3 ?_ GE148.out) hb);clear BK147;clear BK148;clear HB;have BK147:=n0_;have BK148:=n1_;have HB:=n2_;clear n0_ n1_ n2_;(try clear hb);(try clear hb2);(try clear hk);(try clear hi)))
   go_ret
   exact ⟨by first | rfl | (simp [errW_none,errW_some] <;> rfl) | (simp [*,errW_none,errW_some] <;> rfl),by repeat first | exact HB.out | apply zz2 | apply zz0 | apply zz1 | refine zz3 ?_ GE147.out | refine zz3 ?_ GE148.out⟩
 ·rw [if_neg c3] at H
  have c3b0:(a0_0 == a1_0)=false:=beq_eq_false_iff_ne.mpr c3
  have c3b1:(a0_0 != a1_0)=true:=bne_iff_ne.mpr c3
  obtain rfl:=Option.some.inj H
  go_enter Try.func32,Try.ntmps32
  go_wp2_with (first | ((with_reducible refine gate_dst (N:=2) rfl ?_);refine box_event ?hg (N:=2) ?hd (cs:=#[.int .i64 a0_0,.slice A0_1 l0_1.length c0_1]) (t:=30) ?hr ?_;(case hd=>rfl);(case hg=>rfl);(case hr=>first | (go_simp;done) | (go_simp;rfl));intro gb147 hg w22 hbox hb;have n0_:=zz31 (zz4 (by repeat first | exact HB.out | apply zz2 | apply zz0 | apply zz1) hb);have n1_:=zz31 (hbox);have n2_:=zz31 ((by rw [hg];exact (zz5 (by repeat first | exact HB.out | apply zz2 | apply zz0 | apply zz1)):w.heap.size≤gb147));have n3_:=zz31 ((by rw [hg];exact (zz5 (by repeat first | exact HB.out | apply zz2 | apply zz0 | apply zz1)):w.heap.size≤gb147));clear HB;have HB:=n0_;have BK147:=n1_;have GW147:=n2_;have GE147:=n3_;clear n0_ n1_ n2_ n3_;clear hb hbox hg) | ((with_reducible refine gate_dst (N:=3) rfl ?_);refine box_event ?hg (N:=3) ?hd (cs:=#[.int .i64 a1_0,.slice A1_1 l1_1.length c1_1]) (t:=30) ?hr ?_;(case hd=>rfl);(case hg=>rfl);(case hr=>first | (go_simp;done) | (go_simp;rfl));intro gb148 hg w23 hbox hb;have n0_:=zz31 (zz11 (g:=gb147) (o:=.cells #[.int .i64 a0_0,.slice A0_1 l0_1.length c0_1] 30 (0,0)) (by (with_reducible repeat (first | refine zz6 ?_ _ | refine zz7 ?_ | refine zz8 ?_ _));exact BK147.out) hb);have n1_:=zz31 (zz4 (by repeat first | exact HB.out | apply zz2 | apply zz0 | apply zz1 | refine zz3 ?_ GE147.out) hb);have n2_:=zz31 (hbox);have n3_:=zz31 ((by rw [hg];exact (zz5 (by repeat first | exact HB.out | apply zz2 | apply zz0 | apply zz1 | refine zz3 ?_ GE147.out)):w.heap.size≤gb148));have n4_:=zz31 ((by rw [hg];exact (zz5 (by repeat first | exact HB.out | apply zz2 | apply zz0 | apply zz1 | refine zz3 ?_ GE147.out)):w.heap.size≤gb148));have n5_:=zz31 ((by rw [hg];exact Nat.ne_of_lt (blk_lt (g:=gb147) (o:=.cells #[.int .i64 a0_0,.slice A0_1 l0_1.length c0_1] 30 (0,0)) (by (with_reducible repeat (first | refine zz6 ?_ _ | refine zz7 ?_ | refine zz8 ?_ _));exact BK147.out)):gb147 ≠ gb148));have n6_:=zz31 ((by rw [hg];exact Nat.ne_of_gt (blk_lt (g:=gb147) (o:=.cells #[.int .i64 a0_0,.slice A0_1 l0_1.length c0_1] 30 (0,0)) (by (with_reducible repeat (first | refine zz6 ?_ _ | refine zz7 ?_ | refine zz8 ?_ _));exact BK147.out)):gb148 ≠ gb147));clear BK147;clear HB;have BK147:=n0_;have HB:=n1_;have BK148:=n2_;have GW148:=n3_;have GE148:=n4_;have NB147_148:=n5_;have NB148_147:=n6_;clear n0_ n1_ n2_ n3_ n4_ n5_ n6_;clear hb hbox hg;have hnb24:=NB147_148.out;have hnc24:=NB148_147.out;have hcz25_0:w23.cell? ⟨gb147,0,none⟩=some (.int .i64 a0_0):=(zz9 BK147.out 0).trans rfl;have hcz25_1:w23.cell? ⟨gb147,1,none⟩=some (.slice A0_1 l0_1.length c0_1):=(zz9 BK147.out 1).trans rfl;have hfz25_0:=zz10 BK147.out 0;have hfz25_1:=zz10 BK147.out 1;have hcz26_0:w23.cell? ⟨gb148,0,none⟩=some (.int .i64 a1_0):=(zz9 BK148.out 0).trans rfl;have hcz26_1:w23.cell? ⟨gb148,1,none⟩=some (.slice A1_1 l1_1.length c1_1):=(zz9 BK148.out 1).trans rfl;have hfz26_0:=zz10 BK148.out 0;have hfz26_1:=zz10 BK148.out 1))
  go_ret
  exact ⟨by first | rfl | (simp [errW_none,errW_some] <;> rfl) | (simp [*,errW_none,errW_some] <;> rfl),by repeat first | exact HB.out | apply zz2 | apply zz0 | apply zz1 | refine zz3 ?_ GE147.out | refine zz3 ?_ GE148.out⟩

/-! ### spec_paOf: function 42 -/
mutual
def spec_paOf.l0:Nat→List (List Bool)→Int→Int→Int→List (S70)→Option (Int × (List (S70)))
 | 0,_,_,_,_,_=>none
 | k+1,x0,x10,x11,x153000,x153001=>if x11 < x10 then (spec_paOf.l1 k x0 x11 (wrap64 (x11+1)) x10 x11 x153000 x153001) else (some (x153000,x153001))
def spec_paOf.l1:Nat→List (List Bool)→Int→Int→Int→Int→Int→List (S70)→Option (Int × (List (S70)))
 | 0,_,_,_,_,_,_,_=>none
 | k+1,x0,x4,x5,x10,x11,x153000,x153001=>if x5 < (x0.length:Int) then (if 0≤x4 then (if x4 < (x0.length:Int) then (if 0≤x5 then (if x5 < ((rd_L4 x0 x4).length:Int) then (if rdOf false (rd_L4 x0 x4) x5=true then (if x153001.length < 8796093022208 then (spec_paOf.l1 k x0 x4 (wrap64 (x5+1)) x10 x11 x153000 (x153001 ++ [(⟨x4,x5⟩:S70)])) else (none)) else (spec_paOf.l1 k x0 x4 (wrap64 (x5+1)) x10 x11 x153000 x153001)) else (none)) else (none)) else (none)) else (none)) else (spec_paOf.l0 k x0 x10 (wrap64 (x11+1)) x153000 x153001)
end
def spec_paOf.f (k:Nat) (l0:List (List Bool)):Option (Int × (List (S70))):=spec_paOf.l0 k l0 (l0.length:Int) 0 (l0.length:Int) ([]:List (S70))
theorem spec_paOf.mono_l:∀ k,(∀ y0 y1 y2 y3 y4,LeO (spec_paOf.l0 k y0 y1 y2 y3 y4) (spec_paOf.l0 (k+1) y0 y1 y2 y3 y4))∧(∀ y0 y1 y2 y3 y4 y5 y6,LeO (spec_paOf.l1 k y0 y1 y2 y3 y4 y5 y6) (spec_paOf.l1 (k+1) y0 y1 y2 y3 y4 y5 y6))
 | 0=>⟨fun _ _ _ _ _ r h=>by simp [spec_paOf.l0] at h,fun _ _ _ _ _ _ _ r h=>by simp [spec_paOf.l1] at h⟩
 | k+1=>by
  obtain ⟨ih0,ih1⟩:=spec_paOf.mono_l k
  refine ⟨?_,?_⟩
  ·intro y0 y1 y2 y3 y4
   unfold spec_paOf.l0
   repeat' first
   | (with_reducible exact ih0 _ _ _ _ _)
   | (with_reducible exact ih1 _ _ _ _ _ _ _)
   | (with_reducible exact LeO.refl _)
   | (with_reducible exact LeO.none _)
   | (with_reducible refine LeO.ite ?_ ?_)
   | (with_reducible refine LeO.bind ?_ (fun _=>?_))
   | exact ih0 _ _ _ _ _
   | exact ih1 _ _ _ _ _ _ _
   | exact LeO.none _
   | refine LeO.ite ?_ ?_
   | refine LeO.bind ?_ (fun _=>?_)
  ·intro y0 y1 y2 y3 y4 y5 y6
   unfold spec_paOf.l1
   repeat' first
   | (with_reducible exact ih0 _ _ _ _ _)
   | (with_reducible exact ih1 _ _ _ _ _ _ _)
   | (with_reducible exact LeO.refl _)
   | (with_reducible exact LeO.none _)
   | (with_reducible refine LeO.ite ?_ ?_)
   | (with_reducible refine LeO.bind ?_ (fun _=>?_))
   | exact ih0 _ _ _ _ _
   | exact ih1 _ _ _ _ _ _ _
   | exact LeO.none _
   | refine LeO.ite ?_ ?_
   | refine LeO.bind ?_ (fun _=>?_)
theorem spec_paOf.mono:∀ a0 k,LeO (spec_paOf.f k a0) (spec_paOf.f (k+1) a0):=by
 intro a0 k
 obtain ⟨ih0,ih1⟩:=spec_paOf.mono_l k
 unfold spec_paOf.f
 repeat' first
   | (with_reducible exact ih0 _ _ _ _ _)
   | (with_reducible exact ih1 _ _ _ _ _ _ _)
   | (with_reducible exact LeO.refl _)
   | (with_reducible exact LeO.none _)
   | (with_reducible refine LeO.ite ?_ ?_)
   | (with_reducible refine LeO.bind ?_ (fun _=>?_))
   | exact ih0 _ _ _ _ _
   | exact ih1 _ _ _ _ _ _ _
   | exact LeO.none _
   | refine LeO.ite ?_ ?_
   | refine LeO.bind ?_ (fun _=>?_)
set_option maxHeartbeats 8000000 in
set_option maxRecDepth 100000 in
theorem spec_paOf.calls (k:Nat) (A0:Option Addr) (c0:Nat) (l0:List (List Bool)) (r1:Int) (r2:List (S70)) (w:World) (hr0:Kd.C (Kd.slice 4 Kd.bool) w A0 l0.length l0) (hc0:l0.length≤c0) (h:spec_paOf.f k l0=some (r1,r2)) :
  Calls Try.prog 42 #[.slice A0 l0.length c0] w fun e w'=>∃ v1_:Value,e=.returned (.agg #[.int .i64 r1,v1_])∧Kd.R k70 70 w' w.heap.size (fun _=>True) v1_ r2∧Below w.heap.size w w':=by
 have hu30:=Try.underlying30
 have hu70:=Try.underlying70
 have HR0:=zz31 hr0
 have HC0:=zz31 hc0
 clear hr0 hc0
 have HB:=zz31 (Below.refl w.heap.size w)
 have H:(spec_paOf.l0 k l0 (l0.length:Int) 0 (l0.length:Int) ([]:List (S70)))=some (r1,r2):=h
 clear h
 have H':=zz31 H
 clear H
 go_enter Try.func42,Try.ntmps42
 go_wp2_with (first | ((with_reducible refine gate_dst (N:=2) rfl ?_);refine box_event ?hg (N:=2) ?hd (cs:=#[.int .i64 0,.slice none 0 0]) (t:=30) ?hr ?_;(case hd=>rfl);(case hg=>rfl);(case hr=>first | (go_simp;done) | (go_simp;rfl));intro gb151 hg w2 hbox hb;have n0_:=zz31 (zz4 (by repeat first | exact HB.out | apply zz2 | apply zz0 | apply zz1) hb);have n1_:=zz31 (hbox);have n2_:=zz31 ((by rw [hg];exact (zz5 (by repeat first | exact HB.out | apply zz2 | apply zz0 | apply zz1)):w.heap.size≤gb151));have n3_:=zz31 ((by rw [hg];exact (zz5 (by repeat first | exact HB.out | apply zz2 | apply zz0 | apply zz1)):w.heap.size≤gb151));clear HB;have HB:=n0_;have BK151:=n1_;have GW151:=n2_;have GE151:=n3_;clear n0_ n1_ n2_ n3_;clear hb hbox hg) | ((with_reducible refine gate_dst (N:=3) rfl ?_);refine box_event ?hg (N:=3) ?hd (cs:=#[.int .i64 0,.slice none 0 0]) (t:=30) ?hr ?_;(case hd=>rfl);(case hg=>rfl);(case hr=>first | (go_simp;done) | (go_simp;rfl));intro gb152 hg w3 hbox hb;have n0_:=zz31 (zz11 (g:=gb151) (o:=.cells #[.int .i64 0,.slice none 0 0] 30 (0,0)) (by (with_reducible repeat (first | refine zz6 ?_ _ | refine zz7 ?_ | refine zz8 ?_ _));exact BK151.out) hb);have n1_:=zz31 (zz4 (by repeat first | exact HB.out | apply zz2 | apply zz0 | apply zz1 | refine zz3 ?_ GE151.out) hb);have n2_:=zz31 (hbox);have n3_:=zz31 ((by rw [hg];exact (zz5 (by repeat first | exact HB.out | apply zz2 | apply zz0 | apply zz1 | refine zz3 ?_ GE151.out)):w.heap.size≤gb152));have n4_:=zz31 ((by rw [hg];exact (zz5 (by repeat first | exact HB.out | apply zz2 | apply zz0 | apply zz1 | refine zz3 ?_ GE151.out)):w.heap.size≤gb152));have n5_:=zz31 ((by rw [hg];exact Nat.ne_of_lt (blk_lt (g:=gb151) (o:=.cells #[.int .i64 0,.slice none 0 0] 30 (0,0)) (by (with_reducible repeat (first | refine zz6 ?_ _ | refine zz7 ?_ | refine zz8 ?_ _));exact BK151.out)):gb151 ≠ gb152));have n6_:=zz31 ((by rw [hg];exact Nat.ne_of_gt (blk_lt (g:=gb151) (o:=.cells #[.int .i64 0,.slice none 0 0] 30 (0,0)) (by (with_reducible repeat (first | refine zz6 ?_ _ | refine zz7 ?_ | refine zz8 ?_ _));exact BK151.out)):gb152 ≠ gb151));clear BK151;clear HB;have BK151:=n0_;have HB:=n1_;have BK152:=n2_;have GW152:=n3_;have GE152:=n4_;have NB151_152:=n5_;have NB152_151:=n6_;clear n0_ n1_ n2_ n3_ n4_ n5_ n6_;clear hb hbox hg;have hnb4:=NB152_151.out;have hnc4:=NB151_152.out;have hcz5_0:w3.cell? ⟨gb152,0,none⟩=some (.int .i64 0):=(zz9 BK152.out 0).trans rfl;have hcz5_1:w3.cell? ⟨gb152,1,none⟩=some (.slice none 0 0):=(zz9 BK152.out 1).trans rfl;have hfz5_0:=zz10 BK152.out 0;have hfz5_1:=zz10 BK152.out 1))
 go_loopg [11] k (fun kq v11 w'=>∃ (x11_1:Int) (x153001_1:List (S70)) (u153001:Value),v11=.int .i64 x11_1∧Aside0 (spec_paOf.l0 kq l0 (l0.length:Int) x11_1 (l0.length:Int) x153001_1=some (r1,r2))∧Aside0 (kq≤k)∧Aside0 (Kd.R k70 70 w' w.heap.size (fun _=>True) u153001 x153001_1)∧Aside0 (w'.heap[gb151]?=some (.cells #[.int .i64 0,(.slice none 0 0)] 30 (0,0)))∧Aside0 (w'.heap[gb152]?=some (.cells #[.int .i64 (l0.length:Int),u153001] 30 (0,0)))∧Aside0 (Below w.heap.size w w'))
 case atStart=>exact ⟨(0),(([]:List (S70))),(.slice none 0 0),(by first | rfl | (simp;done) | (simp [*];done)),H',⟨Nat.le_refl _⟩,⟨by first | exact Kd.R_nil _ _ _ _ _ | exact Kd.N_nil _ _ _ _ _ | exact Kd.V_nil _ _ _ _ _ | exact Kd.Q_nil _ _ _ _ _ | exact Kd.S_nil _ _ _ _ _⟩,⟨by (with_reducible repeat (first | refine zz6 ?_ _ | refine zz7 ?_ | refine zz8 ?_ _));refine blk_far ?_ NB151_152.out _;(with_reducible repeat (first | refine zz6 ?_ _ | refine zz7 ?_ | refine zz8 ?_ _));refine blk_far ?_ NB151_152.out _;(with_reducible repeat (first | refine zz6 ?_ _ | refine zz7 ?_ | refine zz8 ?_ _));exact BK151.out⟩,⟨by (with_reducible repeat (first | refine zz6 ?_ _ | refine zz7 ?_ | refine zz8 ?_ _));refine blk_put (cs:=#[.int .i64 (l0.length:Int),.slice none 0 0]) ?_ 1 _ rfl;(with_reducible repeat (first | refine zz6 ?_ _ | refine zz7 ?_ | refine zz8 ?_ _));refine blk_put (cs:=#[.int .i64 0,.slice none 0 0]) ?_ 0 _ rfl;(with_reducible repeat (first | refine zz6 ?_ _ | refine zz7 ?_ | refine zz8 ?_ _));exact BK152.out⟩,⟨by repeat first | exact HB.out | apply zz2 | apply zz0 | apply zz1 | refine zz3 ?_ GE151.out | refine zz3 ?_ GE152.out⟩⟩
 case round =>
  clear H'
  try clear p2
  try clear c4
  try clear hcz5_0
  try clear hcz5_1
  try clear hfz5_0
  try clear hfz5_1
  obtain ⟨x11_1,x153001_1,u153001,rfl,HA,HK1,HO_153001,BK151,BK152,HB⟩:=hrel
  cases gk with
  | zero=>exact absurd HA.out (by simp [spec_paOf.l0])
  | succ k1 =>
   have H:=HA.out
   clear HA
   simp only [spec_paOf.l0] at H
   by_cases c6:x11_1 < (l0.length:Int)
   ·rw [if_pos c6] at H
    have c6b0:decide (x11_1 < (l0.length:Int))=true:=decide_eq_true c6
    clear c6
    have H':=zz31 H
    clear H
    go_wp2
    go_loopg [5] k1 (fun kq v5 w'=>∃ (x5_2:Int) (x153001_2:List (S70)) (u153001:Value),v5=.int .i64 x5_2∧Aside0 (spec_paOf.l1 kq l0 x11_1 x5_2 (l0.length:Int) x11_1 (l0.length:Int) x153001_2=some (r1,r2))∧Aside0 (kq≤k1)∧Aside0 (Kd.R k70 70 w' w.heap.size (fun _=>True) u153001 x153001_2)∧Aside0 (w'.heap[gb151]?=some (.cells #[.int .i64 0,(.slice none 0 0)] 30 (0,0)))∧Aside0 (w'.heap[gb152]?=some (.cells #[.int .i64 (l0.length:Int),u153001] 30 (0,0)))∧Aside0 (Below w.heap.size w w'))
    case atStart=>exact ⟨(wrap64 (x11_1+1)),(x153001_1),(u153001),(by first | rfl | (simp;done) | (simp [*];done)),H',⟨Nat.le_refl _⟩,⟨by (with_reducible repeat (first | apply zz12 | apply zz13 | apply zz14));exact HO_153001.out⟩,⟨by (with_reducible repeat (first | refine zz6 ?_ _ | refine zz7 ?_ | refine zz8 ?_ _));exact BK151.out⟩,⟨by (with_reducible repeat (first | refine zz6 ?_ _ | refine zz7 ?_ | refine zz8 ?_ _));exact BK152.out⟩,⟨by repeat first | exact HB.out | apply zz2 | apply zz0 | apply zz1 | refine zz3 ?_ GE151.out | refine zz3 ?_ GE152.out⟩⟩
    case round =>
     clear H'
     try clear p2
     try clear c4
     try clear c6
     try clear c6b0
     try clear p6
     try clear hcz5_0
     try clear hcz5_1
     try clear hfz5_0
     try clear hfz5_1
     try clear p2
     obtain ⟨x5_2,x153001_2,u153001,rfl,HA,HK2,HO_153001,BK151,BK152,HB⟩:=hrel
     cases gk with
     | zero=>exact absurd HA.out (by simp [spec_paOf.l1])
     | succ k2 =>
      have H:=HA.out
      clear HA
      simp only [spec_paOf.l1] at H
      by_cases c7:x5_2 < (l0.length:Int)
      ·rw [if_pos c7] at H
       have c7b0:decide (x5_2 < (l0.length:Int))=true:=decide_eq_true c7
       clear c7
       by_cases c8:0≤x11_1
       ·rw [if_pos c8] at H
        have c8b0:decide (0≤x11_1)=true:=decide_eq_true c8
        clear c8
        by_cases c9:x11_1 < (l0.length:Int)
        ·rw [if_pos c9] at H
         have c9b0:decide (x11_1 < (l0.length:Int))=true:=decide_eq_true c9
         clear c9
         by_cases c10:0≤x5_2
         ·rw [if_pos c10] at H
          have c10b0:decide (0≤x5_2)=true:=decide_eq_true c10
          clear c10
          by_cases c11:x5_2 < ((rd_L4 l0 x11_1).length:Int)
          ·rw [if_pos c11] at H
           have c11b0:decide (x5_2 < ((rd_L4 l0 x11_1).length:Int))=true:=decide_eq_true c11
           clear c11
           obtain ⟨bq12,hbq12⟩:∃ b_:Bool,b_=(rdOf false (rd_L4 l0 x11_1) x5_2):=⟨_,rfl⟩
           replace H:(if bq12=true then (if x153001_2.length < 8796093022208 then (spec_paOf.l1 k2 l0 x11_1 (wrap64 (x5_2+1)) (l0.length:Int) x11_1 (l0.length:Int) (x153001_2 ++ [(⟨x11_1,x5_2⟩:S70)])) else (none)) else (spec_paOf.l1 k2 l0 x11_1 (wrap64 (x5_2+1)) (l0.length:Int) x11_1 (l0.length:Int) x153001_2))=some (r1,r2):=by rw [← hbq12] at H;exact H
           have Nbq12:=zz31 hbq12
           clear hbq12
           by_cases c13:bq12=true
           ·subst c13
            have H1:(if x153001_2.length < 8796093022208 then (spec_paOf.l1 k2 l0 x11_1 (wrap64 (x5_2+1)) (l0.length:Int) x11_1 (l0.length:Int) (x153001_2 ++ [(⟨x11_1,x5_2⟩:S70)])) else (none))=some (r1,r2):=by rw [if_pos rfl] at H;exact H
            clear H
            have H:=H1
            clear H1
            by_cases c14:x153001_2.length < 8796093022208
            ·rw [if_pos c14] at H
             have LMc14:=zz31 c14
             clear c14
             obtain ⟨y155,hy155⟩:∃ y_:List (S70),y_=(x153001_2 ++ [(⟨x11_1,x5_2⟩:S70)]):=⟨_,rfl⟩
             replace H:(spec_paOf.l1 k2 l0 x11_1 (wrap64 (x5_2+1)) (l0.length:Int) x11_1 (l0.length:Int) y155)=some (r1,r2):=by first | (rw [hy155];with_reducible exact H) | (have H2_:=(Option.bind_some _ _).symm.trans H;rw [hy155];with_reducible exact H2_) | (have H2_:=(Option.bind_some _ _).symm.trans H;with_reducible exact H2_) | with_reducible exact H | (rw [hy155];exact H) | exact H
             have Ny155:=zz31 hy155
             clear hy155
             have H':=zz31 H
             clear H
             have p153:0≤(x11_1:Int):=zz29 (by first | (with_reducible assumption) | assumption)
             have q153:x11_1 < (l0.length:Int):=zz29 (by first | (with_reducible assumption) | assumption)
             obtain ⟨ad153,A153_0,c153_0,e153,hx153_0,hl153_0,hi153_0⟩:=at_L4 HR0.out x11_1 p153 q153
             cases e153
             try replace hx153_0:=(HB.out.cell (World.block_lt_of_cell? w _ hx153_0)).trans hx153_0
             have HR153_0:=zz31 hi153_0
             have HC153_0:=zz31 hl153_0
             clear hi153_0 hl153_0
             replace p153:=eq_true p153
             replace q153:=eq_true q153
             have p154:0≤(x5_2:Int):=zz29 (by first | (with_reducible assumption) | assumption)
             have q154:x5_2 < ((rd_L4 l0 x11_1).length:Int):=zz29 (by first | (with_reducible assumption) | assumption)
             obtain ⟨ad154,e154,hx154_0⟩:=Kd.at_bool HR153_0.out x5_2 p154 q154
             (try rw [← Nbq12.out] at hx154_0)
             cases e154
             try replace hx154_0:=(HB.out.cell (World.block_lt_of_cell? w _ hx154_0)).trans hx154_0
             replace p154:=eq_true p154
             replace q154:=eq_true q154
             have hnb15:=NB152_151.out
             have hnc15:=NB151_152.out
             have hcz16_0:wr.cell? ⟨gb152,0,none⟩=some (.int .i64 (l0.length:Int)):=(zz9 BK152.out 0).trans rfl
             have hcz16_1:wr.cell? ⟨gb152,1,none⟩=some (u153001):=(zz9 BK152.out 1).trans rfl
             have hfz16_0:=zz10 BK152.out 0
             have hfz16_1:=zz10 BK152.out 1
             go_wp2_with (first | ((with_reducible refine gate_builtin (b:=.append) (xs:=#[.tmp 30,.tmp 34]) rfl ?_);at_builtin;refine Kd.R_append k70 (w0:=w) w.heap.size rfl (.tmp 30) (.tmp 34) 28 70 (.agg #[(.int .i64 0),(.int .i64 0)]) 16 rfl Try.underlying28 info70 rfl (by decide) (by omega) u153001 x153001_2 (⟨x11_1,x5_2⟩:S70) [.int .i64 x11_1,.int .i64 x5_2] (fun _=>True) (fun _=>False) rfl rfl ?aP (fun _ hk=>hk.elim) ?aF ?aO ?aB ?aS ?aL ?_;(case aP=>exact k70_mkM _ _ _ (⟨x11_1,x5_2⟩:S70));(case aB=>exact (by repeat first | exact HB.out | apply zz2 | apply zz0 | apply zz1 | refine zz3 ?_ GE151.out | refine zz3 ?_ GE152.out));(case aF=>exact (fun _ _=>trivial));(case aO=>exact (by (with_reducible repeat (first | apply zz12 | apply zz13 | apply zz14));exact HO_153001.out));(case aS=>exact (zz5 (by repeat first | exact HB.out | apply zz2 | apply zz0 | apply zz1 | refine zz3 ?_ GE151.out | refine zz3 ?_ GE152.out)));(case aL=>have:=LMc14.out;omega);intro v156 w17 ho hb hg hat;rw [← Ny155.out] at ho;have n0_:=zz31 (blk_grown (g:=gb151) (o:=.cells #[.int .i64 0,.slice none 0 0] 30 (0,0)) (by (with_reducible repeat (first | refine zz6 ?_ _ | refine zz7 ?_ | refine zz8 ?_ _));exact BK151.out) hg (Kd.R_ne HO_153001.out BK151.out (by decide)));have n1_:=zz31 (blk_grown (g:=gb152) (o:=.cells #[.int .i64 (l0.length:Int),u153001] 30 (0,0)) (by (with_reducible repeat (first | refine zz6 ?_ _ | refine zz7 ?_ | refine zz8 ?_ _));exact BK152.out) hg (Kd.R_ne HO_153001.out BK152.out (by decide)));have n2_:=zz31 (hb);have n3_:=zz31 (ho);clear BK151;clear BK152;clear HB;clear HO_153001;have BK151:=n0_;have BK152:=n1_;have HB:=n2_;have HO157:=n3_;clear n0_ n1_ n2_ n3_;clear ho hb hg hat;obtain ⟨Ao18,co18,eo18⟩:=Kd.R_slice HO157.out;subst eo18;have hcz19_0:w17.cell? ⟨gb152,0,none⟩=some (.int .i64 (l0.length:Int)):=(zz9 BK152.out 0).trans rfl;have hcz19_1:w17.cell? ⟨gb152,1,none⟩=some (u153001):=(zz9 BK152.out 1).trans rfl;have hfz19_0:=zz10 BK152.out 0;have hfz19_1:=zz10 BK152.out 1))
             go_roundg k2
             case measure=>have:=HK1.out;have:=HK2.out;omega
             case rel=>exact ⟨(wrap64 (x5_2+1)),(y155),(.slice Ao18 y155.length co18),(by first | rfl | (simp;done) | (simp [*];done)),H',⟨by have:=HK1.out;have:=HK2.out;omega⟩,⟨by (with_reducible repeat (first | apply zz12 | apply zz13 | apply zz14));exact Kd.R_mono (Kd.R_far (p:=⟨gb152,1,none⟩) (Kd.R_types HO157.out BK152.out (by decide)) (fun _ hk=>hk.2) (.slice Ao18 y155.length co18)) (fun _ hk=>trivial)⟩,⟨by (with_reducible repeat (first | refine zz6 ?_ _ | refine zz7 ?_ | refine zz8 ?_ _));refine blk_far ?_ NB151_152.out _;(with_reducible repeat (first | refine zz6 ?_ _ | refine zz7 ?_ | refine zz8 ?_ _));exact BK151.out⟩,⟨by (with_reducible repeat (first | refine zz6 ?_ _ | refine zz7 ?_ | refine zz8 ?_ _));refine blk_put (cs:=#[.int .i64 (l0.length:Int),u153001]) ?_ 1 _ rfl;(with_reducible repeat (first | refine zz6 ?_ _ | refine zz7 ?_ | refine zz8 ?_ _));exact BK152.out⟩,⟨by repeat first | exact HB.out | apply zz2 | apply zz0 | apply zz1 | refine zz3 ?_ GE151.out | refine zz3 ?_ GE152.out⟩⟩
            ·rw [if_neg c14] at H
             exact absurd H (by simp)
           ·replace c13:=Bool.eq_false_iff.mpr c13
            subst c13
            have H1:(spec_paOf.l1 k2 l0 x11_1 (wrap64 (x5_2+1)) (l0.length:Int) x11_1 (l0.length:Int) x153001_2)=some (r1,r2):=by rw [if_neg (show ¬ (false=true) by decide)] at H;exact H
            clear H
            have H:=H1
            clear H1
            have H':=zz31 H
            clear H
            have p153:0≤(x11_1:Int):=zz29 (by first | (with_reducible assumption) | assumption)
            have q153:x11_1 < (l0.length:Int):=zz29 (by first | (with_reducible assumption) | assumption)
            obtain ⟨ad153,A153_0,c153_0,e153,hx153_0,hl153_0,hi153_0⟩:=at_L4 HR0.out x11_1 p153 q153
            cases e153
            try replace hx153_0:=(HB.out.cell (World.block_lt_of_cell? w _ hx153_0)).trans hx153_0
            have HR153_0:=zz31 hi153_0
            have HC153_0:=zz31 hl153_0
            clear hi153_0 hl153_0
            replace p153:=eq_true p153
            replace q153:=eq_true q153
            have p154:0≤(x5_2:Int):=zz29 (by first | (with_reducible assumption) | assumption)
            have q154:x5_2 < ((rd_L4 l0 x11_1).length:Int):=zz29 (by first | (with_reducible assumption) | assumption)
            obtain ⟨ad154,e154,hx154_0⟩:=Kd.at_bool HR153_0.out x5_2 p154 q154
            (try rw [← Nbq12.out] at hx154_0)
            cases e154
            try replace hx154_0:=(HB.out.cell (World.block_lt_of_cell? w _ hx154_0)).trans hx154_0
            replace p154:=eq_true p154
            replace q154:=eq_true q154
            go_wp2
            go_roundg k2
            case measure=>have:=HK1.out;have:=HK2.out;omega
            case rel=>exact ⟨(wrap64 (x5_2+1)),(x153001_2),(u153001),(by first | rfl | (simp;done) | (simp [*];done)),H',⟨by have:=HK1.out;have:=HK2.out;omega⟩,⟨by (with_reducible repeat (first | apply zz12 | apply zz13 | apply zz14));exact HO_153001.out⟩,⟨by (with_reducible repeat (first | refine zz6 ?_ _ | refine zz7 ?_ | refine zz8 ?_ _));exact BK151.out⟩,⟨by (with_reducible repeat (first | refine zz6 ?_ _ | refine zz7 ?_ | refine zz8 ?_ _));exact BK152.out⟩,⟨by repeat first | exact HB.out | apply zz2 | apply zz0 | apply zz1 | refine zz3 ?_ GE151.out | refine zz3 ?_ GE152.out⟩⟩
          ·rw [if_neg c11] at H
           exact absurd H (by simp)
         ·rw [if_neg c10] at H
          exact absurd H (by simp)
        ·rw [if_neg c9] at H
         exact absurd H (by simp)
       ·rw [if_neg c8] at H
        exact absurd H (by simp)
      ·rw [if_neg c7] at H
       have c7b0:decide (x5_2 < (l0.length:Int))=false:=decide_eq_false c7
       clear c7
       have H':=zz31 H
       clear H
       go_wp2
       go_roundg k2
       case measure=>have:=HK1.out;have:=HK2.out;omega
       case rel=>exact ⟨(wrap64 (x11_1+1)),(x153001_2),(u153001),(by first | rfl | (simp;done) | (simp [*];done)),H',⟨by have:=HK1.out;have:=HK2.out;omega⟩,⟨by (with_reducible repeat (first | apply zz12 | apply zz13 | apply zz14));exact HO_153001.out⟩,⟨by (with_reducible repeat (first | refine zz6 ?_ _ | refine zz7 ?_ | refine zz8 ?_ _));exact BK151.out⟩,⟨by (with_reducible repeat (first | refine zz6 ?_ _ | refine zz7 ?_ | refine zz8 ?_ _));exact BK152.out⟩,⟨by repeat first | exact HB.out | apply zz2 | apply zz0 | apply zz1 | refine zz3 ?_ GE151.out | refine zz3 ?_ GE152.out⟩⟩
   ·rw [if_neg c6] at H
    have c6b0:decide (x11_1 < (l0.length:Int))=false:=decide_eq_false c6
    clear c6
    simp only [Option.some.injEq,Prod.mk.injEq] at H
    obtain ⟨rfl,rfl⟩:=H
    have hnb20:=NB152_151.out
    have hnc20:=NB151_152.out
    have hcz21_0:wr.cell? ⟨gb152,0,none⟩=some (.int .i64 (l0.length:Int)):=(zz9 BK152.out 0).trans rfl
    have hcz21_1:wr.cell? ⟨gb152,1,none⟩=some (u153001):=(zz9 BK152.out 1).trans rfl
    have hfz21_0:=zz10 BK152.out 0
    have hfz21_1:=zz10 BK152.out 1
    have hcz22_0:wr.cell? ⟨gb151,0,none⟩=some (.int .i64 0):=(zz9 BK151.out 0).trans rfl
    have hcz22_1:wr.cell? ⟨gb151,1,none⟩=some (.slice none 0 0):=(zz9 BK151.out 1).trans rfl
    have hfz22_0:=zz10 BK151.out 0
    have hfz22_1:=zz10 BK151.out 1
    obtain ⟨Ao23,co23,eo23⟩:=Kd.R_slice HO_153001.out
    subst eo23
    go_wp2
    refine bodyPost_ret (results_cell_row rfl _ _ gb151 30 #[.int .i64 (l0.length:Int),.slice Ao23 x153001_1.length co23] (0,0) _ rfl (by (with_reducible repeat (first | refine zz6 ?_ _ | refine zz7 ?_ | refine zz8 ?_ _));refine blk_put (cs:=#[.int .i64 (l0.length:Int),.slice none 0 0]) ?_ 1 _ rfl;(with_reducible repeat (first | refine zz6 ?_ _ | refine zz7 ?_ | refine zz8 ?_ _));refine blk_put (cs:=#[.int .i64 0,.slice none 0 0]) ?_ 0 _ rfl;(with_reducible repeat (first | refine zz6 ?_ _ | refine zz7 ?_ | refine zz8 ?_ _));exact BK151.out) Try.underlying30 rfl (by kernel_rfl)) rfl ?_
    exact ⟨_,by first | rfl | (simp [errW_none,errW_some] <;> rfl) | (simp [*,errW_none,errW_some] <;> rfl),by (with_reducible repeat (first | apply zz12 | apply zz13 | apply zz14));exact Kd.R_mono (Kd.R_far (p:=⟨gb151,1,none⟩) (Kd.R_far (p:=⟨gb151,0,none⟩) (Kd.R_types HO_153001.out BK151.out (by decide)) (fun _ hk=>hk.2) (.int .i64 (l0.length:Int))) (fun _ hk=>hk.2) (.slice Ao23 x153001_1.length co23)) (fun _ hk=>trivial),by repeat first | exact HB.out | apply zz2 | apply zz0 | apply zz1 | refine zz3 ?_ GE151.out | refine zz3 ?_ GE152.out⟩

end Go.Proofs.Ytoedkkoafidalaa.P
