-- PRINTED by print.py (a twelfth state) out of the translation. Not trusted: Lean checks it.
import Derived.Test.YtoedkkoafidalaaPx0
import Derived.Test.YtoedkkoafidalaaPx2
namespace Go.Proofs.Ytoedkkoafidalaa.P
open Go.RowKit Go.Proofs.YtoedkkoafidalaaW.PrintWords Go.Proofs.YtoedkkoafidalaaW.PrintLast Go.Proofs.YtoedkkoafidalaaW.PrintMore
open Bool renaming true → T, false → F
attribute [local go_sem] max2_int min2_int max_two min_two max_three min_three max_four min_four   -- for this text's walks alone
set_option linter.unusedVariables false
set_option linter.unusedSimpArgs false

/-! ### spec_paGood: function 46 -/
mutual
def spec_paGood.j0:Nat→Bool→Int→List (S70)→Option (Bool)
 | 0,_,_,_=>none
 | k+1,x21,x136000,x136001=>if x21=true then (some false) else (spec_paGood.l0 k x136001 (x136001.length:Int) 0 x136000 x136001)
def spec_paGood.l0:Nat→List (S70)→Int→Int→Int→List (S70)→Option (Bool)
 | 0,_,_,_,_,_=>none
 | k+1,x23,x24,x25,x136000,x136001=>if x25 < x24 then (if 0≤x25 then (if x25 < (x23.length:Int) then ((spec_l1In.f ((rd_T70 x23 x25).f0) 0 (wrap64 (x136000 - 1))).bind fun t139=>(if t139=true then ((spec_l1In.f ((rd_T70 x23 x25).f1) (wrap64 (((rd_T70 x23 x25).f0)+1)) (wrap64 (x136000 - 1))).bind fun t140=>(if t140=true then (if x25 > 0 then (if 0≤(wrap64 (x25 - 1)) then (if (wrap64 (x25 - 1)) < (x136001.length:Int) then ((spec_paLess.f ((rd_T70 x136001 (wrap64 (x25 - 1))).f0) ((rd_T70 x136001 (wrap64 (x25 - 1))).f1) ((rd_T70 x23 x25).f0) ((rd_T70 x23 x25).f1)).bind fun t142=>(if t142=true then (spec_paGood.l0 k x23 x24 (wrap64 (x25+1)) x136000 x136001) else (some false))) else (none)) else (none)) else (spec_paGood.l0 k x23 x24 (wrap64 (x25+1)) x136000 x136001)) else (some false))) else (some false))) else (none)) else (none)) else (some true)
end
def spec_paGood.f (k:Nat) (a0_0:Int) (l0_1:List (S70)):Option (Bool):=(spec_paPeople.f a0_0).bind fun t136=>(if t136=true then (spec_paGood.j0 k (decide ((l0_1.length:Int) > (wrap64 (Int.tdiv (wrap64 (a0_0 * (wrap64 (a0_0 - 1)))) 2)))) a0_0 l0_1) else (spec_paGood.j0 k true a0_0 l0_1))
theorem spec_paGood.mono_l:∀ k,(∀ y0 y1 y2,LeO (spec_paGood.j0 k y0 y1 y2) (spec_paGood.j0 (k+1) y0 y1 y2))∧(∀ y0 y1 y2 y3 y4,LeO (spec_paGood.l0 k y0 y1 y2 y3 y4) (spec_paGood.l0 (k+1) y0 y1 y2 y3 y4))
 | 0=>⟨fun _ _ _ r h=>by simp [spec_paGood.j0] at h,fun _ _ _ _ _ r h=>by simp [spec_paGood.l0] at h⟩
 | k+1=>by
  obtain ⟨ih0,ih1⟩:=spec_paGood.mono_l k
  refine ⟨?_,?_⟩
  ·intro y0 y1 y2
   unfold spec_paGood.j0
   repeat' first
   | (with_reducible exact ih0 _ _ _)
   | (with_reducible exact ih1 _ _ _ _ _)
   | (with_reducible exact LeO.refl _)
   | (with_reducible exact LeO.none _)
   | (with_reducible refine LeO.ite ?_ ?_)
   | (with_reducible refine LeO.bind ?_ (fun _=>?_))
   | exact ih0 _ _ _
   | exact ih1 _ _ _ _ _
   | exact LeO.none _
   | refine LeO.ite ?_ ?_
   | refine LeO.bind ?_ (fun _=>?_)
  ·intro y0 y1 y2 y3 y4
   unfold spec_paGood.l0
   repeat' first
   | (with_reducible exact ih0 _ _ _)
   | (with_reducible exact ih1 _ _ _ _ _)
   | (with_reducible exact LeO.refl _)
   | (with_reducible exact LeO.none _)
   | (with_reducible refine LeO.ite ?_ ?_)
   | (with_reducible refine LeO.bind ?_ (fun _=>?_))
   | exact ih0 _ _ _
   | exact ih1 _ _ _ _ _
   | exact LeO.none _
   | refine LeO.ite ?_ ?_
   | refine LeO.bind ?_ (fun _=>?_)
theorem spec_paGood.mono:∀ a0 a1 k,LeO (spec_paGood.f k a0 a1) (spec_paGood.f (k+1) a0 a1):=by
 intro a0 a1 k
 obtain ⟨ih0,ih1⟩:=spec_paGood.mono_l k
 unfold spec_paGood.f
 repeat' first
   | (with_reducible exact ih0 _ _ _)
   | (with_reducible exact ih1 _ _ _ _ _)
   | (with_reducible exact LeO.refl _)
   | (with_reducible exact LeO.none _)
   | (with_reducible refine LeO.ite ?_ ?_)
   | (with_reducible refine LeO.bind ?_ (fun _=>?_))
   | exact ih0 _ _ _
   | exact ih1 _ _ _ _ _
   | exact LeO.none _
   | refine LeO.ite ?_ ?_
   | refine LeO.bind ?_ (fun _=>?_)
def spec_paGood.T6:Bool × List (List Nat × List Nat):=(true,[([],[]),([0],[0]),([],[]),([2],[2]),([3],[3]),([1,4],[1,4]),([5],[5]),([6,5],[6]),([7],[7]),([8,7],[7,8]),([7],[7]),([10,7],[7,10]),([11,7],[7,11]),([7],[7]),([13,7],[7,13]),([14,7],[7,14]),([9,12,15,7,7],[7,9,12,15]),([16,7],[7,16]),([7,17],[7,17]),([18,16],[18]),([19],[19]),([20,19],[19,20]),([21,19,19],[19,21]),([22],[22]),([23,22],[22,23]),([22],[22]),([25,22],[22,25]),([24,26,22],[22,24,26]),([27,22],[22,27]),([22],[22]),([28,29,22,22],[22,28,29]),([30,22],[22,30]),([22,31,19],[19,22,31]),([19,32],[19,32])])
def spec_paGood.B6:List Nat:=[0,1,0,4,12,31,63,127,255,511,255,1279,3327,255,8447,24831,65535,131071,262143,524287,1048575,2097151,4194303,8388607,16777215,8388607,41943039,134217727,268435455,8388607,1073741823,2147483647,4294967295,8589934591]
theorem spec_paGood.tab6:rtab .any (opsOf Try.f46 6)=spec_paGood.T6:=by kernel_rfl
theorem spec_paGood.bits6:waitsOk spec_paGood.T6.2 spec_paGood.B6=true:=by kernel_rfl
set_option maxHeartbeats 8000000 in
set_option maxRecDepth 100000 in
theorem spec_paGood.calls (k:Nat) (a0_0:Int) (A0_1:Option Addr) (c0_1:Nat) (l0_1:List (S70)) (r:Bool) (w:World) (hr0_1:Kd.C k70 w A0_1 l0_1.length l0_1) (hc0_1:l0_1.length≤c0_1) (h:spec_paGood.f k a0_0 l0_1=some r) :
  Calls Try.prog 46 #[.agg #[.int .i64 a0_0,.slice A0_1 l0_1.length c0_1]] w fun e w'=>e=.returned (.bool r)∧Below w.heap.size w w':=by
 have hu30:=Try.underlying30
 have hu70:=Try.underlying70
 have HR0_1:=zz31 hr0_1
 have HC0_1:=zz31 hc0_1
 clear hr0_1 hc0_1
 have HB:=zz31 (Below.refl w.heap.size w)
 have H:((spec_paPeople.f a0_0).bind fun t136=>(if t136=true then (spec_paGood.j0 k (decide ((l0_1.length:Int) > (wrap64 (Int.tdiv (wrap64 (a0_0 * (wrap64 (a0_0 - 1)))) 2)))) a0_0 l0_1) else (spec_paGood.j0 k true a0_0 l0_1)))=some r:=h
 clear h
 have HC2:=zz31 H
 clear H
 go_enter Try.func46,Try.ntmps46
 go_upto_region 1 with (first | ((with_reducible refine gate_dst (N:=1) rfl ?_);(try (refine gate_guard (by rfl) ?_;dsimp only));refine box_event ?hg (N:=1) ?hd (cs:=#[.int .i64 a0_0,.slice A0_1 l0_1.length c0_1]) (t:=30) ?hr ?_;(case hd=>rfl);(case hg=>rfl);(case hr=>first | (go_simp;done) | (go_simp;rfl));intro gb135 hg w3 hbox hb;have BK135:=zz31 (hbox);have GW135:=zz31 ((by rw [hg];exact (zz5 (by repeat first | exact HB.out | apply zz2 | apply zz0 | apply zz1)):w.heap.size≤gb135));replace HB:=zz31 (zz4 (by repeat first | exact HB.out | apply zz2 | apply zz0 | apply zz1) hb);have GE135:=GW135;clear hb hbox hg))
 (try simp only [Act.put,zz21,zz22,zz23])
 go_cut [21] (fun v21 wc=>∃ (kq:Nat) (x21_1:Bool),v21=.bool x21_1∧Aside0 (spec_paGood.j0 kq x21_1 a0_0 l0_1=some r)∧Aside0 (kq≤k)∧Aside0 (wc.heap[gb135]?=some (.cells #[.int .i64 a0_0,(.slice A0_1 l0_1.length c0_1)] 30 (0,0)))∧Aside0 (Below w.heap.size w wc))
 case first =>
  have H:=HC2.out
  clear HC2
  replace H:=zz30.mp H
  obtain ⟨t136,A40,H⟩:=H
  replace H:(if t136=true then (spec_paGood.j0 k (decide ((l0_1.length:Int) > (wrap64 (Int.tdiv (wrap64 (a0_0 * (wrap64 (a0_0 - 1)))) 2)))) a0_0 l0_1) else (spec_paGood.j0 k true a0_0 l0_1))=some r:=H
  have A4:=zz31 A40
  clear A40
  by_cases c5:t136=true
  ·subst c5
   have H1:(spec_paGood.j0 k (decide ((l0_1.length:Int) > (wrap64 (Int.tdiv (wrap64 (a0_0 * (wrap64 (a0_0 - 1)))) 2)))) a0_0 l0_1)=some r:=by rw [if_pos rfl] at H;exact H
   clear H
   have H:=H1
   clear H1
   have H':=zz31 H
   clear H
   have hcz6_0:w3.cell? ⟨gb135,0,none⟩=some (.int .i64 a0_0):=(zz9 BK135.out 0).trans rfl
   have hcz6_1:w3.cell? ⟨gb135,1,none⟩=some (.slice A0_1 l0_1.length c0_1):=(zz9 BK135.out 1).trans rfl
   have hfz6_0:=zz10 BK135.out 0
   have hfz6_1:=zz10 BK135.out 1
   go_wp2_with (first | ((with_reducible refine gate_callee (f:=73) rfl ?_);refine goesL_ (some 7) rfl rfl Try.func73 (by kernel_rfl) rfl #[.int .i64 a0_0] rfl (by (try simp only [zz26,zz27,zz28]);first | done | rfl | (simp only [zz24,zz25];rfl)) ?_;(with_reducible refine (spec_paPeople.calls a0_0 true _ A4.out).mono ?_);rintro e w' ⟨rfl,⟨nd,rfl⟩⟩;refine ⟨_,rfl,?_⟩))
   go_meet
   case rel=>exact ⟨_,(decide ((l0_1.length:Int) > (wrap64 (Int.tdiv (wrap64 (a0_0 * (wrap64 (a0_0 - 1)))) 2)))),(by first | rfl | (simp;done) | (simp [*];done)),H',⟨by first | omega | exact Nat.le_refl _⟩,⟨by (with_reducible repeat (first | refine zz6 ?_ _ | refine zz7 ?_ | refine zz8 ?_ _));exact BK135.out⟩,⟨by repeat first | exact HB.out | apply zz2 | apply zz0 | apply zz1 | refine zz3 ?_ GE135.out⟩⟩
  ·replace c5:=Bool.eq_false_iff.mpr c5
   subst c5
   have H1:(spec_paGood.j0 k true a0_0 l0_1)=some r:=by rw [if_neg (show ¬ (false=true) by decide)] at H;exact H
   clear H
   have H:=H1
   clear H1
   have H':=zz31 H
   clear H
   have hcz7_0:w3.cell? ⟨gb135,0,none⟩=some (.int .i64 a0_0):=(zz9 BK135.out 0).trans rfl
   have hcz7_1:w3.cell? ⟨gb135,1,none⟩=some (.slice A0_1 l0_1.length c0_1):=(zz9 BK135.out 1).trans rfl
   have hfz7_0:=zz10 BK135.out 0
   have hfz7_1:=zz10 BK135.out 1
   go_wp2_with (first | ((with_reducible refine gate_callee (f:=73) rfl ?_);refine goesL_ (some 7) rfl rfl Try.func73 (by kernel_rfl) rfl #[.int .i64 a0_0] rfl (by (try simp only [zz26,zz27,zz28]);first | done | rfl | (simp only [zz24,zz25];rfl)) ?_;(with_reducible refine (spec_paPeople.calls a0_0 false _ A4.out).mono ?_);rintro e w' ⟨rfl,⟨nd,rfl⟩⟩;refine ⟨_,rfl,?_⟩))
   go_meet
   case rel=>exact ⟨_,(true),(by first | rfl | (simp;done) | (simp [*];done)),H',⟨by first | omega | exact Nat.le_refl _⟩,⟨by (with_reducible repeat (first | refine zz6 ?_ _ | refine zz7 ?_ | refine zz8 ?_ _));exact BK135.out⟩,⟨by repeat first | exact HB.out | apply zz2 | apply zz0 | apply zz1 | refine zz3 ?_ GE135.out⟩⟩
 case rest =>
  clear HC2
  try clear p2
  try clear c4
  try clear c5
  try clear p6
  try clear c7
  try clear hcz6_0
  try clear hcz6_1
  try clear hcz7_0
  try clear hcz7_1
  try clear hfz6_0
  try clear hfz6_1
  try clear hfz7_0
  try clear hfz7_1
  obtain ⟨kq,x21_1,rfl,HA,HJ1,BK135,HB⟩:=hcut
  cases kq with
  | zero=>exact absurd HA.out (by simp [spec_paGood.j0])
  | succ kj1 =>
   have H:=HA.out
   clear HA
   simp only [spec_paGood.j0] at H
   by_cases c8:x21_1=true
   ·subst c8
    have H1:(some false)=some r:=by rw [if_pos rfl] at H;exact H
    clear H
    have H:=H1
    clear H1
    obtain rfl:=Option.some.inj H
    go_wp2
    go_ret
    exact ⟨by first | rfl | (simp [errW_none,errW_some] <;> rfl) | (simp [*,errW_none,errW_some] <;> rfl),by repeat first | exact HB.out | apply zz2 | apply zz0 | apply zz1 | refine zz3 ?_ GE135.out⟩
   ·replace c8:=Bool.eq_false_iff.mpr c8
    subst c8
    have H1:(spec_paGood.l0 kj1 l0_1 (l0_1.length:Int) 0 a0_0 l0_1)=some r:=by rw [if_neg (show ¬ (false=true) by decide)] at H;exact H
    clear H
    have H:=H1
    clear H1
    have H':=zz31 H
    clear H
    have hcz9_0:wc.cell? ⟨gb135,0,none⟩=some (.int .i64 a0_0):=(zz9 BK135.out 0).trans rfl
    have hcz9_1:wc.cell? ⟨gb135,1,none⟩=some (.slice A0_1 l0_1.length c0_1):=(zz9 BK135.out 1).trans rfl
    have hfz9_0:=zz10 BK135.out 0
    have hfz9_1:=zz10 BK135.out 1
    go_wp2
    go_loopg [25] kj1 (fun kq v25 w'=>∃ (x25_2:Int),v25=.int .i64 x25_2∧Aside0 (spec_paGood.l0 kq l0_1 (l0_1.length:Int) x25_2 a0_0 l0_1=some r)∧Aside0 (kq≤kj1)∧Aside0 (w'.heap[gb135]?=some (.cells #[.int .i64 a0_0,(.slice A0_1 l0_1.length c0_1)] 30 (0,0)))∧Aside0 (Below w.heap.size w w'))
    case atStart=>exact ⟨(0),(by first | rfl | (simp;done) | (simp [*];done)),H',⟨Nat.le_refl _⟩,⟨by (with_reducible repeat (first | refine zz6 ?_ _ | refine zz7 ?_ | refine zz8 ?_ _));exact BK135.out⟩,⟨by repeat first | exact HB.out | apply zz2 | apply zz0 | apply zz1 | refine zz3 ?_ GE135.out⟩⟩
    case round =>
     clear H'
     try clear p2
     try clear c4
     try clear c5
     try clear p6
     try clear c7
     try clear c8
     try clear hcz6_0
     try clear hcz6_1
     try clear hcz7_0
     try clear hcz7_1
     try clear hcz9_0
     try clear hcz9_1
     try clear hfz6_0
     try clear hfz6_1
     try clear hfz7_0
     try clear hfz7_1
     try clear hfz9_0
     try clear hfz9_1
     try clear p2
     try clear p6
     obtain ⟨x25_2,rfl,HA,HK2,BK135,HB⟩:=hrel
     cases gk with
     | zero=>exact absurd HA.out (by simp [spec_paGood.l0])
     | succ k2 =>
      have H:=HA.out
      clear HA
      simp only [spec_paGood.l0] at H
      by_cases c10:x25_2 < (l0_1.length:Int)
      ·rw [if_pos c10] at H
       have c10b0:decide (x25_2 < (l0_1.length:Int))=true:=decide_eq_true c10
       clear c10
       by_cases c11:0≤x25_2
       ·rw [if_pos c11] at H
        have c11b0:decide (0≤x25_2)=true:=decide_eq_true c11
        clear c11
        by_cases c12:x25_2 < (l0_1.length:Int)
        ·rw [if_pos c12] at H
         have c12b0:decide (x25_2 < (l0_1.length:Int))=true:=decide_eq_true c12
         clear c12
         replace H:=zz30.mp H
         obtain ⟨t139,A130,H⟩:=H
         replace H:(if t139=true then ((spec_l1In.f ((rd_T70 l0_1 x25_2).f1) (wrap64 (((rd_T70 l0_1 x25_2).f0)+1)) (wrap64 (a0_0 - 1))).bind fun t140=>(if t140=true then (if x25_2 > 0 then (if 0≤(wrap64 (x25_2 - 1)) then (if (wrap64 (x25_2 - 1)) < (l0_1.length:Int) then ((spec_paLess.f ((rd_T70 l0_1 (wrap64 (x25_2 - 1))).f0) ((rd_T70 l0_1 (wrap64 (x25_2 - 1))).f1) ((rd_T70 l0_1 x25_2).f0) ((rd_T70 l0_1 x25_2).f1)).bind fun t142=>(if t142=true then (spec_paGood.l0 k2 l0_1 (l0_1.length:Int) (wrap64 (x25_2+1)) a0_0 l0_1) else (some false))) else (none)) else (none)) else (spec_paGood.l0 k2 l0_1 (l0_1.length:Int) (wrap64 (x25_2+1)) a0_0 l0_1)) else (some false))) else (some false))=some r:=H
         have A13:=zz31 A130
         clear A130
         by_cases c14:t139=true
         ·subst c14
          have H1:((spec_l1In.f ((rd_T70 l0_1 x25_2).f1) (wrap64 (((rd_T70 l0_1 x25_2).f0)+1)) (wrap64 (a0_0 - 1))).bind fun t140=>(if t140=true then (if x25_2 > 0 then (if 0≤(wrap64 (x25_2 - 1)) then (if (wrap64 (x25_2 - 1)) < (l0_1.length:Int) then ((spec_paLess.f ((rd_T70 l0_1 (wrap64 (x25_2 - 1))).f0) ((rd_T70 l0_1 (wrap64 (x25_2 - 1))).f1) ((rd_T70 l0_1 x25_2).f0) ((rd_T70 l0_1 x25_2).f1)).bind fun t142=>(if t142=true then (spec_paGood.l0 k2 l0_1 (l0_1.length:Int) (wrap64 (x25_2+1)) a0_0 l0_1) else (some false))) else (none)) else (none)) else (spec_paGood.l0 k2 l0_1 (l0_1.length:Int) (wrap64 (x25_2+1)) a0_0 l0_1)) else (some false)))=some r:=by rw [if_pos rfl] at H;exact H
          clear H
          have H:=H1
          clear H1
          replace H:=zz30.mp H
          obtain ⟨t140,A150,H⟩:=H
          replace H:(if t140=true then (if x25_2 > 0 then (if 0≤(wrap64 (x25_2 - 1)) then (if (wrap64 (x25_2 - 1)) < (l0_1.length:Int) then ((spec_paLess.f ((rd_T70 l0_1 (wrap64 (x25_2 - 1))).f0) ((rd_T70 l0_1 (wrap64 (x25_2 - 1))).f1) ((rd_T70 l0_1 x25_2).f0) ((rd_T70 l0_1 x25_2).f1)).bind fun t142=>(if t142=true then (spec_paGood.l0 k2 l0_1 (l0_1.length:Int) (wrap64 (x25_2+1)) a0_0 l0_1) else (some false))) else (none)) else (none)) else (spec_paGood.l0 k2 l0_1 (l0_1.length:Int) (wrap64 (x25_2+1)) a0_0 l0_1)) else (some false))=some r:=H
          have A15:=zz31 A150
          clear A150
          by_cases c16:t140=true
          ·subst c16
           have H1:(if x25_2 > 0 then (if 0≤(wrap64 (x25_2 - 1)) then (if (wrap64 (x25_2 - 1)) < (l0_1.length:Int) then ((spec_paLess.f ((rd_T70 l0_1 (wrap64 (x25_2 - 1))).f0) ((rd_T70 l0_1 (wrap64 (x25_2 - 1))).f1) ((rd_T70 l0_1 x25_2).f0) ((rd_T70 l0_1 x25_2).f1)).bind fun t142=>(if t142=true then (spec_paGood.l0 k2 l0_1 (l0_1.length:Int) (wrap64 (x25_2+1)) a0_0 l0_1) else (some false))) else (none)) else (none)) else (spec_paGood.l0 k2 l0_1 (l0_1.length:Int) (wrap64 (x25_2+1)) a0_0 l0_1))=some r:=by rw [if_pos rfl] at H;exact H
           clear H
           have H:=H1
           clear H1
           by_cases c17:x25_2 > 0
           ·rw [if_pos c17] at H
            have c17b0:decide (0 < x25_2)=true:=decide_eq_true c17
            clear c17
            obtain ⟨ji18,hji18⟩:∃ j_:Int,(wrap64 (x25_2 - 1))=j_:=⟨_,rfl⟩
            replace H:(if 0≤(ji18) then (if (ji18) < (l0_1.length:Int) then ((spec_paLess.f ((rd_T70 l0_1 (ji18)).f0) ((rd_T70 l0_1 (ji18)).f1) ((rd_T70 l0_1 x25_2).f0) ((rd_T70 l0_1 x25_2).f1)).bind fun t142=>(if t142=true then (spec_paGood.l0 k2 l0_1 (l0_1.length:Int) (wrap64 (x25_2+1)) a0_0 l0_1) else (some false))) else (none)) else (none))=some r:=by first | (rw [hji18] at H;exact H) | (simp only [hji18] at H ⊢;exact H)
            (try rw [hji18] at A13)
            (try rw [hji18] at A15)
            have hji18w:(IntKind.i64.wrap (x25_2 - 1))=ji18:=(i64_w _).trans hji18
            by_cases c19:0≤(ji18)
            ·rw [if_pos c19] at H
             have c19b0:decide (0≤(ji18))=true:=decide_eq_true c19
             clear c19
             by_cases c20:(ji18) < (l0_1.length:Int)
             ·rw [if_pos c20] at H
              have c20b0:decide ((ji18) < (l0_1.length:Int))=true:=decide_eq_true c20
              clear c20
              replace H:=zz30.mp H
              obtain ⟨t142,A210,H⟩:=H
              replace H:(if t142=true then (spec_paGood.l0 k2 l0_1 (l0_1.length:Int) (wrap64 (x25_2+1)) a0_0 l0_1) else (some false))=some r:=H
              have A21:=zz31 A210
              clear A210
              by_cases c22:t142=true
              ·subst c22
               have H1:(spec_paGood.l0 k2 l0_1 (l0_1.length:Int) (wrap64 (x25_2+1)) a0_0 l0_1)=some r:=by rw [if_pos rfl] at H;exact H
               clear H
               have H:=H1
               clear H1
               have H':=zz31 H
               clear H
               have p137:0≤(x25_2:Int):=zz29 (by first | (with_reducible assumption) | assumption)
               have q137:x25_2 < (l0_1.length:Int):=zz29 (by first | (with_reducible assumption) | assumption)
               obtain ⟨ad137,e137,hx137_0,hx137_1⟩:=at_T70 HR0_1.out x25_2 p137 q137
               cases e137
               try replace hx137_0:=(HB.out.cell (World.block_lt_of_cell? w _ hx137_0)).trans hx137_0
               try replace hx137_1:=(HB.out.cell (World.block_lt_of_cell? w _ hx137_1)).trans hx137_1
               replace p137:=eq_true p137
               replace q137:=eq_true q137
               try go_wp2_with (first | ((with_reducible refine gate_dst (N:=4) rfl ?_);(try (refine gate_guard (by rfl) ?_;dsimp only));refine box_event ?hg (N:=4) ?hd (cs:=#[.int .i64 0,.int .i64 0]) (t:=70) ?hr ?_;(case hd=>rfl);(case hg=>rfl);(case hr=>first | (go_simp;done) | (go_simp;rfl));intro gb138 hg w23 hbox hb;have BK138:=zz31 (hbox);have GW138:=zz31 ((by rw [hg];exact (zz5 (by repeat first | exact HB.out | apply zz2 | apply zz0 | apply zz1 | refine zz3 ?_ GE135.out)):w.heap.size≤gb138));replace HB:=zz31 (zz4 (by repeat first | exact HB.out | apply zz2 | apply zz0 | apply zz1 | refine zz3 ?_ GE135.out) hb);have GE138:=GW138;have NB135_138:=zz31 ((by rw [hg];exact Nat.ne_of_lt (blk_lt (g:=gb135) (o:=.cells #[.int .i64 a0_0,.slice (some ad137) l0_1.length c0_1] 30 (0,0)) (by (with_reducible repeat (first | refine zz6 ?_ _ | refine zz7 ?_ | refine zz8 ?_ _));exact BK135.out)):gb135 ≠ gb138));have NB138_135:=zz31 ((by rw [hg];exact Nat.ne_of_gt (blk_lt (g:=gb135) (o:=.cells #[.int .i64 a0_0,.slice (some ad137) l0_1.length c0_1] 30 (0,0)) (by (with_reducible repeat (first | refine zz6 ?_ _ | refine zz7 ?_ | refine zz8 ?_ _));exact BK135.out)):gb138 ≠ gb135));replace BK135:=zz31 (zz11 (g:=gb135) (o:=.cells #[.int .i64 a0_0,.slice (some ad137) l0_1.length c0_1] 30 (0,0)) (by (with_reducible repeat (first | refine zz6 ?_ _ | refine zz7 ?_ | refine zz8 ?_ _));exact BK135.out) hb);clear hb hbox hg;have hnb24:=NB138_135.out;have hnc24:=NB135_138.out;have hcz25_0:w23.cell? ⟨gb138,0,none⟩=some (.int .i64 0):=(zz9 BK138.out 0).trans rfl;have hcz25_1:w23.cell? ⟨gb138,1,none⟩=some (.int .i64 0):=(zz9 BK138.out 1).trans rfl;have hfz25_0:=zz10 BK138.out 0;have hfz25_1:=zz10 BK138.out 1))
               have n0_:Aside0 (((w23.setCell ⟨gb138,0,none⟩ (.int .i64 ((rd_T70 l0_1 x25_2).f0))).setCell ⟨gb138,1,none⟩ (.int .i64 ((rd_T70 l0_1 x25_2).f1))).heap[gb135]?=some (.cells #[.int .i64 a0_0,.slice (some ad137) l0_1.length c0_1] 30 (0,0))):=⟨by (with_reducible repeat (first | refine zz6 ?_ _ | refine zz7 ?_ | refine zz8 ?_ _));refine blk_far ?_ NB135_138.out _;(with_reducible repeat (first | refine zz6 ?_ _ | refine zz7 ?_ | refine zz8 ?_ _));refine blk_far ?_ NB135_138.out _;(with_reducible repeat (first | refine zz6 ?_ _ | refine zz7 ?_ | refine zz8 ?_ _));exact BK135.out⟩
               have n1_:Aside0 (((w23.setCell ⟨gb138,0,none⟩ (.int .i64 ((rd_T70 l0_1 x25_2).f0))).setCell ⟨gb138,1,none⟩ (.int .i64 ((rd_T70 l0_1 x25_2).f1))).heap[gb138]?=some (.cells #[.int .i64 ((rd_T70 l0_1 x25_2).f0),.int .i64 ((rd_T70 l0_1 x25_2).f1)] 70 (0,0))):=⟨by (with_reducible repeat (first | refine zz6 ?_ _ | refine zz7 ?_ | refine zz8 ?_ _));refine blk_put (cs:=#[.int .i64 ((rd_T70 l0_1 x25_2).f0),.int .i64 0]) ?_ 1 _ rfl;(with_reducible repeat (first | refine zz6 ?_ _ | refine zz7 ?_ | refine zz8 ?_ _));refine blk_put (cs:=#[.int .i64 0,.int .i64 0]) ?_ 0 _ rfl;(with_reducible repeat (first | refine zz6 ?_ _ | refine zz7 ?_ | refine zz8 ?_ _));exact BK138.out⟩
               have n2_:Aside0 (Below w.heap.size w ((w23.setCell ⟨gb138,0,none⟩ (.int .i64 ((rd_T70 l0_1 x25_2).f0))).setCell ⟨gb138,1,none⟩ (.int .i64 ((rd_T70 l0_1 x25_2).f1)))):=⟨by repeat first | exact HB.out | apply zz2 | apply zz0 | apply zz1 | refine zz3 ?_ GE135.out | refine zz3 ?_ GE138.out⟩
               (try clear BK135)
               (try clear BK138)
               (try clear HB)
               generalize ((w23.setCell ⟨gb138,0,none⟩ (.int .i64 ((rd_T70 l0_1 x25_2).f0))).setCell ⟨gb138,1,none⟩ (.int .i64 ((rd_T70 l0_1 x25_2).f1)))=w26 at n0_ n1_ n2_ ⊢
               have BK135:=n0_
               have BK138:=n1_
               have HB:=n2_
               clear n0_ n1_ n2_
               replace BK135:=zz31 (zz7 BK135.out)
               replace BK138:=zz31 (zz7 BK138.out)
               replace HB:=zz31 (zz1 HB.out)
               have p141:0≤((ji18):Int):=zz29 (by first | (with_reducible assumption) | assumption)
               have q141:(ji18) < (l0_1.length:Int):=zz29 (by first | (with_reducible assumption) | assumption)
               obtain ⟨ad141,e141,hx141_0,hx141_1⟩:=at_T70 HR0_1.out (ji18) p141 q141
               have hw141_1:=hx141_1
               have hw141_0:=hx141_0
               obtain rfl:ad137=ad141:=(by injection e141)
               try replace hx141_0:=(HB.out.cell (World.block_lt_of_cell? w _ hx141_0)).trans hx141_0
               try replace hx141_1:=(HB.out.cell (World.block_lt_of_cell? w _ hx141_1)).trans hx141_1
               replace p141:=eq_true p141
               replace q141:=eq_true q141
               refine start_ (n:=34) (S:=fun w'=>w'.cell? ⟨gb138,0,none⟩=some (.int .i64 ((rd_T70 l0_1 x25_2).f0))∧w'.cell? ⟨gb138,1,none⟩=some (.int .i64 ((rd_T70 l0_1 x25_2).f1))∧w'.cell? ⟨gb135,0,none⟩=some (.int .i64 a0_0)∧w'.cell? ⟨gb135,1,none⟩=some (.slice (some ad137) l0_1.length c0_1)∧w'.cell? (ad137.add (((ji18)).toNat * 2))=some (.int .i64 ((rd_T70 l0_1 (ji18)).f0))∧w'.cell? ⟨(ad137.add (((ji18)).toNat * 2)).block,(ad137.add (((ji18)).toNat * 2)).off+1,none⟩=some (.int .i64 ((rd_T70 l0_1 (ji18)).f1))) (ds:=[]) #[F,F,F,F,F,F,F,F,F,F,F,F,F,F,F,F,F,F,F,F,F,F,F,F,F,F,F,F,F,F,F,F,F,F] (by kernel_rfl) rfl rfl ⟨(zz9 BK138.out 0).trans rfl,(zz9 BK138.out 1).trans rfl,(zz9 BK135.out 0).trans rfl,(zz9 BK135.out 1).trans rfl,((HB.out.cell (World.block_lt_of_cell? w _ hw141_0)).trans hw141_0),((HB.out.cell (World.block_lt_of_cell? w _ hw141_1)).trans hw141_1)⟩ (fun hHeld=>?_);refine with_tabW spec_paGood.tab6 spec_paGood.bits6 (fun HT_ HW_=>?_)
               generalize w26.drew=w27 at BK135 BK138 HB hx141_0 hx141_1 hHeld ⊢
               refine zz32 (v:=?_) (a':=?_) 0 (some 30) #[T,F,F,F,F,F,F,F,F,F,F,F,F,F,F,F,F,F,F,F,F,F,F,F,F,F,F,F,F,F,F,F,F,F] rfl rfl HT_.out (by kernel_rfl) (fun _ _ _ h=>h) (by rfl) (fun w'=>?_) ?_ ?_;rotate_left;(go_simp;with_reducible rfl);rotate_left;(simp only [Act.put,zz21,zz22,zz23,i64_w,i32_w];rfl)
               refine zz32 (v:=?_) (a':=?_) 2 (some 32) #[T,F,T,F,F,F,F,F,F,F,F,F,F,F,F,F,F,F,F,F,F,F,F,F,F,F,F,F,F,F,F,F,F,F] rfl rfl HT_.out (by kernel_rfl) (fun _ _ _ h=>h) (by rfl) (fun w'=>?_) ?_ ?_;rotate_left;(go_simp;with_reducible rfl);rotate_left;(simp only [Act.put,zz21,zz22,zz23,i64_w,i32_w];rfl)
               refine zz33 (v:=?_) (a':=?_) 1 (some 31) #[T,T,T,F,F,F,F,F,F,F,F,F,F,F,F,F,F,F,F,F,F,F,F,F,F,F,F,F,F,F,F,F,F,F] rfl rfl HT_.out HW_.out (by kernel_rfl) (fun _ _ _ h=>h) (by rfl) ?_ hHeld ?_ ?_;rotate_left;(rintro w' ⟨s0,s1,s2,s3,s4,s5⟩;go_simp;with_reducible rfl);rotate_left;(simp only [Act.put,zz21,zz22,zz23,i64_w,i32_w];rfl)
               refine zz33 (v:=?_) (a':=?_) 3 (some 33) #[T,T,T,T,F,F,F,F,F,F,F,F,F,F,F,F,F,F,F,F,F,F,F,F,F,F,F,F,F,F,F,F,F,F] rfl rfl HT_.out HW_.out (by kernel_rfl) (fun _ _ _ h=>h) (by rfl) ?_ hHeld ?_ ?_;rotate_left;(rintro w' ⟨s0,s1,s2,s3,s4,s5⟩;go_simp;with_reducible rfl);rotate_left;(simp only [Act.put,zz21,zz22,zz23,i64_w,i32_w];rfl)
               refine zz32 (v:=?_) (a':=?_) 4 (some 34) #[T,T,T,T,T,F,F,F,F,F,F,F,F,F,F,F,F,F,F,F,F,F,F,F,F,F,F,F,F,F,F,F,F,F] rfl rfl HT_.out (by kernel_rfl) (fun _ _ _ h=>h) (by rfl) (fun w'=>?_) ?_ ?_;rotate_left;(go_simp;with_reducible rfl);rotate_left;(simp only [Act.put,zz21,zz22,zz23,i64_w,i32_w];rfl)
               refine one_ (i:=5) (N:=some 35) #[T,T,T,T,T,T,F,F,F,F,F,F,F,F,F,F,F,F,F,F,F,F,F,F,F,F,F,F,F,F,F,F,F,F] rfl rfl (one_of HT_.out (by kernel_rfl)) (by decide) (fun K hK=>?_)
               refine goes_ Try.func74 (by kernel_rfl) rfl #[.int .i64 ((rd_T70 l0_1 x25_2).f0),.int .i64 0,.int .i64 (wrap64 (a0_0 - 1))] (by rfl) rfl rfl (by (try simp only [zz26,zz27,zz28]);first | done | rfl | (simp only [zz24,zz25];rfl)) ?_
               with_reducible refine (spec_l1In.calls ((rd_T70 l0_1 x25_2).f0) 0 (wrap64 (a0_0 - 1)) true _ A13.out).mono ?_
               rintro e w' ⟨rfl,⟨nd,rfl⟩⟩
               refine ⟨_,rfl,?_⟩
               refine hK.out _ _ ⟨(zz9 BK138.out 0).trans rfl,(zz9 BK138.out 1).trans rfl,(zz9 BK135.out 0).trans rfl,(zz9 BK135.out 1).trans rfl,((HB.out.cell (World.block_lt_of_cell? w _ hw141_0)).trans hw141_0),((HB.out.cell (World.block_lt_of_cell? w _ hw141_1)).trans hw141_1)⟩ (fun hHeld=>?_)
               clear hK K
               refine norm_ (a':=?_) ?_ ?_;rotate_left;(show Act.put _ (some 35) _=_;simp only [Act.put,zz21,zz22,zz23,i64_w,i32_w];rfl)
               refine zz32 (v:=?_) (a':=?_) 6 (some 36) #[T,T,T,T,T,T,T,F,F,F,F,F,F,F,F,F,F,F,F,F,F,F,F,F,F,F,F,F,F,F,F,F,F,F] rfl rfl HT_.out (by kernel_rfl) (fun _ _ _ h=>h) (by rfl) (fun w'=>?_) ?_ ?_;rotate_left;(go_simp;with_reducible rfl);rotate_left;(simp only [Act.put,zz21,zz22,zz23,i64_w,i32_w];rfl)
               refine zz32 (v:=?_) (a':=?_) 7 (some 37) #[T,T,T,T,T,T,T,T,F,F,F,F,F,F,F,F,F,F,F,F,F,F,F,F,F,F,F,F,F,F,F,F,F,F] rfl rfl HT_.out (by kernel_rfl) (fun _ _ _ h=>h) (by rfl) (fun w'=>?_) ?_ ?_;rotate_left;(go_simp;with_reducible rfl);rotate_left;(simp only [Act.put,zz21,zz22,zz23,i64_w,i32_w];rfl)
               refine zz32 (v:=?_) (a':=?_) 8 (some 38) #[T,T,T,T,T,T,T,T,T,F,F,F,F,F,F,F,F,F,F,F,F,F,F,F,F,F,F,F,F,F,F,F,F,F] rfl rfl HT_.out (by kernel_rfl) (fun _ _ _ h=>h) (by rfl) (fun w'=>?_) ?_ ?_;rotate_left;(go_simp;with_reducible rfl);rotate_left;(simp only [Act.put,zz21,zz22,zz23,i64_w,i32_w];rfl)
               refine zz32 (v:=?_) (a':=?_) 10 (some 40) #[T,T,T,T,T,T,T,T,T,F,T,F,F,F,F,F,F,F,F,F,F,F,F,F,F,F,F,F,F,F,F,F,F,F] rfl rfl HT_.out (by kernel_rfl) (fun _ _ _ h=>h) (by rfl) (fun w'=>?_) ?_ ?_;rotate_left;(go_simp;with_reducible rfl);rotate_left;(simp only [Act.put,zz21,zz22,zz23,i64_w,i32_w];rfl)
               refine zz32 (v:=?_) (a':=?_) 13 (some 43) #[T,T,T,T,T,T,T,T,T,F,T,F,F,T,F,F,F,F,F,F,F,F,F,F,F,F,F,F,F,F,F,F,F,F] rfl rfl HT_.out (by kernel_rfl) (fun _ _ _ h=>h) (by rfl) (fun w'=>?_) ?_ ?_;rotate_left;(go_simp;with_reducible rfl);rotate_left;(simp only [Act.put,zz21,zz22,zz23,i64_w,i32_w];rfl)
               refine zz33 (v:=?_) (a':=?_) 9 (some 39) #[T,T,T,T,T,T,T,T,T,T,T,F,F,T,F,F,F,F,F,F,F,F,F,F,F,F,F,F,F,F,F,F,F,F] rfl rfl HT_.out HW_.out (by kernel_rfl) (fun _ _ _ h=>h) (by rfl) ?_ hHeld ?_ ?_;rotate_left;(rintro w' ⟨s0,s1,s2,s3,s4,s5⟩;go_simp;with_reducible rfl);rotate_left;(simp only [Act.put,zz21,zz22,zz23,i64_w,i32_w];rfl)
               refine zz33 (v:=?_) (a':=?_) 11 (some 41) #[T,T,T,T,T,T,T,T,T,T,T,T,F,T,F,F,F,F,F,F,F,F,F,F,F,F,F,F,F,F,F,F,F,F] rfl rfl HT_.out HW_.out (by kernel_rfl) (fun _ _ _ h=>h) (by rfl) ?_ hHeld ?_ ?_;rotate_left;(rintro w' ⟨s0,s1,s2,s3,s4,s5⟩;go_simp;with_reducible rfl);rotate_left;(simp only [Act.put,zz21,zz22,zz23,i64_w,i32_w];rfl)
               refine zz32 (v:=?_) (a':=?_) 12 (some 42) #[T,T,T,T,T,T,T,T,T,T,T,T,T,T,F,F,F,F,F,F,F,F,F,F,F,F,F,F,F,F,F,F,F,F] rfl rfl HT_.out (by kernel_rfl) (fun _ _ _ h=>h) (by rfl) (fun w'=>?_) ?_ ?_;rotate_left;(go_simp;with_reducible rfl);rotate_left;(simp only [Act.put,zz21,zz22,zz23,i64_w,i32_w];rfl)
               refine zz33 (v:=?_) (a':=?_) 14 (some 44) #[T,T,T,T,T,T,T,T,T,T,T,T,T,T,T,F,F,F,F,F,F,F,F,F,F,F,F,F,F,F,F,F,F,F] rfl rfl HT_.out HW_.out (by kernel_rfl) (fun _ _ _ h=>h) (by rfl) ?_ hHeld ?_ ?_;rotate_left;(rintro w' ⟨s0,s1,s2,s3,s4,s5⟩;go_simp;with_reducible rfl);rotate_left;(simp only [Act.put,zz21,zz22,zz23,i64_w,i32_w];rfl)
               refine zz32 (v:=?_) (a':=?_) 15 (some 45) #[T,T,T,T,T,T,T,T,T,T,T,T,T,T,T,T,F,F,F,F,F,F,F,F,F,F,F,F,F,F,F,F,F,F] rfl rfl HT_.out (by kernel_rfl) (fun _ _ _ h=>h) (by rfl) (fun w'=>?_) ?_ ?_;rotate_left;(go_simp;with_reducible rfl);rotate_left;(simp only [Act.put,zz21,zz22,zz23,i64_w,i32_w];rfl)
               refine one_ (i:=16) (N:=some 46) #[T,T,T,T,T,T,T,T,T,T,T,T,T,T,T,T,T,F,F,F,F,F,F,F,F,F,F,F,F,F,F,F,F,F] rfl rfl (one_of HT_.out (by kernel_rfl)) (by decide) (fun K hK=>?_)
               refine goes_ Try.func74 (by kernel_rfl) rfl #[.int .i64 ((rd_T70 l0_1 x25_2).f1),.int .i64 (wrap64 (((rd_T70 l0_1 x25_2).f0)+1)),.int .i64 (wrap64 (a0_0 - 1))] (by rfl) rfl rfl (by (try simp only [zz26,zz27,zz28]);first | done | rfl | (simp only [zz24,zz25];rfl)) ?_
               with_reducible refine (spec_l1In.calls ((rd_T70 l0_1 x25_2).f1) (wrap64 (((rd_T70 l0_1 x25_2).f0)+1)) (wrap64 (a0_0 - 1)) true _ A15.out).mono ?_
               rintro e w' ⟨rfl,⟨nd,rfl⟩⟩
               refine ⟨_,rfl,?_⟩
               refine hK.out _ _ ⟨(zz9 BK138.out 0).trans rfl,(zz9 BK138.out 1).trans rfl,(zz9 BK135.out 0).trans rfl,(zz9 BK135.out 1).trans rfl,((HB.out.cell (World.block_lt_of_cell? w _ hw141_0)).trans hw141_0),((HB.out.cell (World.block_lt_of_cell? w _ hw141_1)).trans hw141_1)⟩ (fun hHeld=>?_)
               clear hK K
               refine norm_ (a':=?_) ?_ ?_;rotate_left;(show Act.put _ (some 46) _=_;simp only [Act.put,zz21,zz22,zz23,i64_w,i32_w];rfl)
               refine zz32 (v:=?_) (a':=?_) 17 (some 47) #[T,T,T,T,T,T,T,T,T,T,T,T,T,T,T,T,T,T,F,F,F,F,F,F,F,F,F,F,F,F,F,F,F,F] rfl rfl HT_.out (by kernel_rfl) (fun _ _ _ h=>h) (by rfl) (fun w'=>?_) ?_ ?_;rotate_left;(go_simp;with_reducible rfl);rotate_left;(simp only [Act.put,zz21,zz22,zz23,i64_w,i32_w];rfl)
               refine zz32 (v:=?_) (a':=?_) 18 (some 48) #[T,T,T,T,T,T,T,T,T,T,T,T,T,T,T,T,T,T,T,F,F,F,F,F,F,F,F,F,F,F,F,F,F,F] rfl rfl HT_.out (by kernel_rfl) (fun _ _ _ h=>h) (by rfl) (fun w'=>?_) ?_ ?_;rotate_left;(go_simp;with_reducible rfl);rotate_left;(simp only [Act.put,zz21,zz22,zz23,i64_w,i32_w];rfl)
               refine zz32 (v:=?_) (a':=?_) 19 (some 49) #[T,T,T,T,T,T,T,T,T,T,T,T,T,T,T,T,T,T,T,T,F,F,F,F,F,F,F,F,F,F,F,F,F,F] rfl rfl HT_.out (by kernel_rfl) (fun _ _ _ h=>h) (by rfl) (fun w'=>?_) ?_ ?_;rotate_left;(go_simp;with_reducible rfl);rotate_left;(simp only [Act.put,zz21,zz22,zz23,i64_w,i32_w];rfl)
               refine zz32 (v:=?_) (a':=?_) 20 (some 50) #[T,T,T,T,T,T,T,T,T,T,T,T,T,T,T,T,T,T,T,T,T,F,F,F,F,F,F,F,F,F,F,F,F,F] rfl rfl HT_.out (by kernel_rfl) (fun _ _ _ h=>h) (by rfl) (fun w'=>?_) ?_ ?_;rotate_left;(go_simp;with_reducible rfl);rotate_left;(simp only [Act.put,zz21,zz22,zz23,i64_w,i32_w];rfl)
               refine zz32 (v:=?_) (a':=?_) 21 (some 51) #[T,T,T,T,T,T,T,T,T,T,T,T,T,T,T,T,T,T,T,T,T,T,F,F,F,F,F,F,F,F,F,F,F,F] rfl rfl HT_.out (by kernel_rfl) (fun _ _ _ h=>h) (by rfl) (fun w'=>?_) ?_ ?_;rotate_left;(go_simp;with_reducible rfl);rotate_left;(simp only [Act.put,zz21,zz22,zz23,i64_w,i32_w];rfl)
               refine zz32 (v:=?_) (a':=?_) 22 (some 52) #[T,T,T,T,T,T,T,T,T,T,T,T,T,T,T,T,T,T,T,T,T,T,T,F,F,F,F,F,F,F,F,F,F,F] rfl rfl HT_.out (by kernel_rfl) (fun _ _ _ h=>h) (by rfl) (fun w'=>?_) ?_ ?_;rotate_left;(go_simp;with_reducible rfl);rotate_left;(simp only [Act.put,zz21,zz22,zz23,i64_w,i32_w];rfl)
               refine zz32 (v:=?_) (a':=?_) 23 (some 53) #[T,T,T,T,T,T,T,T,T,T,T,T,T,T,T,T,T,T,T,T,T,T,T,T,F,F,F,F,F,F,F,F,F,F] rfl rfl HT_.out (by kernel_rfl) (fun _ _ _ h=>h) (by rfl) (fun w'=>?_) ?_ ?_;rotate_left;(go_simp;with_reducible rfl);rotate_left;(simp only [Act.put,zz21,zz22,zz23,i64_w,i32_w];rfl)
               refine zz32 (v:=?_) (a':=?_) 25 (some 55) #[T,T,T,T,T,T,T,T,T,T,T,T,T,T,T,T,T,T,T,T,T,T,T,T,F,T,F,F,F,F,F,F,F,F] rfl rfl HT_.out (by kernel_rfl) (fun _ _ _ h=>h) (by rfl) (fun w'=>?_) ?_ ?_;rotate_left;(go_simp;with_reducible rfl);rotate_left;(simp only [Act.put,zz21,zz22,zz23,i64_w,i32_w];rfl)
               refine zz32 (v:=?_) (a':=?_) 26 (some 56) #[T,T,T,T,T,T,T,T,T,T,T,T,T,T,T,T,T,T,T,T,T,T,T,T,F,T,T,F,F,F,F,F,F,F] rfl rfl HT_.out (by kernel_rfl) (fun _ _ _ h=>h) (by rfl) (fun w'=>?_) ?_ ?_;rotate_left;(go_simp;with_reducible rfl);rotate_left;(simp only [Act.put,zz21,zz22,zz23,i64_w,i32_w];rfl)
               refine zz33 (v:=?_) (a':=?_) 24 (some 54) #[T,T,T,T,T,T,T,T,T,T,T,T,T,T,T,T,T,T,T,T,T,T,T,T,T,T,T,F,F,F,F,F,F,F] rfl rfl HT_.out HW_.out (by kernel_rfl) (fun _ _ _ h=>h) (by rfl) ?_ hHeld ?_ ?_;rotate_left;(rintro w' ⟨s0,s1,s2,s3,s4,s5⟩;go_simp;with_reducible rfl);rotate_left;(simp only [Act.put,zz21,zz22,zz23,i64_w,i32_w];rfl)
               refine zz32 (v:=?_) (a':=?_) 27 (some 57) #[T,T,T,T,T,T,T,T,T,T,T,T,T,T,T,T,T,T,T,T,T,T,T,T,T,T,T,T,F,F,F,F,F,F] rfl rfl HT_.out (by kernel_rfl) (fun _ _ _ h=>h) (by rfl) (fun w'=>?_) ?_ ?_;rotate_left;(go_simp;with_reducible rfl);rotate_left;(simp only [Act.put,zz21,zz22,zz23,i64_w,i32_w];rfl)
               refine zz33 (v:=?_) (a':=?_) 28 (some 58) #[T,T,T,T,T,T,T,T,T,T,T,T,T,T,T,T,T,T,T,T,T,T,T,T,T,T,T,T,T,F,F,F,F,F] rfl rfl HT_.out HW_.out (by kernel_rfl) (fun _ _ _ h=>h) (by rfl) ?_ hHeld ?_ ?_;rotate_left;(rintro w' ⟨s0,s1,s2,s3,s4,s5⟩;go_simp;with_reducible rfl);rotate_left;(simp only [Act.put,zz21,zz22,zz23,i64_w,i32_w];rfl)
               refine zz33 (v:=?_) (a':=?_) 29 (some 59) #[T,T,T,T,T,T,T,T,T,T,T,T,T,T,T,T,T,T,T,T,T,T,T,T,T,T,T,T,T,T,F,F,F,F] rfl rfl HT_.out HW_.out (by kernel_rfl) (fun _ _ _ h=>h) (by rfl) ?_ hHeld ?_ ?_;rotate_left;(rintro w' ⟨s0,s1,s2,s3,s4,s5⟩;go_simp;with_reducible rfl);rotate_left;(simp only [Act.put,zz21,zz22,zz23,i64_w,i32_w];rfl)
               refine one_ (i:=30) (N:=some 60) #[T,T,T,T,T,T,T,T,T,T,T,T,T,T,T,T,T,T,T,T,T,T,T,T,T,T,T,T,T,T,T,F,F,F] rfl rfl (one_of HT_.out (by kernel_rfl)) (by decide) (fun K hK=>?_)
               refine goes_ Try.func75 (by kernel_rfl) rfl #[.agg #[.int .i64 ((rd_T70 l0_1 (ji18)).f0),.int .i64 ((rd_T70 l0_1 (ji18)).f1)],.agg #[.int .i64 ((rd_T70 l0_1 x25_2).f0),.int .i64 ((rd_T70 l0_1 x25_2).f1)]] (by rfl) rfl rfl (by (try simp only [zz26,zz27,zz28]);first | done | (simp only [hji18];rfl) | rfl | (simp only [zz24,zz25];rfl)) ?_
               with_reducible refine (spec_paLess.calls ((rd_T70 l0_1 (ji18)).f0) ((rd_T70 l0_1 (ji18)).f1) ((rd_T70 l0_1 x25_2).f0) ((rd_T70 l0_1 x25_2).f1) true _ A21.out).mono ?_
               rintro e w28 ⟨rfl,hb⟩
               refine ⟨_,rfl,?_⟩
               replace BK135:=zz31 (zz11 (g:=gb135) (o:=.cells #[.int .i64 a0_0,.slice (some ad137) l0_1.length c0_1] 30 (0,0)) (by (with_reducible repeat (first | refine zz6 ?_ _ | refine zz7 ?_ | refine zz8 ?_ _));exact BK135.out) hb)
               replace BK138:=zz31 (zz11 (g:=gb138) (o:=.cells #[.int .i64 ((rd_T70 l0_1 x25_2).f0),.int .i64 ((rd_T70 l0_1 x25_2).f1)] 70 (0,0)) (by (with_reducible repeat (first | refine zz6 ?_ _ | refine zz7 ?_ | refine zz8 ?_ _));exact BK138.out) hb)
               replace HB:=zz31 (zz4 (by repeat first | exact HB.out | apply zz2 | apply zz0 | apply zz1 | refine zz3 ?_ GE135.out | refine zz3 ?_ GE138.out) hb)
               (try clear hb)
               (try clear hb2)
               (try clear hk)
               (try clear hi)
               refine hK.out _ _ ⟨(zz9 BK138.out 0).trans rfl,(zz9 BK138.out 1).trans rfl,(zz9 BK135.out 0).trans rfl,(zz9 BK135.out 1).trans rfl,((HB.out.cell (World.block_lt_of_cell? w _ hw141_0)).trans hw141_0),((HB.out.cell (World.block_lt_of_cell? w _ hw141_1)).trans hw141_1)⟩ (fun hHeld=>?_)
               clear hK K
               refine norm_ (a':=?_) ?_ ?_;rotate_left;(show Act.put _ (some 60) _=_;simp only [Act.put,zz21,zz22,zz23,i64_w,i32_w];rfl)
               refine zz32 (v:=?_) (a':=?_) 31 (some 61) #[T,T,T,T,T,T,T,T,T,T,T,T,T,T,T,T,T,T,T,T,T,T,T,T,T,T,T,T,T,T,T,T,F,F] rfl rfl HT_.out (by kernel_rfl) (fun _ _ _ h=>h) (by rfl) (fun w'=>?_) ?_ ?_;rotate_left;(go_simp;with_reducible rfl);rotate_left;(simp only [Act.put,zz21,zz22,zz23,i64_w,i32_w];rfl)
               refine zz32 (v:=?_) (a':=?_) 32 (some 62) #[T,T,T,T,T,T,T,T,T,T,T,T,T,T,T,T,T,T,T,T,T,T,T,T,T,T,T,T,T,T,T,T,T,F] rfl rfl HT_.out (by kernel_rfl) (fun _ _ _ h=>h) (by rfl) (fun w'=>?_) ?_ ?_;rotate_left;(go_simp;with_reducible rfl);rotate_left;(simp only [Act.put,zz21,zz22,zz23,i64_w,i32_w];rfl)
               refine zz32 (v:=?_) (a':=?_) 33 (some 63) #[T,T,T,T,T,T,T,T,T,T,T,T,T,T,T,T,T,T,T,T,T,T,T,T,T,T,T,T,T,T,T,T,T,T] rfl rfl HT_.out (by kernel_rfl) (fun _ _ _ h=>h) (by rfl) (fun w'=>?_) ?_ ?_;rotate_left;(go_simp;with_reducible rfl);rotate_left;(simp only [Act.put,zz21,zz22,zz23,i64_w,i32_w];rfl)
               refine done_ (done_of HT_.out (by kernel_rfl)) ?_
               try go_wp2
               go_roundg k2
               case measure=>have:=HJ1.out;have:=HK2.out;omega
               case rel=>exact ⟨(wrap64 (x25_2+1)),(by first | rfl | (simp;done) | (simp [*];done)),H',⟨by have:=HJ1.out;have:=HK2.out;omega⟩,⟨by (with_reducible repeat (first | refine zz6 ?_ _ | refine zz7 ?_ | refine zz8 ?_ _));exact BK135.out⟩,⟨by repeat first | exact HB.out | apply zz2 | apply zz0 | apply zz1 | refine zz3 ?_ GE135.out | refine zz3 ?_ GE138.out⟩⟩
              ·replace c22:=Bool.eq_false_iff.mpr c22
               subst c22
               have H1:(some false)=some r:=by rw [if_neg (show ¬ (false=true) by decide)] at H;exact H
               clear H
               have H:=H1
               clear H1
               obtain rfl:=Option.some.inj H
               have p137:0≤(x25_2:Int):=zz29 (by first | (with_reducible assumption) | assumption)
               have q137:x25_2 < (l0_1.length:Int):=zz29 (by first | (with_reducible assumption) | assumption)
               obtain ⟨ad137,e137,hx137_0,hx137_1⟩:=at_T70 HR0_1.out x25_2 p137 q137
               cases e137
               try replace hx137_0:=(HB.out.cell (World.block_lt_of_cell? w _ hx137_0)).trans hx137_0
               try replace hx137_1:=(HB.out.cell (World.block_lt_of_cell? w _ hx137_1)).trans hx137_1
               replace p137:=eq_true p137
               replace q137:=eq_true q137
               try go_wp2_with (first | ((with_reducible refine gate_dst (N:=4) rfl ?_);(try (refine gate_guard (by rfl) ?_;dsimp only));refine box_event ?hg (N:=4) ?hd (cs:=#[.int .i64 0,.int .i64 0]) (t:=70) ?hr ?_;(case hd=>rfl);(case hg=>rfl);(case hr=>first | (go_simp;done) | (go_simp;rfl));intro gb138 hg w29 hbox hb;have BK138:=zz31 (hbox);have GW138:=zz31 ((by rw [hg];exact (zz5 (by repeat first | exact HB.out | apply zz2 | apply zz0 | apply zz1 | refine zz3 ?_ GE135.out)):w.heap.size≤gb138));replace HB:=zz31 (zz4 (by repeat first | exact HB.out | apply zz2 | apply zz0 | apply zz1 | refine zz3 ?_ GE135.out) hb);have GE138:=GW138;have NB135_138:=zz31 ((by rw [hg];exact Nat.ne_of_lt (blk_lt (g:=gb135) (o:=.cells #[.int .i64 a0_0,.slice (some ad137) l0_1.length c0_1] 30 (0,0)) (by (with_reducible repeat (first | refine zz6 ?_ _ | refine zz7 ?_ | refine zz8 ?_ _));exact BK135.out)):gb135 ≠ gb138));have NB138_135:=zz31 ((by rw [hg];exact Nat.ne_of_gt (blk_lt (g:=gb135) (o:=.cells #[.int .i64 a0_0,.slice (some ad137) l0_1.length c0_1] 30 (0,0)) (by (with_reducible repeat (first | refine zz6 ?_ _ | refine zz7 ?_ | refine zz8 ?_ _));exact BK135.out)):gb138 ≠ gb135));replace BK135:=zz31 (zz11 (g:=gb135) (o:=.cells #[.int .i64 a0_0,.slice (some ad137) l0_1.length c0_1] 30 (0,0)) (by (with_reducible repeat (first | refine zz6 ?_ _ | refine zz7 ?_ | refine zz8 ?_ _));exact BK135.out) hb);clear hb hbox hg;have hnb30:=NB138_135.out;have hnc30:=NB135_138.out;have hcz31_0:w29.cell? ⟨gb138,0,none⟩=some (.int .i64 0):=(zz9 BK138.out 0).trans rfl;have hcz31_1:w29.cell? ⟨gb138,1,none⟩=some (.int .i64 0):=(zz9 BK138.out 1).trans rfl;have hfz31_0:=zz10 BK138.out 0;have hfz31_1:=zz10 BK138.out 1))
               have n0_:Aside0 (((w29.setCell ⟨gb138,0,none⟩ (.int .i64 ((rd_T70 l0_1 x25_2).f0))).setCell ⟨gb138,1,none⟩ (.int .i64 ((rd_T70 l0_1 x25_2).f1))).heap[gb135]?=some (.cells #[.int .i64 a0_0,.slice (some ad137) l0_1.length c0_1] 30 (0,0))):=⟨by (with_reducible repeat (first | refine zz6 ?_ _ | refine zz7 ?_ | refine zz8 ?_ _));refine blk_far ?_ NB135_138.out _;(with_reducible repeat (first | refine zz6 ?_ _ | refine zz7 ?_ | refine zz8 ?_ _));refine blk_far ?_ NB135_138.out _;(with_reducible repeat (first | refine zz6 ?_ _ | refine zz7 ?_ | refine zz8 ?_ _));exact BK135.out⟩
               have n1_:Aside0 (((w29.setCell ⟨gb138,0,none⟩ (.int .i64 ((rd_T70 l0_1 x25_2).f0))).setCell ⟨gb138,1,none⟩ (.int .i64 ((rd_T70 l0_1 x25_2).f1))).heap[gb138]?=some (.cells #[.int .i64 ((rd_T70 l0_1 x25_2).f0),.int .i64 ((rd_T70 l0_1 x25_2).f1)] 70 (0,0))):=⟨by (with_reducible repeat (first | refine zz6 ?_ _ | refine zz7 ?_ | refine zz8 ?_ _));refine blk_put (cs:=#[.int .i64 ((rd_T70 l0_1 x25_2).f0),.int .i64 0]) ?_ 1 _ rfl;(with_reducible repeat (first | refine zz6 ?_ _ | refine zz7 ?_ | refine zz8 ?_ _));refine blk_put (cs:=#[.int .i64 0,.int .i64 0]) ?_ 0 _ rfl;(with_reducible repeat (first | refine zz6 ?_ _ | refine zz7 ?_ | refine zz8 ?_ _));exact BK138.out⟩
               have n2_:Aside0 (Below w.heap.size w ((w29.setCell ⟨gb138,0,none⟩ (.int .i64 ((rd_T70 l0_1 x25_2).f0))).setCell ⟨gb138,1,none⟩ (.int .i64 ((rd_T70 l0_1 x25_2).f1)))):=⟨by repeat first | exact HB.out | apply zz2 | apply zz0 | apply zz1 | refine zz3 ?_ GE135.out | refine zz3 ?_ GE138.out⟩
               (try clear BK135)
               (try clear BK138)
               (try clear HB)
               generalize ((w29.setCell ⟨gb138,0,none⟩ (.int .i64 ((rd_T70 l0_1 x25_2).f0))).setCell ⟨gb138,1,none⟩ (.int .i64 ((rd_T70 l0_1 x25_2).f1)))=w32 at n0_ n1_ n2_ ⊢
               have BK135:=n0_
               have BK138:=n1_
               have HB:=n2_
               clear n0_ n1_ n2_
               replace BK135:=zz31 (zz7 BK135.out)
               replace BK138:=zz31 (zz7 BK138.out)
               replace HB:=zz31 (zz1 HB.out)
               have p141:0≤((ji18):Int):=zz29 (by first | (with_reducible assumption) | assumption)
               have q141:(ji18) < (l0_1.length:Int):=zz29 (by first | (with_reducible assumption) | assumption)
               obtain ⟨ad141,e141,hx141_0,hx141_1⟩:=at_T70 HR0_1.out (ji18) p141 q141
               have hw141_1:=hx141_1
               have hw141_0:=hx141_0
               obtain rfl:ad137=ad141:=(by injection e141)
               try replace hx141_0:=(HB.out.cell (World.block_lt_of_cell? w _ hx141_0)).trans hx141_0
               try replace hx141_1:=(HB.out.cell (World.block_lt_of_cell? w _ hx141_1)).trans hx141_1
               replace p141:=eq_true p141
               replace q141:=eq_true q141
               refine start_ (n:=34) (S:=fun w'=>w'.cell? ⟨gb138,0,none⟩=some (.int .i64 ((rd_T70 l0_1 x25_2).f0))∧w'.cell? ⟨gb138,1,none⟩=some (.int .i64 ((rd_T70 l0_1 x25_2).f1))∧w'.cell? ⟨gb135,0,none⟩=some (.int .i64 a0_0)∧w'.cell? ⟨gb135,1,none⟩=some (.slice (some ad137) l0_1.length c0_1)∧w'.cell? (ad137.add (((ji18)).toNat * 2))=some (.int .i64 ((rd_T70 l0_1 (ji18)).f0))∧w'.cell? ⟨(ad137.add (((ji18)).toNat * 2)).block,(ad137.add (((ji18)).toNat * 2)).off+1,none⟩=some (.int .i64 ((rd_T70 l0_1 (ji18)).f1))) (ds:=[]) #[F,F,F,F,F,F,F,F,F,F,F,F,F,F,F,F,F,F,F,F,F,F,F,F,F,F,F,F,F,F,F,F,F,F] (by kernel_rfl) rfl rfl ⟨(zz9 BK138.out 0).trans rfl,(zz9 BK138.out 1).trans rfl,(zz9 BK135.out 0).trans rfl,(zz9 BK135.out 1).trans rfl,((HB.out.cell (World.block_lt_of_cell? w _ hw141_0)).trans hw141_0),((HB.out.cell (World.block_lt_of_cell? w _ hw141_1)).trans hw141_1)⟩ (fun hHeld=>?_);refine with_tabW spec_paGood.tab6 spec_paGood.bits6 (fun HT_ HW_=>?_)
               generalize w32.drew=w33 at BK135 BK138 HB hx141_0 hx141_1 hHeld ⊢
               refine zz32 (v:=?_) (a':=?_) 0 (some 30) #[T,F,F,F,F,F,F,F,F,F,F,F,F,F,F,F,F,F,F,F,F,F,F,F,F,F,F,F,F,F,F,F,F,F] rfl rfl HT_.out (by kernel_rfl) (fun _ _ _ h=>h) (by rfl) (fun w'=>?_) ?_ ?_;rotate_left;(go_simp;with_reducible rfl);rotate_left;(simp only [Act.put,zz21,zz22,zz23,i64_w,i32_w];rfl)
               refine zz32 (v:=?_) (a':=?_) 2 (some 32) #[T,F,T,F,F,F,F,F,F,F,F,F,F,F,F,F,F,F,F,F,F,F,F,F,F,F,F,F,F,F,F,F,F,F] rfl rfl HT_.out (by kernel_rfl) (fun _ _ _ h=>h) (by rfl) (fun w'=>?_) ?_ ?_;rotate_left;(go_simp;with_reducible rfl);rotate_left;(simp only [Act.put,zz21,zz22,zz23,i64_w,i32_w];rfl)
               refine zz33 (v:=?_) (a':=?_) 1 (some 31) #[T,T,T,F,F,F,F,F,F,F,F,F,F,F,F,F,F,F,F,F,F,F,F,F,F,F,F,F,F,F,F,F,F,F] rfl rfl HT_.out HW_.out (by kernel_rfl) (fun _ _ _ h=>h) (by rfl) ?_ hHeld ?_ ?_;rotate_left;(rintro w' ⟨s0,s1,s2,s3,s4,s5⟩;go_simp;with_reducible rfl);rotate_left;(simp only [Act.put,zz21,zz22,zz23,i64_w,i32_w];rfl)
               refine zz33 (v:=?_) (a':=?_) 3 (some 33) #[T,T,T,T,F,F,F,F,F,F,F,F,F,F,F,F,F,F,F,F,F,F,F,F,F,F,F,F,F,F,F,F,F,F] rfl rfl HT_.out HW_.out (by kernel_rfl) (fun _ _ _ h=>h) (by rfl) ?_ hHeld ?_ ?_;rotate_left;(rintro w' ⟨s0,s1,s2,s3,s4,s5⟩;go_simp;with_reducible rfl);rotate_left;(simp only [Act.put,zz21,zz22,zz23,i64_w,i32_w];rfl)
               refine zz32 (v:=?_) (a':=?_) 4 (some 34) #[T,T,T,T,T,F,F,F,F,F,F,F,F,F,F,F,F,F,F,F,F,F,F,F,F,F,F,F,F,F,F,F,F,F] rfl rfl HT_.out (by kernel_rfl) (fun _ _ _ h=>h) (by rfl) (fun w'=>?_) ?_ ?_;rotate_left;(go_simp;with_reducible rfl);rotate_left;(simp only [Act.put,zz21,zz22,zz23,i64_w,i32_w];rfl)
               refine one_ (i:=5) (N:=some 35) #[T,T,T,T,T,T,F,F,F,F,F,F,F,F,F,F,F,F,F,F,F,F,F,F,F,F,F,F,F,F,F,F,F,F] rfl rfl (one_of HT_.out (by kernel_rfl)) (by decide) (fun K hK=>?_)
               refine goes_ Try.func74 (by kernel_rfl) rfl #[.int .i64 ((rd_T70 l0_1 x25_2).f0),.int .i64 0,.int .i64 (wrap64 (a0_0 - 1))] (by rfl) rfl rfl (by (try simp only [zz26,zz27,zz28]);first | done | rfl | (simp only [zz24,zz25];rfl)) ?_
               with_reducible refine (spec_l1In.calls ((rd_T70 l0_1 x25_2).f0) 0 (wrap64 (a0_0 - 1)) true _ A13.out).mono ?_
               rintro e w' ⟨rfl,⟨nd,rfl⟩⟩
               refine ⟨_,rfl,?_⟩
               refine hK.out _ _ ⟨(zz9 BK138.out 0).trans rfl,(zz9 BK138.out 1).trans rfl,(zz9 BK135.out 0).trans rfl,(zz9 BK135.out 1).trans rfl,((HB.out.cell (World.block_lt_of_cell? w _ hw141_0)).trans hw141_0),((HB.out.cell (World.block_lt_of_cell? w _ hw141_1)).trans hw141_1)⟩ (fun hHeld=>?_)
               clear hK K
               refine norm_ (a':=?_) ?_ ?_;rotate_left;(show Act.put _ (some 35) _=_;simp only [Act.put,zz21,zz22,zz23,i64_w,i32_w];rfl)
               refine zz32 (v:=?_) (a':=?_) 6 (some 36) #[T,T,T,T,T,T,T,F,F,F,F,F,F,F,F,F,F,F,F,F,F,F,F,F,F,F,F,F,F,F,F,F,F,F] rfl rfl HT_.out (by kernel_rfl) (fun _ _ _ h=>h) (by rfl) (fun w'=>?_) ?_ ?_;rotate_left;(go_simp;with_reducible rfl);rotate_left;(simp only [Act.put,zz21,zz22,zz23,i64_w,i32_w];rfl)
               refine zz32 (v:=?_) (a':=?_) 7 (some 37) #[T,T,T,T,T,T,T,T,F,F,F,F,F,F,F,F,F,F,F,F,F,F,F,F,F,F,F,F,F,F,F,F,F,F] rfl rfl HT_.out (by kernel_rfl) (fun _ _ _ h=>h) (by rfl) (fun w'=>?_) ?_ ?_;rotate_left;(go_simp;with_reducible rfl);rotate_left;(simp only [Act.put,zz21,zz22,zz23,i64_w,i32_w];rfl)
               refine zz32 (v:=?_) (a':=?_) 8 (some 38) #[T,T,T,T,T,T,T,T,T,F,F,F,F,F,F,F,F,F,F,F,F,F,F,F,F,F,F,F,F,F,F,F,F,F] rfl rfl HT_.out (by kernel_rfl) (fun _ _ _ h=>h) (by rfl) (fun w'=>?_) ?_ ?_;rotate_left;(go_simp;with_reducible rfl);rotate_left;(simp only [Act.put,zz21,zz22,zz23,i64_w,i32_w];rfl)
               refine zz32 (v:=?_) (a':=?_) 10 (some 40) #[T,T,T,T,T,T,T,T,T,F,T,F,F,F,F,F,F,F,F,F,F,F,F,F,F,F,F,F,F,F,F,F,F,F] rfl rfl HT_.out (by kernel_rfl) (fun _ _ _ h=>h) (by rfl) (fun w'=>?_) ?_ ?_;rotate_left;(go_simp;with_reducible rfl);rotate_left;(simp only [Act.put,zz21,zz22,zz23,i64_w,i32_w];rfl)
               refine zz32 (v:=?_) (a':=?_) 13 (some 43) #[T,T,T,T,T,T,T,T,T,F,T,F,F,T,F,F,F,F,F,F,F,F,F,F,F,F,F,F,F,F,F,F,F,F] rfl rfl HT_.out (by kernel_rfl) (fun _ _ _ h=>h) (by rfl) (fun w'=>?_) ?_ ?_;rotate_left;(go_simp;with_reducible rfl);rotate_left;(simp only [Act.put,zz21,zz22,zz23,i64_w,i32_w];rfl)
               refine zz33 (v:=?_) (a':=?_) 9 (some 39) #[T,T,T,T,T,T,T,T,T,T,T,F,F,T,F,F,F,F,F,F,F,F,F,F,F,F,F,F,F,F,F,F,F,F] rfl rfl HT_.out HW_.out (by kernel_rfl) (fun _ _ _ h=>h) (by rfl) ?_ hHeld ?_ ?_;rotate_left;(rintro w' ⟨s0,s1,s2,s3,s4,s5⟩;go_simp;with_reducible rfl);rotate_left;(simp only [Act.put,zz21,zz22,zz23,i64_w,i32_w];rfl)
               refine zz33 (v:=?_) (a':=?_) 11 (some 41) #[T,T,T,T,T,T,T,T,T,T,T,T,F,T,F,F,F,F,F,F,F,F,F,F,F,F,F,F,F,F,F,F,F,F] rfl rfl HT_.out HW_.out (by kernel_rfl) (fun _ _ _ h=>h) (by rfl) ?_ hHeld ?_ ?_;rotate_left;(rintro w' ⟨s0,s1,s2,s3,s4,s5⟩;go_simp;with_reducible rfl);rotate_left;(simp only [Act.put,zz21,zz22,zz23,i64_w,i32_w];rfl)
               refine zz32 (v:=?_) (a':=?_) 12 (some 42) #[T,T,T,T,T,T,T,T,T,T,T,T,T,T,F,F,F,F,F,F,F,F,F,F,F,F,F,F,F,F,F,F,F,F] rfl rfl HT_.out (by kernel_rfl) (fun _ _ _ h=>h) (by rfl) (fun w'=>?_) ?_ ?_;rotate_left;(go_simp;with_reducible rfl);rotate_left;(simp only [Act.put,zz21,zz22,zz23,i64_w,i32_w];rfl)
               refine zz33 (v:=?_) (a':=?_) 14 (some 44) #[T,T,T,T,T,T,T,T,T,T,T,T,T,T,T,F,F,F,F,F,F,F,F,F,F,F,F,F,F,F,F,F,F,F] rfl rfl HT_.out HW_.out (by kernel_rfl) (fun _ _ _ h=>h) (by rfl) ?_ hHeld ?_ ?_;rotate_left;(rintro w' ⟨s0,s1,s2,s3,s4,s5⟩;go_simp;with_reducible rfl);rotate_left;(simp only [Act.put,zz21,zz22,zz23,i64_w,i32_w];rfl)
               refine zz32 (v:=?_) (a':=?_) 15 (some 45) #[T,T,T,T,T,T,T,T,T,T,T,T,T,T,T,T,F,F,F,F,F,F,F,F,F,F,F,F,F,F,F,F,F,F] rfl rfl HT_.out (by kernel_rfl) (fun _ _ _ h=>h) (by rfl) (fun w'=>?_) ?_ ?_;rotate_left;(go_simp;with_reducible rfl);rotate_left;(simp only [Act.put,zz21,zz22,zz23,i64_w,i32_w];rfl)
               refine one_ (i:=16) (N:=some 46) #[T,T,T,T,T,T,T,T,T,T,T,T,T,T,T,T,T,F,F,F,F,F,F,F,F,F,F,F,F,F,F,F,F,F] rfl rfl (one_of HT_.out (by kernel_rfl)) (by decide) (fun K hK=>?_)
               refine goes_ Try.func74 (by kernel_rfl) rfl #[.int .i64 ((rd_T70 l0_1 x25_2).f1),.int .i64 (wrap64 (((rd_T70 l0_1 x25_2).f0)+1)),.int .i64 (wrap64 (a0_0 - 1))] (by rfl) rfl rfl (by (try simp only [zz26,zz27,zz28]);first | done | rfl | (simp only [zz24,zz25];rfl)) ?_
               with_reducible refine (spec_l1In.calls ((rd_T70 l0_1 x25_2).f1) (wrap64 (((rd_T70 l0_1 x25_2).f0)+1)) (wrap64 (a0_0 - 1)) true _ A15.out).mono ?_
               rintro e w' ⟨rfl,⟨nd,rfl⟩⟩
               refine ⟨_,rfl,?_⟩
               refine hK.out _ _ ⟨(zz9 BK138.out 0).trans rfl,(zz9 BK138.out 1).trans rfl,(zz9 BK135.out 0).trans rfl,(zz9 BK135.out 1).trans rfl,((HB.out.cell (World.block_lt_of_cell? w _ hw141_0)).trans hw141_0),((HB.out.cell (World.block_lt_of_cell? w _ hw141_1)).trans hw141_1)⟩ (fun hHeld=>?_)
               clear hK K
               refine norm_ (a':=?_) ?_ ?_;rotate_left;(show Act.put _ (some 46) _=_;simp only [Act.put,zz21,zz22,zz23,i64_w,i32_w];rfl)
               refine zz32 (v:=?_) (a':=?_) 17 (some 47) #[T,T,T,T,T,T,T,T,T,T,T,T,T,T,T,T,T,T,F,F,F,F,F,F,F,F,F,F,F,F,F,F,F,F] rfl rfl HT_.out (by kernel_rfl) (fun _ _ _ h=>h) (by rfl) (fun w'=>?_) ?_ ?_;rotate_left;(go_simp;with_reducible rfl);rotate_left;(simp only [Act.put,zz21,zz22,zz23,i64_w,i32_w];rfl)
               refine zz32 (v:=?_) (a':=?_) 18 (some 48) #[T,T,T,T,T,T,T,T,T,T,T,T,T,T,T,T,T,T,T,F,F,F,F,F,F,F,F,F,F,F,F,F,F,F] rfl rfl HT_.out (by kernel_rfl) (fun _ _ _ h=>h) (by rfl) (fun w'=>?_) ?_ ?_;rotate_left;(go_simp;with_reducible rfl);rotate_left;(simp only [Act.put,zz21,zz22,zz23,i64_w,i32_w];rfl)
               refine zz32 (v:=?_) (a':=?_) 19 (some 49) #[T,T,T,T,T,T,T,T,T,T,T,T,T,T,T,T,T,T,T,T,F,F,F,F,F,F,F,F,F,F,F,F,F,F] rfl rfl HT_.out (by kernel_rfl) (fun _ _ _ h=>h) (by rfl) (fun w'=>?_) ?_ ?_;rotate_left;(go_simp;with_reducible rfl);rotate_left;(simp only [Act.put,zz21,zz22,zz23,i64_w,i32_w];rfl)
               refine zz32 (v:=?_) (a':=?_) 20 (some 50) #[T,T,T,T,T,T,T,T,T,T,T,T,T,T,T,T,T,T,T,T,T,F,F,F,F,F,F,F,F,F,F,F,F,F] rfl rfl HT_.out (by kernel_rfl) (fun _ _ _ h=>h) (by rfl) (fun w'=>?_) ?_ ?_;rotate_left;(go_simp;with_reducible rfl);rotate_left;(simp only [Act.put,zz21,zz22,zz23,i64_w,i32_w];rfl)
               refine zz32 (v:=?_) (a':=?_) 21 (some 51) #[T,T,T,T,T,T,T,T,T,T,T,T,T,T,T,T,T,T,T,T,T,T,F,F,F,F,F,F,F,F,F,F,F,F] rfl rfl HT_.out (by kernel_rfl) (fun _ _ _ h=>h) (by rfl) (fun w'=>?_) ?_ ?_;rotate_left;(go_simp;with_reducible rfl);rotate_left;(simp only [Act.put,zz21,zz22,zz23,i64_w,i32_w];rfl)
               refine zz32 (v:=?_) (a':=?_) 22 (some 52) #[T,T,T,T,T,T,T,T,T,T,T,T,T,T,T,T,T,T,T,T,T,T,T,F,F,F,F,F,F,F,F,F,F,F] rfl rfl HT_.out (by kernel_rfl) (fun _ _ _ h=>h) (by rfl) (fun w'=>?_) ?_ ?_;rotate_left;(go_simp;with_reducible rfl);rotate_left;(simp only [Act.put,zz21,zz22,zz23,i64_w,i32_w];rfl)
               refine zz32 (v:=?_) (a':=?_) 23 (some 53) #[T,T,T,T,T,T,T,T,T,T,T,T,T,T,T,T,T,T,T,T,T,T,T,T,F,F,F,F,F,F,F,F,F,F] rfl rfl HT_.out (by kernel_rfl) (fun _ _ _ h=>h) (by rfl) (fun w'=>?_) ?_ ?_;rotate_left;(go_simp;with_reducible rfl);rotate_left;(simp only [Act.put,zz21,zz22,zz23,i64_w,i32_w];rfl)
               refine zz32 (v:=?_) (a':=?_) 25 (some 55) #[T,T,T,T,T,T,T,T,T,T,T,T,T,T,T,T,T,T,T,T,T,T,T,T,F,T,F,F,F,F,F,F,F,F] rfl rfl HT_.out (by kernel_rfl) (fun _ _ _ h=>h) (by rfl) (fun w'=>?_) ?_ ?_;rotate_left;(go_simp;with_reducible rfl);rotate_left;(simp only [Act.put,zz21,zz22,zz23,i64_w,i32_w];rfl)
               refine zz32 (v:=?_) (a':=?_) 26 (some 56) #[T,T,T,T,T,T,T,T,T,T,T,T,T,T,T,T,T,T,T,T,T,T,T,T,F,T,T,F,F,F,F,F,F,F] rfl rfl HT_.out (by kernel_rfl) (fun _ _ _ h=>h) (by rfl) (fun w'=>?_) ?_ ?_;rotate_left;(go_simp;with_reducible rfl);rotate_left;(simp only [Act.put,zz21,zz22,zz23,i64_w,i32_w];rfl)
               refine zz33 (v:=?_) (a':=?_) 24 (some 54) #[T,T,T,T,T,T,T,T,T,T,T,T,T,T,T,T,T,T,T,T,T,T,T,T,T,T,T,F,F,F,F,F,F,F] rfl rfl HT_.out HW_.out (by kernel_rfl) (fun _ _ _ h=>h) (by rfl) ?_ hHeld ?_ ?_;rotate_left;(rintro w' ⟨s0,s1,s2,s3,s4,s5⟩;go_simp;with_reducible rfl);rotate_left;(simp only [Act.put,zz21,zz22,zz23,i64_w,i32_w];rfl)
               refine zz32 (v:=?_) (a':=?_) 27 (some 57) #[T,T,T,T,T,T,T,T,T,T,T,T,T,T,T,T,T,T,T,T,T,T,T,T,T,T,T,T,F,F,F,F,F,F] rfl rfl HT_.out (by kernel_rfl) (fun _ _ _ h=>h) (by rfl) (fun w'=>?_) ?_ ?_;rotate_left;(go_simp;with_reducible rfl);rotate_left;(simp only [Act.put,zz21,zz22,zz23,i64_w,i32_w];rfl)
               refine zz33 (v:=?_) (a':=?_) 28 (some 58) #[T,T,T,T,T,T,T,T,T,T,T,T,T,T,T,T,T,T,T,T,T,T,T,T,T,T,T,T,T,F,F,F,F,F] rfl rfl HT_.out HW_.out (by kernel_rfl) (fun _ _ _ h=>h) (by rfl) ?_ hHeld ?_ ?_;rotate_left;(rintro w' ⟨s0,s1,s2,s3,s4,s5⟩;go_simp;with_reducible rfl);rotate_left;(simp only [Act.put,zz21,zz22,zz23,i64_w,i32_w];rfl)
               refine zz33 (v:=?_) (a':=?_) 29 (some 59) #[T,T,T,T,T,T,T,T,T,T,T,T,T,T,T,T,T,T,T,T,T,T,T,T,T,T,T,T,T,T,F,F,F,F] rfl rfl HT_.out HW_.out (by kernel_rfl) (fun _ _ _ h=>h) (by rfl) ?_ hHeld ?_ ?_;rotate_left;(rintro w' ⟨s0,s1,s2,s3,s4,s5⟩;go_simp;with_reducible rfl);rotate_left;(simp only [Act.put,zz21,zz22,zz23,i64_w,i32_w];rfl)
               refine one_ (i:=30) (N:=some 60) #[T,T,T,T,T,T,T,T,T,T,T,T,T,T,T,T,T,T,T,T,T,T,T,T,T,T,T,T,T,T,T,F,F,F] rfl rfl (one_of HT_.out (by kernel_rfl)) (by decide) (fun K hK=>?_)
               refine goes_ Try.func75 (by kernel_rfl) rfl #[.agg #[.int .i64 ((rd_T70 l0_1 (ji18)).f0),.int .i64 ((rd_T70 l0_1 (ji18)).f1)],.agg #[.int .i64 ((rd_T70 l0_1 x25_2).f0),.int .i64 ((rd_T70 l0_1 x25_2).f1)]] (by rfl) rfl rfl (by (try simp only [zz26,zz27,zz28]);first | done | (simp only [hji18];rfl) | rfl | (simp only [zz24,zz25];rfl)) ?_
               with_reducible refine (spec_paLess.calls ((rd_T70 l0_1 (ji18)).f0) ((rd_T70 l0_1 (ji18)).f1) ((rd_T70 l0_1 x25_2).f0) ((rd_T70 l0_1 x25_2).f1) false _ A21.out).mono ?_
               rintro e w34 ⟨rfl,hb⟩
               refine ⟨_,rfl,?_⟩
               replace BK135:=zz31 (zz11 (g:=gb135) (o:=.cells #[.int .i64 a0_0,.slice (some ad137) l0_1.length c0_1] 30 (0,0)) (by (with_reducible repeat (first | refine zz6 ?_ _ | refine zz7 ?_ | refine zz8 ?_ _));exact BK135.out) hb)
               replace BK138:=zz31 (zz11 (g:=gb138) (o:=.cells #[.int .i64 ((rd_T70 l0_1 x25_2).f0),.int .i64 ((rd_T70 l0_1 x25_2).f1)] 70 (0,0)) (by (with_reducible repeat (first | refine zz6 ?_ _ | refine zz7 ?_ | refine zz8 ?_ _));exact BK138.out) hb)
               replace HB:=zz31 (zz4 (by repeat first | exact HB.out | apply zz2 | apply zz0 | apply zz1 | refine zz3 ?_ GE135.out | refine zz3 ?_ GE138.out) hb)
               (try clear hb)
               (try clear hb2)
               (try clear hk)
               (try clear hi)
               refine hK.out _ _ ⟨(zz9 BK138.out 0).trans rfl,(zz9 BK138.out 1).trans rfl,(zz9 BK135.out 0).trans rfl,(zz9 BK135.out 1).trans rfl,((HB.out.cell (World.block_lt_of_cell? w _ hw141_0)).trans hw141_0),((HB.out.cell (World.block_lt_of_cell? w _ hw141_1)).trans hw141_1)⟩ (fun hHeld=>?_)
               clear hK K
               refine norm_ (a':=?_) ?_ ?_;rotate_left;(show Act.put _ (some 60) _=_;simp only [Act.put,zz21,zz22,zz23,i64_w,i32_w];rfl)
               refine zz32 (v:=?_) (a':=?_) 31 (some 61) #[T,T,T,T,T,T,T,T,T,T,T,T,T,T,T,T,T,T,T,T,T,T,T,T,T,T,T,T,T,T,T,T,F,F] rfl rfl HT_.out (by kernel_rfl) (fun _ _ _ h=>h) (by rfl) (fun w'=>?_) ?_ ?_;rotate_left;(go_simp;with_reducible rfl);rotate_left;(simp only [Act.put,zz21,zz22,zz23,i64_w,i32_w];rfl)
               refine zz32 (v:=?_) (a':=?_) 32 (some 62) #[T,T,T,T,T,T,T,T,T,T,T,T,T,T,T,T,T,T,T,T,T,T,T,T,T,T,T,T,T,T,T,T,T,F] rfl rfl HT_.out (by kernel_rfl) (fun _ _ _ h=>h) (by rfl) (fun w'=>?_) ?_ ?_;rotate_left;(go_simp;with_reducible rfl);rotate_left;(simp only [Act.put,zz21,zz22,zz23,i64_w,i32_w];rfl)
               refine zz32 (v:=?_) (a':=?_) 33 (some 63) #[T,T,T,T,T,T,T,T,T,T,T,T,T,T,T,T,T,T,T,T,T,T,T,T,T,T,T,T,T,T,T,T,T,T] rfl rfl HT_.out (by kernel_rfl) (fun _ _ _ h=>h) (by rfl) (fun w'=>?_) ?_ ?_;rotate_left;(go_simp;with_reducible rfl);rotate_left;(simp only [Act.put,zz21,zz22,zz23,i64_w,i32_w];rfl)
               refine done_ (done_of HT_.out (by kernel_rfl)) ?_
               try go_wp2
               go_ret
               exact ⟨by first | rfl | (simp [errW_none,errW_some] <;> rfl) | (simp only [← hji18];first | rfl | (simp [errW_none,errW_some] <;> rfl)) | (simp [*,errW_none,errW_some] <;> rfl),by repeat first | exact HB.out | apply zz2 | apply zz0 | apply zz1 | refine zz3 ?_ GE135.out | refine zz3 ?_ GE138.out⟩
             ·rw [if_neg c20] at H
              exact absurd H (by simp)
            ·rw [if_neg c19] at H
             exact absurd H (by simp)
           ·rw [if_neg c17] at H
            have c17b0:decide (0 < x25_2)=false:=decide_eq_false c17
            clear c17
            have H':=zz31 H
            clear H
            have p137:0≤(x25_2:Int):=zz29 (by first | (with_reducible assumption) | assumption)
            have q137:x25_2 < (l0_1.length:Int):=zz29 (by first | (with_reducible assumption) | assumption)
            obtain ⟨ad137,e137,hx137_0,hx137_1⟩:=at_T70 HR0_1.out x25_2 p137 q137
            cases e137
            try replace hx137_0:=(HB.out.cell (World.block_lt_of_cell? w _ hx137_0)).trans hx137_0
            try replace hx137_1:=(HB.out.cell (World.block_lt_of_cell? w _ hx137_1)).trans hx137_1
            replace p137:=eq_true p137
            replace q137:=eq_true q137
            try go_wp2_with (first | ((with_reducible refine gate_dst (N:=4) rfl ?_);(try (refine gate_guard (by rfl) ?_;dsimp only));refine box_event ?hg (N:=4) ?hd (cs:=#[.int .i64 0,.int .i64 0]) (t:=70) ?hr ?_;(case hd=>rfl);(case hg=>rfl);(case hr=>first | (go_simp;done) | (go_simp;rfl));intro gb138 hg w35 hbox hb;have BK138:=zz31 (hbox);have GW138:=zz31 ((by rw [hg];exact (zz5 (by repeat first | exact HB.out | apply zz2 | apply zz0 | apply zz1 | refine zz3 ?_ GE135.out)):w.heap.size≤gb138));replace HB:=zz31 (zz4 (by repeat first | exact HB.out | apply zz2 | apply zz0 | apply zz1 | refine zz3 ?_ GE135.out) hb);have GE138:=GW138;have NB135_138:=zz31 ((by rw [hg];exact Nat.ne_of_lt (blk_lt (g:=gb135) (o:=.cells #[.int .i64 a0_0,.slice (some ad137) l0_1.length c0_1] 30 (0,0)) (by (with_reducible repeat (first | refine zz6 ?_ _ | refine zz7 ?_ | refine zz8 ?_ _));exact BK135.out)):gb135 ≠ gb138));have NB138_135:=zz31 ((by rw [hg];exact Nat.ne_of_gt (blk_lt (g:=gb135) (o:=.cells #[.int .i64 a0_0,.slice (some ad137) l0_1.length c0_1] 30 (0,0)) (by (with_reducible repeat (first | refine zz6 ?_ _ | refine zz7 ?_ | refine zz8 ?_ _));exact BK135.out)):gb138 ≠ gb135));replace BK135:=zz31 (zz11 (g:=gb135) (o:=.cells #[.int .i64 a0_0,.slice (some ad137) l0_1.length c0_1] 30 (0,0)) (by (with_reducible repeat (first | refine zz6 ?_ _ | refine zz7 ?_ | refine zz8 ?_ _));exact BK135.out) hb);clear hb hbox hg;have hnb36:=NB138_135.out;have hnc36:=NB135_138.out;have hcz37_0:w35.cell? ⟨gb138,0,none⟩=some (.int .i64 0):=(zz9 BK138.out 0).trans rfl;have hcz37_1:w35.cell? ⟨gb138,1,none⟩=some (.int .i64 0):=(zz9 BK138.out 1).trans rfl;have hfz37_0:=zz10 BK138.out 0;have hfz37_1:=zz10 BK138.out 1))
            have n0_:Aside0 (((w35.setCell ⟨gb138,0,none⟩ (.int .i64 ((rd_T70 l0_1 x25_2).f0))).setCell ⟨gb138,1,none⟩ (.int .i64 ((rd_T70 l0_1 x25_2).f1))).heap[gb135]?=some (.cells #[.int .i64 a0_0,.slice (some ad137) l0_1.length c0_1] 30 (0,0))):=⟨by (with_reducible repeat (first | refine zz6 ?_ _ | refine zz7 ?_ | refine zz8 ?_ _));refine blk_far ?_ NB135_138.out _;(with_reducible repeat (first | refine zz6 ?_ _ | refine zz7 ?_ | refine zz8 ?_ _));refine blk_far ?_ NB135_138.out _;(with_reducible repeat (first | refine zz6 ?_ _ | refine zz7 ?_ | refine zz8 ?_ _));exact BK135.out⟩
            have n1_:Aside0 (((w35.setCell ⟨gb138,0,none⟩ (.int .i64 ((rd_T70 l0_1 x25_2).f0))).setCell ⟨gb138,1,none⟩ (.int .i64 ((rd_T70 l0_1 x25_2).f1))).heap[gb138]?=some (.cells #[.int .i64 ((rd_T70 l0_1 x25_2).f0),.int .i64 ((rd_T70 l0_1 x25_2).f1)] 70 (0,0))):=⟨by (with_reducible repeat (first | refine zz6 ?_ _ | refine zz7 ?_ | refine zz8 ?_ _));refine blk_put (cs:=#[.int .i64 ((rd_T70 l0_1 x25_2).f0),.int .i64 0]) ?_ 1 _ rfl;(with_reducible repeat (first | refine zz6 ?_ _ | refine zz7 ?_ | refine zz8 ?_ _));refine blk_put (cs:=#[.int .i64 0,.int .i64 0]) ?_ 0 _ rfl;(with_reducible repeat (first | refine zz6 ?_ _ | refine zz7 ?_ | refine zz8 ?_ _));exact BK138.out⟩
            have n2_:Aside0 (Below w.heap.size w ((w35.setCell ⟨gb138,0,none⟩ (.int .i64 ((rd_T70 l0_1 x25_2).f0))).setCell ⟨gb138,1,none⟩ (.int .i64 ((rd_T70 l0_1 x25_2).f1)))):=⟨by repeat first | exact HB.out | apply zz2 | apply zz0 | apply zz1 | refine zz3 ?_ GE135.out | refine zz3 ?_ GE138.out⟩
            (try clear BK135)
            (try clear BK138)
            (try clear HB)
            generalize ((w35.setCell ⟨gb138,0,none⟩ (.int .i64 ((rd_T70 l0_1 x25_2).f0))).setCell ⟨gb138,1,none⟩ (.int .i64 ((rd_T70 l0_1 x25_2).f1)))=w38 at n0_ n1_ n2_ ⊢
            have BK135:=n0_
            have BK138:=n1_
            have HB:=n2_
            clear n0_ n1_ n2_
            replace BK135:=zz31 (zz7 BK135.out)
            replace BK138:=zz31 (zz7 BK138.out)
            replace HB:=zz31 (zz1 HB.out)
            refine start_ (n:=34) (S:=fun w'=>w'.cell? ⟨gb138,0,none⟩=some (.int .i64 ((rd_T70 l0_1 x25_2).f0))∧w'.cell? ⟨gb138,1,none⟩=some (.int .i64 ((rd_T70 l0_1 x25_2).f1))∧w'.cell? ⟨gb135,0,none⟩=some (.int .i64 a0_0)∧w'.cell? ⟨gb135,1,none⟩=some (.slice (some ad137) l0_1.length c0_1)) (ds:=[]) #[F,F,F,F,F,F,F,F,F,F,F,F,F,F,F,F,F,F,F,F,F,F,F,F,F,F,F,F,F,F,F,F,F,F] (by kernel_rfl) rfl rfl ⟨(zz9 BK138.out 0).trans rfl,(zz9 BK138.out 1).trans rfl,(zz9 BK135.out 0).trans rfl,(zz9 BK135.out 1).trans rfl⟩ (fun hHeld=>?_);refine with_tabW spec_paGood.tab6 spec_paGood.bits6 (fun HT_ HW_=>?_)
            generalize w38.drew=w39 at BK135 BK138 HB hHeld ⊢
            refine zz32 (v:=?_) (a':=?_) 0 (some 30) #[T,F,F,F,F,F,F,F,F,F,F,F,F,F,F,F,F,F,F,F,F,F,F,F,F,F,F,F,F,F,F,F,F,F] rfl rfl HT_.out (by kernel_rfl) (fun _ _ _ h=>h) (by rfl) (fun w'=>?_) ?_ ?_;rotate_left;(go_simp;with_reducible rfl);rotate_left;(simp only [Act.put,zz21,zz22,zz23,i64_w,i32_w];rfl)
            refine zz32 (v:=?_) (a':=?_) 2 (some 32) #[T,F,T,F,F,F,F,F,F,F,F,F,F,F,F,F,F,F,F,F,F,F,F,F,F,F,F,F,F,F,F,F,F,F] rfl rfl HT_.out (by kernel_rfl) (fun _ _ _ h=>h) (by rfl) (fun w'=>?_) ?_ ?_;rotate_left;(go_simp;with_reducible rfl);rotate_left;(simp only [Act.put,zz21,zz22,zz23,i64_w,i32_w];rfl)
            refine zz33 (v:=?_) (a':=?_) 1 (some 31) #[T,T,T,F,F,F,F,F,F,F,F,F,F,F,F,F,F,F,F,F,F,F,F,F,F,F,F,F,F,F,F,F,F,F] rfl rfl HT_.out HW_.out (by kernel_rfl) (fun _ _ _ h=>h) (by rfl) ?_ hHeld ?_ ?_;rotate_left;(rintro w' ⟨s0,s1,s2,s3⟩;go_simp;with_reducible rfl);rotate_left;(simp only [Act.put,zz21,zz22,zz23,i64_w,i32_w];rfl)
            refine zz33 (v:=?_) (a':=?_) 3 (some 33) #[T,T,T,T,F,F,F,F,F,F,F,F,F,F,F,F,F,F,F,F,F,F,F,F,F,F,F,F,F,F,F,F,F,F] rfl rfl HT_.out HW_.out (by kernel_rfl) (fun _ _ _ h=>h) (by rfl) ?_ hHeld ?_ ?_;rotate_left;(rintro w' ⟨s0,s1,s2,s3⟩;go_simp;with_reducible rfl);rotate_left;(simp only [Act.put,zz21,zz22,zz23,i64_w,i32_w];rfl)
            refine zz32 (v:=?_) (a':=?_) 4 (some 34) #[T,T,T,T,T,F,F,F,F,F,F,F,F,F,F,F,F,F,F,F,F,F,F,F,F,F,F,F,F,F,F,F,F,F] rfl rfl HT_.out (by kernel_rfl) (fun _ _ _ h=>h) (by rfl) (fun w'=>?_) ?_ ?_;rotate_left;(go_simp;with_reducible rfl);rotate_left;(simp only [Act.put,zz21,zz22,zz23,i64_w,i32_w];rfl)
            refine one_ (i:=5) (N:=some 35) #[T,T,T,T,T,T,F,F,F,F,F,F,F,F,F,F,F,F,F,F,F,F,F,F,F,F,F,F,F,F,F,F,F,F] rfl rfl (one_of HT_.out (by kernel_rfl)) (by decide) (fun K hK=>?_)
            refine goes_ Try.func74 (by kernel_rfl) rfl #[.int .i64 ((rd_T70 l0_1 x25_2).f0),.int .i64 0,.int .i64 (wrap64 (a0_0 - 1))] (by rfl) rfl rfl (by (try simp only [zz26,zz27,zz28]);first | done | rfl | (simp only [zz24,zz25];rfl)) ?_
            with_reducible refine (spec_l1In.calls ((rd_T70 l0_1 x25_2).f0) 0 (wrap64 (a0_0 - 1)) true _ A13.out).mono ?_
            rintro e w' ⟨rfl,⟨nd,rfl⟩⟩
            refine ⟨_,rfl,?_⟩
            refine hK.out _ _ ⟨(zz9 BK138.out 0).trans rfl,(zz9 BK138.out 1).trans rfl,(zz9 BK135.out 0).trans rfl,(zz9 BK135.out 1).trans rfl⟩ (fun hHeld=>?_)
            clear hK K
            refine norm_ (a':=?_) ?_ ?_;rotate_left;(show Act.put _ (some 35) _=_;simp only [Act.put,zz21,zz22,zz23,i64_w,i32_w];rfl)
            refine zz32 (v:=?_) (a':=?_) 6 (some 36) #[T,T,T,T,T,T,T,F,F,F,F,F,F,F,F,F,F,F,F,F,F,F,F,F,F,F,F,F,F,F,F,F,F,F] rfl rfl HT_.out (by kernel_rfl) (fun _ _ _ h=>h) (by rfl) (fun w'=>?_) ?_ ?_;rotate_left;(go_simp;with_reducible rfl);rotate_left;(simp only [Act.put,zz21,zz22,zz23,i64_w,i32_w];rfl)
            refine zz32 (v:=?_) (a':=?_) 7 (some 37) #[T,T,T,T,T,T,T,T,F,F,F,F,F,F,F,F,F,F,F,F,F,F,F,F,F,F,F,F,F,F,F,F,F,F] rfl rfl HT_.out (by kernel_rfl) (fun _ _ _ h=>h) (by rfl) (fun w'=>?_) ?_ ?_;rotate_left;(go_simp;with_reducible rfl);rotate_left;(simp only [Act.put,zz21,zz22,zz23,i64_w,i32_w];rfl)
            refine zz32 (v:=?_) (a':=?_) 8 (some 38) #[T,T,T,T,T,T,T,T,T,F,F,F,F,F,F,F,F,F,F,F,F,F,F,F,F,F,F,F,F,F,F,F,F,F] rfl rfl HT_.out (by kernel_rfl) (fun _ _ _ h=>h) (by rfl) (fun w'=>?_) ?_ ?_;rotate_left;(go_simp;with_reducible rfl);rotate_left;(simp only [Act.put,zz21,zz22,zz23,i64_w,i32_w];rfl)
            refine zz32 (v:=?_) (a':=?_) 10 (some 40) #[T,T,T,T,T,T,T,T,T,F,T,F,F,F,F,F,F,F,F,F,F,F,F,F,F,F,F,F,F,F,F,F,F,F] rfl rfl HT_.out (by kernel_rfl) (fun _ _ _ h=>h) (by rfl) (fun w'=>?_) ?_ ?_;rotate_left;(go_simp;with_reducible rfl);rotate_left;(simp only [Act.put,zz21,zz22,zz23,i64_w,i32_w];rfl)
            refine zz32 (v:=?_) (a':=?_) 13 (some 43) #[T,T,T,T,T,T,T,T,T,F,T,F,F,T,F,F,F,F,F,F,F,F,F,F,F,F,F,F,F,F,F,F,F,F] rfl rfl HT_.out (by kernel_rfl) (fun _ _ _ h=>h) (by rfl) (fun w'=>?_) ?_ ?_;rotate_left;(go_simp;with_reducible rfl);rotate_left;(simp only [Act.put,zz21,zz22,zz23,i64_w,i32_w];rfl)
            refine zz33 (v:=?_) (a':=?_) 9 (some 39) #[T,T,T,T,T,T,T,T,T,T,T,F,F,T,F,F,F,F,F,F,F,F,F,F,F,F,F,F,F,F,F,F,F,F] rfl rfl HT_.out HW_.out (by kernel_rfl) (fun _ _ _ h=>h) (by rfl) ?_ hHeld ?_ ?_;rotate_left;(rintro w' ⟨s0,s1,s2,s3⟩;go_simp;with_reducible rfl);rotate_left;(simp only [Act.put,zz21,zz22,zz23,i64_w,i32_w];rfl)
            refine zz33 (v:=?_) (a':=?_) 11 (some 41) #[T,T,T,T,T,T,T,T,T,T,T,T,F,T,F,F,F,F,F,F,F,F,F,F,F,F,F,F,F,F,F,F,F,F] rfl rfl HT_.out HW_.out (by kernel_rfl) (fun _ _ _ h=>h) (by rfl) ?_ hHeld ?_ ?_;rotate_left;(rintro w' ⟨s0,s1,s2,s3⟩;go_simp;with_reducible rfl);rotate_left;(simp only [Act.put,zz21,zz22,zz23,i64_w,i32_w];rfl)
            refine zz32 (v:=?_) (a':=?_) 12 (some 42) #[T,T,T,T,T,T,T,T,T,T,T,T,T,T,F,F,F,F,F,F,F,F,F,F,F,F,F,F,F,F,F,F,F,F] rfl rfl HT_.out (by kernel_rfl) (fun _ _ _ h=>h) (by rfl) (fun w'=>?_) ?_ ?_;rotate_left;(go_simp;with_reducible rfl);rotate_left;(simp only [Act.put,zz21,zz22,zz23,i64_w,i32_w];rfl)
            refine zz33 (v:=?_) (a':=?_) 14 (some 44) #[T,T,T,T,T,T,T,T,T,T,T,T,T,T,T,F,F,F,F,F,F,F,F,F,F,F,F,F,F,F,F,F,F,F] rfl rfl HT_.out HW_.out (by kernel_rfl) (fun _ _ _ h=>h) (by rfl) ?_ hHeld ?_ ?_;rotate_left;(rintro w' ⟨s0,s1,s2,s3⟩;go_simp;with_reducible rfl);rotate_left;(simp only [Act.put,zz21,zz22,zz23,i64_w,i32_w];rfl)
            refine zz32 (v:=?_) (a':=?_) 15 (some 45) #[T,T,T,T,T,T,T,T,T,T,T,T,T,T,T,T,F,F,F,F,F,F,F,F,F,F,F,F,F,F,F,F,F,F] rfl rfl HT_.out (by kernel_rfl) (fun _ _ _ h=>h) (by rfl) (fun w'=>?_) ?_ ?_;rotate_left;(go_simp;with_reducible rfl);rotate_left;(simp only [Act.put,zz21,zz22,zz23,i64_w,i32_w];rfl)
            refine one_ (i:=16) (N:=some 46) #[T,T,T,T,T,T,T,T,T,T,T,T,T,T,T,T,T,F,F,F,F,F,F,F,F,F,F,F,F,F,F,F,F,F] rfl rfl (one_of HT_.out (by kernel_rfl)) (by decide) (fun K hK=>?_)
            refine goes_ Try.func74 (by kernel_rfl) rfl #[.int .i64 ((rd_T70 l0_1 x25_2).f1),.int .i64 (wrap64 (((rd_T70 l0_1 x25_2).f0)+1)),.int .i64 (wrap64 (a0_0 - 1))] (by rfl) rfl rfl (by (try simp only [zz26,zz27,zz28]);first | done | rfl | (simp only [zz24,zz25];rfl)) ?_
            with_reducible refine (spec_l1In.calls ((rd_T70 l0_1 x25_2).f1) (wrap64 (((rd_T70 l0_1 x25_2).f0)+1)) (wrap64 (a0_0 - 1)) true _ A15.out).mono ?_
            rintro e w' ⟨rfl,⟨nd,rfl⟩⟩
            refine ⟨_,rfl,?_⟩
            refine hK.out _ _ ⟨(zz9 BK138.out 0).trans rfl,(zz9 BK138.out 1).trans rfl,(zz9 BK135.out 0).trans rfl,(zz9 BK135.out 1).trans rfl⟩ (fun hHeld=>?_)
            clear hK K
            refine norm_ (a':=?_) ?_ ?_;rotate_left;(show Act.put _ (some 46) _=_;simp only [Act.put,zz21,zz22,zz23,i64_w,i32_w];rfl)
            refine zz32 (v:=?_) (a':=?_) 17 (some 47) #[T,T,T,T,T,T,T,T,T,T,T,T,T,T,T,T,T,T,F,F,F,F,F,F,F,F,F,F,F,F,F,F,F,F] rfl rfl HT_.out (by kernel_rfl) (fun _ _ _ h=>h) (by rfl) (fun w'=>?_) ?_ ?_;rotate_left;(go_simp;with_reducible rfl);rotate_left;(simp only [Act.put,zz21,zz22,zz23,i64_w,i32_w];rfl)
            refine zz32 (v:=?_) (a':=?_) 18 (some 48) #[T,T,T,T,T,T,T,T,T,T,T,T,T,T,T,T,T,T,T,F,F,F,F,F,F,F,F,F,F,F,F,F,F,F] rfl rfl HT_.out (by kernel_rfl) (fun _ _ _ h=>h) (by rfl) (fun w'=>?_) ?_ ?_;rotate_left;(go_simp;with_reducible rfl);rotate_left;(simp only [Act.put,zz21,zz22,zz23,i64_w,i32_w];rfl)
            refine zz32 (v:=?_) (a':=?_) 19 (some 49) #[T,T,T,T,T,T,T,T,T,T,T,T,T,T,T,T,T,T,T,T,F,F,F,F,F,F,F,F,F,F,F,F,F,F] rfl rfl HT_.out (by kernel_rfl) (fun _ _ _ h=>h) (by rfl) (fun w'=>?_) ?_ ?_;rotate_left;(go_simp;with_reducible rfl);rotate_left;(simp only [Act.put,zz21,zz22,zz23,i64_w,i32_w];rfl)
            refine zz32 (v:=?_) (a':=?_) 20 (some 50) #[T,T,T,T,T,T,T,T,T,T,T,T,T,T,T,T,T,T,T,T,T,F,F,F,F,F,F,F,F,F,F,F,F,F] rfl rfl HT_.out (by kernel_rfl) (fun _ _ _ h=>h) (by rfl) (fun w'=>?_) ?_ ?_;rotate_left;(go_simp;with_reducible rfl);rotate_left;(simp only [Act.put,zz21,zz22,zz23,i64_w,i32_w];rfl)
            refine zz32 (v:=?_) (a':=?_) 21 (some 51) #[T,T,T,T,T,T,T,T,T,T,T,T,T,T,T,T,T,T,T,T,T,T,F,F,F,F,F,F,F,F,F,F,F,F] rfl rfl HT_.out (by kernel_rfl) (fun _ _ _ h=>h) (by rfl) (fun w'=>?_) ?_ ?_;rotate_left;(go_simp;with_reducible rfl);rotate_left;(simp only [Act.put,zz21,zz22,zz23,i64_w,i32_w];rfl)
            refine zz32 (v:=?_) (a':=?_) 22 (some 52) #[T,T,T,T,T,T,T,T,T,T,T,T,T,T,T,T,T,T,T,T,T,T,T,F,F,F,F,F,F,F,F,F,F,F] rfl rfl HT_.out (by kernel_rfl) (fun _ _ _ h=>h) (by rfl) (fun w'=>?_) ?_ ?_;rotate_left;(go_simp;with_reducible rfl);rotate_left;(simp only [Act.put,zz21,zz22,zz23,i64_w,i32_w];rfl)
            refine pure_ (i:=23) (N:=some 53) (v:=undef) (a':=?_) #[T,T,T,T,T,T,T,T,T,T,T,T,T,T,T,T,T,T,T,T,T,T,T,T,F,F,F,F,F,F,F,F,F,F] rfl rfl (any_of HT_.out (by kernel_rfl)) (fun _ _ _ h=>h) (Or.inr ⟨by rfl,rfl⟩) ?_ ?_
            rotate_left
            ·simp only [Act.put,zz21,zz22,zz23,i64_w,i32_w]
             rfl
            refine pure_ (i:=24) (N:=some 54) (v:=undef) (a':=?_) #[T,T,T,T,T,T,T,T,T,T,T,T,T,T,T,T,T,T,T,T,T,T,T,T,T,F,F,F,F,F,F,F,F,F] rfl rfl (any_of HT_.out (by kernel_rfl)) (fun _ _ _ h=>h) (Or.inr ⟨by rfl,rfl⟩) ?_ ?_
            rotate_left
            ·simp only [Act.put,zz21,zz22,zz23,i64_w,i32_w]
             rfl
            refine pure_ (i:=25) (N:=some 55) (v:=undef) (a':=?_) #[T,T,T,T,T,T,T,T,T,T,T,T,T,T,T,T,T,T,T,T,T,T,T,T,T,T,F,F,F,F,F,F,F,F] rfl rfl (any_of HT_.out (by kernel_rfl)) (fun _ _ _ h=>h) (Or.inr ⟨by rfl,rfl⟩) ?_ ?_
            rotate_left
            ·simp only [Act.put,zz21,zz22,zz23,i64_w,i32_w]
             rfl
            refine pure_ (i:=26) (N:=some 56) (v:=undef) (a':=?_) #[T,T,T,T,T,T,T,T,T,T,T,T,T,T,T,T,T,T,T,T,T,T,T,T,T,T,T,F,F,F,F,F,F,F] rfl rfl (any_of HT_.out (by kernel_rfl)) (fun _ _ _ h=>h) (Or.inr ⟨by rfl,rfl⟩) ?_ ?_
            rotate_left
            ·simp only [Act.put,zz21,zz22,zz23,i64_w,i32_w]
             rfl
            refine pure_ (i:=27) (N:=some 57) (v:=undef) (a':=?_) #[T,T,T,T,T,T,T,T,T,T,T,T,T,T,T,T,T,T,T,T,T,T,T,T,T,T,T,T,F,F,F,F,F,F] rfl rfl (any_of HT_.out (by kernel_rfl)) (fun _ _ _ h=>h) (Or.inr ⟨by rfl,rfl⟩) ?_ ?_
            rotate_left
            ·simp only [Act.put,zz21,zz22,zz23,i64_w,i32_w]
             rfl
            refine pure_ (i:=28) (N:=some 58) (v:=undef) (a':=?_) #[T,T,T,T,T,T,T,T,T,T,T,T,T,T,T,T,T,T,T,T,T,T,T,T,T,T,T,T,T,F,F,F,F,F] rfl rfl (any_of HT_.out (by kernel_rfl)) (fun _ _ _ h=>h) (Or.inr ⟨by rfl,rfl⟩) ?_ ?_
            rotate_left
            ·simp only [Act.put,zz21,zz22,zz23,i64_w,i32_w]
             rfl
            refine pure_ (i:=29) (N:=some 59) (v:=undef) (a':=?_) #[T,T,T,T,T,T,T,T,T,T,T,T,T,T,T,T,T,T,T,T,T,T,T,T,T,T,T,T,T,T,F,F,F,F] rfl rfl (any_of HT_.out (by kernel_rfl)) (fun _ _ _ h=>h) (Or.inr ⟨by rfl,rfl⟩) ?_ ?_
            rotate_left
            ·simp only [Act.put,zz21,zz22,zz23,i64_w,i32_w]
             rfl
            refine pure_ (i:=30) (N:=some 60) (v:=undef) (a':=?_) #[T,T,T,T,T,T,T,T,T,T,T,T,T,T,T,T,T,T,T,T,T,T,T,T,T,T,T,T,T,T,T,F,F,F] rfl rfl (any_of HT_.out (by kernel_rfl)) (fun _ _ _ h=>h) (Or.inr ⟨by rfl,rfl⟩) ?_ ?_
            rotate_left
            ·simp only [Act.put,zz21,zz22,zz23,i64_w,i32_w]
             rfl
            refine pure_ (i:=31) (N:=some 61) (v:=undef) (a':=?_) #[T,T,T,T,T,T,T,T,T,T,T,T,T,T,T,T,T,T,T,T,T,T,T,T,T,T,T,T,T,T,T,T,F,F] rfl rfl (any_of HT_.out (by kernel_rfl)) (fun _ _ _ h=>h) (Or.inr ⟨by rfl,rfl⟩) ?_ ?_
            rotate_left
            ·simp only [Act.put,zz21,zz22,zz23,i64_w,i32_w]
             rfl
            refine zz32 (v:=?_) (a':=?_) 32 (some 62) #[T,T,T,T,T,T,T,T,T,T,T,T,T,T,T,T,T,T,T,T,T,T,T,T,T,T,T,T,T,T,T,T,T,F] rfl rfl HT_.out (by kernel_rfl) (fun _ _ _ h=>h) (by rfl) (fun w'=>?_) ?_ ?_;rotate_left;(go_simp;with_reducible rfl);rotate_left;(simp only [Act.put,zz21,zz22,zz23,i64_w,i32_w];rfl)
            refine zz32 (v:=?_) (a':=?_) 33 (some 63) #[T,T,T,T,T,T,T,T,T,T,T,T,T,T,T,T,T,T,T,T,T,T,T,T,T,T,T,T,T,T,T,T,T,T] rfl rfl HT_.out (by kernel_rfl) (fun _ _ _ h=>h) (by rfl) (fun w'=>?_) ?_ ?_;rotate_left;(go_simp;with_reducible rfl);rotate_left;(simp only [Act.put,zz21,zz22,zz23,i64_w,i32_w];rfl)
            refine done_ (done_of HT_.out (by kernel_rfl)) ?_
            try go_wp2
            go_roundg k2
            case measure=>have:=HJ1.out;have:=HK2.out;omega
            case rel=>exact ⟨(wrap64 (x25_2+1)),(by first | rfl | (simp;done) | (simp [*];done)),H',⟨by have:=HJ1.out;have:=HK2.out;omega⟩,⟨by (with_reducible repeat (first | refine zz6 ?_ _ | refine zz7 ?_ | refine zz8 ?_ _));exact BK135.out⟩,⟨by repeat first | exact HB.out | apply zz2 | apply zz0 | apply zz1 | refine zz3 ?_ GE135.out | refine zz3 ?_ GE138.out⟩⟩
          ·replace c16:=Bool.eq_false_iff.mpr c16
           subst c16
           have H1:(some false)=some r:=by rw [if_neg (show ¬ (false=true) by decide)] at H;exact H
           clear H
           have H:=H1
           clear H1
           obtain rfl:=Option.some.inj H
           have p137:0≤(x25_2:Int):=zz29 (by first | (with_reducible assumption) | assumption)
           have q137:x25_2 < (l0_1.length:Int):=zz29 (by first | (with_reducible assumption) | assumption)
           obtain ⟨ad137,e137,hx137_0,hx137_1⟩:=at_T70 HR0_1.out x25_2 p137 q137
           cases e137
           try replace hx137_0:=(HB.out.cell (World.block_lt_of_cell? w _ hx137_0)).trans hx137_0
           try replace hx137_1:=(HB.out.cell (World.block_lt_of_cell? w _ hx137_1)).trans hx137_1
           replace p137:=eq_true p137
           replace q137:=eq_true q137
           try go_wp2_with (first | ((with_reducible refine gate_dst (N:=4) rfl ?_);(try (refine gate_guard (by rfl) ?_;dsimp only));refine box_event ?hg (N:=4) ?hd (cs:=#[.int .i64 0,.int .i64 0]) (t:=70) ?hr ?_;(case hd=>rfl);(case hg=>rfl);(case hr=>first | (go_simp;done) | (go_simp;rfl));intro gb138 hg w40 hbox hb;have BK138:=zz31 (hbox);have GW138:=zz31 ((by rw [hg];exact (zz5 (by repeat first | exact HB.out | apply zz2 | apply zz0 | apply zz1 | refine zz3 ?_ GE135.out)):w.heap.size≤gb138));replace HB:=zz31 (zz4 (by repeat first | exact HB.out | apply zz2 | apply zz0 | apply zz1 | refine zz3 ?_ GE135.out) hb);have GE138:=GW138;have NB135_138:=zz31 ((by rw [hg];exact Nat.ne_of_lt (blk_lt (g:=gb135) (o:=.cells #[.int .i64 a0_0,.slice (some ad137) l0_1.length c0_1] 30 (0,0)) (by (with_reducible repeat (first | refine zz6 ?_ _ | refine zz7 ?_ | refine zz8 ?_ _));exact BK135.out)):gb135 ≠ gb138));have NB138_135:=zz31 ((by rw [hg];exact Nat.ne_of_gt (blk_lt (g:=gb135) (o:=.cells #[.int .i64 a0_0,.slice (some ad137) l0_1.length c0_1] 30 (0,0)) (by (with_reducible repeat (first | refine zz6 ?_ _ | refine zz7 ?_ | refine zz8 ?_ _));exact BK135.out)):gb138 ≠ gb135));replace BK135:=zz31 (zz11 (g:=gb135) (o:=.cells #[.int .i64 a0_0,.slice (some ad137) l0_1.length c0_1] 30 (0,0)) (by (with_reducible repeat (first | refine zz6 ?_ _ | refine zz7 ?_ | refine zz8 ?_ _));exact BK135.out) hb);clear hb hbox hg;have hnb41:=NB138_135.out;have hnc41:=NB135_138.out;have hcz42_0:w40.cell? ⟨gb138,0,none⟩=some (.int .i64 0):=(zz9 BK138.out 0).trans rfl;have hcz42_1:w40.cell? ⟨gb138,1,none⟩=some (.int .i64 0):=(zz9 BK138.out 1).trans rfl;have hfz42_0:=zz10 BK138.out 0;have hfz42_1:=zz10 BK138.out 1))
           have n0_:Aside0 (((w40.setCell ⟨gb138,0,none⟩ (.int .i64 ((rd_T70 l0_1 x25_2).f0))).setCell ⟨gb138,1,none⟩ (.int .i64 ((rd_T70 l0_1 x25_2).f1))).heap[gb135]?=some (.cells #[.int .i64 a0_0,.slice (some ad137) l0_1.length c0_1] 30 (0,0))):=⟨by (with_reducible repeat (first | refine zz6 ?_ _ | refine zz7 ?_ | refine zz8 ?_ _));refine blk_far ?_ NB135_138.out _;(with_reducible repeat (first | refine zz6 ?_ _ | refine zz7 ?_ | refine zz8 ?_ _));refine blk_far ?_ NB135_138.out _;(with_reducible repeat (first | refine zz6 ?_ _ | refine zz7 ?_ | refine zz8 ?_ _));exact BK135.out⟩
           have n1_:Aside0 (((w40.setCell ⟨gb138,0,none⟩ (.int .i64 ((rd_T70 l0_1 x25_2).f0))).setCell ⟨gb138,1,none⟩ (.int .i64 ((rd_T70 l0_1 x25_2).f1))).heap[gb138]?=some (.cells #[.int .i64 ((rd_T70 l0_1 x25_2).f0),.int .i64 ((rd_T70 l0_1 x25_2).f1)] 70 (0,0))):=⟨by (with_reducible repeat (first | refine zz6 ?_ _ | refine zz7 ?_ | refine zz8 ?_ _));refine blk_put (cs:=#[.int .i64 ((rd_T70 l0_1 x25_2).f0),.int .i64 0]) ?_ 1 _ rfl;(with_reducible repeat (first | refine zz6 ?_ _ | refine zz7 ?_ | refine zz8 ?_ _));refine blk_put (cs:=#[.int .i64 0,.int .i64 0]) ?_ 0 _ rfl;(with_reducible repeat (first | refine zz6 ?_ _ | refine zz7 ?_ | refine zz8 ?_ _));exact BK138.out⟩
           have n2_:Aside0 (Below w.heap.size w ((w40.setCell ⟨gb138,0,none⟩ (.int .i64 ((rd_T70 l0_1 x25_2).f0))).setCell ⟨gb138,1,none⟩ (.int .i64 ((rd_T70 l0_1 x25_2).f1)))):=⟨by repeat first | exact HB.out | apply zz2 | apply zz0 | apply zz1 | refine zz3 ?_ GE135.out | refine zz3 ?_ GE138.out⟩
           (try clear BK135)
           (try clear BK138)
           (try clear HB)
           generalize ((w40.setCell ⟨gb138,0,none⟩ (.int .i64 ((rd_T70 l0_1 x25_2).f0))).setCell ⟨gb138,1,none⟩ (.int .i64 ((rd_T70 l0_1 x25_2).f1)))=w43 at n0_ n1_ n2_ ⊢
           have BK135:=n0_
           have BK138:=n1_
           have HB:=n2_
           clear n0_ n1_ n2_
           replace BK135:=zz31 (zz7 BK135.out)
           replace BK138:=zz31 (zz7 BK138.out)
           replace HB:=zz31 (zz1 HB.out)
           refine start_ (n:=34) (S:=fun w'=>w'.cell? ⟨gb138,0,none⟩=some (.int .i64 ((rd_T70 l0_1 x25_2).f0))∧w'.cell? ⟨gb138,1,none⟩=some (.int .i64 ((rd_T70 l0_1 x25_2).f1))∧w'.cell? ⟨gb135,0,none⟩=some (.int .i64 a0_0)∧w'.cell? ⟨gb135,1,none⟩=some (.slice (some ad137) l0_1.length c0_1)) (ds:=[]) #[F,F,F,F,F,F,F,F,F,F,F,F,F,F,F,F,F,F,F,F,F,F,F,F,F,F,F,F,F,F,F,F,F,F] (by kernel_rfl) rfl rfl ⟨(zz9 BK138.out 0).trans rfl,(zz9 BK138.out 1).trans rfl,(zz9 BK135.out 0).trans rfl,(zz9 BK135.out 1).trans rfl⟩ (fun hHeld=>?_);refine with_tabW spec_paGood.tab6 spec_paGood.bits6 (fun HT_ HW_=>?_)
           generalize w43.drew=w44 at BK135 BK138 HB hHeld ⊢
           refine zz32 (v:=?_) (a':=?_) 0 (some 30) #[T,F,F,F,F,F,F,F,F,F,F,F,F,F,F,F,F,F,F,F,F,F,F,F,F,F,F,F,F,F,F,F,F,F] rfl rfl HT_.out (by kernel_rfl) (fun _ _ _ h=>h) (by rfl) (fun w'=>?_) ?_ ?_;rotate_left;(go_simp;with_reducible rfl);rotate_left;(simp only [Act.put,zz21,zz22,zz23,i64_w,i32_w];rfl)
           refine zz32 (v:=?_) (a':=?_) 2 (some 32) #[T,F,T,F,F,F,F,F,F,F,F,F,F,F,F,F,F,F,F,F,F,F,F,F,F,F,F,F,F,F,F,F,F,F] rfl rfl HT_.out (by kernel_rfl) (fun _ _ _ h=>h) (by rfl) (fun w'=>?_) ?_ ?_;rotate_left;(go_simp;with_reducible rfl);rotate_left;(simp only [Act.put,zz21,zz22,zz23,i64_w,i32_w];rfl)
           refine zz33 (v:=?_) (a':=?_) 1 (some 31) #[T,T,T,F,F,F,F,F,F,F,F,F,F,F,F,F,F,F,F,F,F,F,F,F,F,F,F,F,F,F,F,F,F,F] rfl rfl HT_.out HW_.out (by kernel_rfl) (fun _ _ _ h=>h) (by rfl) ?_ hHeld ?_ ?_;rotate_left;(rintro w' ⟨s0,s1,s2,s3⟩;go_simp;with_reducible rfl);rotate_left;(simp only [Act.put,zz21,zz22,zz23,i64_w,i32_w];rfl)
           refine zz33 (v:=?_) (a':=?_) 3 (some 33) #[T,T,T,T,F,F,F,F,F,F,F,F,F,F,F,F,F,F,F,F,F,F,F,F,F,F,F,F,F,F,F,F,F,F] rfl rfl HT_.out HW_.out (by kernel_rfl) (fun _ _ _ h=>h) (by rfl) ?_ hHeld ?_ ?_;rotate_left;(rintro w' ⟨s0,s1,s2,s3⟩;go_simp;with_reducible rfl);rotate_left;(simp only [Act.put,zz21,zz22,zz23,i64_w,i32_w];rfl)
           refine zz32 (v:=?_) (a':=?_) 4 (some 34) #[T,T,T,T,T,F,F,F,F,F,F,F,F,F,F,F,F,F,F,F,F,F,F,F,F,F,F,F,F,F,F,F,F,F] rfl rfl HT_.out (by kernel_rfl) (fun _ _ _ h=>h) (by rfl) (fun w'=>?_) ?_ ?_;rotate_left;(go_simp;with_reducible rfl);rotate_left;(simp only [Act.put,zz21,zz22,zz23,i64_w,i32_w];rfl)
           refine one_ (i:=5) (N:=some 35) #[T,T,T,T,T,T,F,F,F,F,F,F,F,F,F,F,F,F,F,F,F,F,F,F,F,F,F,F,F,F,F,F,F,F] rfl rfl (one_of HT_.out (by kernel_rfl)) (by decide) (fun K hK=>?_)
           refine goes_ Try.func74 (by kernel_rfl) rfl #[.int .i64 ((rd_T70 l0_1 x25_2).f0),.int .i64 0,.int .i64 (wrap64 (a0_0 - 1))] (by rfl) rfl rfl (by (try simp only [zz26,zz27,zz28]);first | done | rfl | (simp only [zz24,zz25];rfl)) ?_
           with_reducible refine (spec_l1In.calls ((rd_T70 l0_1 x25_2).f0) 0 (wrap64 (a0_0 - 1)) true _ A13.out).mono ?_
           rintro e w' ⟨rfl,⟨nd,rfl⟩⟩
           refine ⟨_,rfl,?_⟩
           refine hK.out _ _ ⟨(zz9 BK138.out 0).trans rfl,(zz9 BK138.out 1).trans rfl,(zz9 BK135.out 0).trans rfl,(zz9 BK135.out 1).trans rfl⟩ (fun hHeld=>?_)
           clear hK K
           refine norm_ (a':=?_) ?_ ?_;rotate_left;(show Act.put _ (some 35) _=_;simp only [Act.put,zz21,zz22,zz23,i64_w,i32_w];rfl)
           refine zz32 (v:=?_) (a':=?_) 6 (some 36) #[T,T,T,T,T,T,T,F,F,F,F,F,F,F,F,F,F,F,F,F,F,F,F,F,F,F,F,F,F,F,F,F,F,F] rfl rfl HT_.out (by kernel_rfl) (fun _ _ _ h=>h) (by rfl) (fun w'=>?_) ?_ ?_;rotate_left;(go_simp;with_reducible rfl);rotate_left;(simp only [Act.put,zz21,zz22,zz23,i64_w,i32_w];rfl)
           refine zz32 (v:=?_) (a':=?_) 7 (some 37) #[T,T,T,T,T,T,T,T,F,F,F,F,F,F,F,F,F,F,F,F,F,F,F,F,F,F,F,F,F,F,F,F,F,F] rfl rfl HT_.out (by kernel_rfl) (fun _ _ _ h=>h) (by rfl) (fun w'=>?_) ?_ ?_;rotate_left;(go_simp;with_reducible rfl);rotate_left;(simp only [Act.put,zz21,zz22,zz23,i64_w,i32_w];rfl)
           refine zz32 (v:=?_) (a':=?_) 8 (some 38) #[T,T,T,T,T,T,T,T,T,F,F,F,F,F,F,F,F,F,F,F,F,F,F,F,F,F,F,F,F,F,F,F,F,F] rfl rfl HT_.out (by kernel_rfl) (fun _ _ _ h=>h) (by rfl) (fun w'=>?_) ?_ ?_;rotate_left;(go_simp;with_reducible rfl);rotate_left;(simp only [Act.put,zz21,zz22,zz23,i64_w,i32_w];rfl)
           refine zz32 (v:=?_) (a':=?_) 10 (some 40) #[T,T,T,T,T,T,T,T,T,F,T,F,F,F,F,F,F,F,F,F,F,F,F,F,F,F,F,F,F,F,F,F,F,F] rfl rfl HT_.out (by kernel_rfl) (fun _ _ _ h=>h) (by rfl) (fun w'=>?_) ?_ ?_;rotate_left;(go_simp;with_reducible rfl);rotate_left;(simp only [Act.put,zz21,zz22,zz23,i64_w,i32_w];rfl)
           refine zz32 (v:=?_) (a':=?_) 13 (some 43) #[T,T,T,T,T,T,T,T,T,F,T,F,F,T,F,F,F,F,F,F,F,F,F,F,F,F,F,F,F,F,F,F,F,F] rfl rfl HT_.out (by kernel_rfl) (fun _ _ _ h=>h) (by rfl) (fun w'=>?_) ?_ ?_;rotate_left;(go_simp;with_reducible rfl);rotate_left;(simp only [Act.put,zz21,zz22,zz23,i64_w,i32_w];rfl)
           refine zz33 (v:=?_) (a':=?_) 9 (some 39) #[T,T,T,T,T,T,T,T,T,T,T,F,F,T,F,F,F,F,F,F,F,F,F,F,F,F,F,F,F,F,F,F,F,F] rfl rfl HT_.out HW_.out (by kernel_rfl) (fun _ _ _ h=>h) (by rfl) ?_ hHeld ?_ ?_;rotate_left;(rintro w' ⟨s0,s1,s2,s3⟩;go_simp;with_reducible rfl);rotate_left;(simp only [Act.put,zz21,zz22,zz23,i64_w,i32_w];rfl)
           refine zz33 (v:=?_) (a':=?_) 11 (some 41) #[T,T,T,T,T,T,T,T,T,T,T,T,F,T,F,F,F,F,F,F,F,F,F,F,F,F,F,F,F,F,F,F,F,F] rfl rfl HT_.out HW_.out (by kernel_rfl) (fun _ _ _ h=>h) (by rfl) ?_ hHeld ?_ ?_;rotate_left;(rintro w' ⟨s0,s1,s2,s3⟩;go_simp;with_reducible rfl);rotate_left;(simp only [Act.put,zz21,zz22,zz23,i64_w,i32_w];rfl)
           refine zz32 (v:=?_) (a':=?_) 12 (some 42) #[T,T,T,T,T,T,T,T,T,T,T,T,T,T,F,F,F,F,F,F,F,F,F,F,F,F,F,F,F,F,F,F,F,F] rfl rfl HT_.out (by kernel_rfl) (fun _ _ _ h=>h) (by rfl) (fun w'=>?_) ?_ ?_;rotate_left;(go_simp;with_reducible rfl);rotate_left;(simp only [Act.put,zz21,zz22,zz23,i64_w,i32_w];rfl)
           refine zz33 (v:=?_) (a':=?_) 14 (some 44) #[T,T,T,T,T,T,T,T,T,T,T,T,T,T,T,F,F,F,F,F,F,F,F,F,F,F,F,F,F,F,F,F,F,F] rfl rfl HT_.out HW_.out (by kernel_rfl) (fun _ _ _ h=>h) (by rfl) ?_ hHeld ?_ ?_;rotate_left;(rintro w' ⟨s0,s1,s2,s3⟩;go_simp;with_reducible rfl);rotate_left;(simp only [Act.put,zz21,zz22,zz23,i64_w,i32_w];rfl)
           refine zz32 (v:=?_) (a':=?_) 15 (some 45) #[T,T,T,T,T,T,T,T,T,T,T,T,T,T,T,T,F,F,F,F,F,F,F,F,F,F,F,F,F,F,F,F,F,F] rfl rfl HT_.out (by kernel_rfl) (fun _ _ _ h=>h) (by rfl) (fun w'=>?_) ?_ ?_;rotate_left;(go_simp;with_reducible rfl);rotate_left;(simp only [Act.put,zz21,zz22,zz23,i64_w,i32_w];rfl)
           refine one_ (i:=16) (N:=some 46) #[T,T,T,T,T,T,T,T,T,T,T,T,T,T,T,T,T,F,F,F,F,F,F,F,F,F,F,F,F,F,F,F,F,F] rfl rfl (one_of HT_.out (by kernel_rfl)) (by decide) (fun K hK=>?_)
           refine goes_ Try.func74 (by kernel_rfl) rfl #[.int .i64 ((rd_T70 l0_1 x25_2).f1),.int .i64 (wrap64 (((rd_T70 l0_1 x25_2).f0)+1)),.int .i64 (wrap64 (a0_0 - 1))] (by rfl) rfl rfl (by (try simp only [zz26,zz27,zz28]);first | done | rfl | (simp only [zz24,zz25];rfl)) ?_
           with_reducible refine (spec_l1In.calls ((rd_T70 l0_1 x25_2).f1) (wrap64 (((rd_T70 l0_1 x25_2).f0)+1)) (wrap64 (a0_0 - 1)) false _ A15.out).mono ?_
           rintro e w' ⟨rfl,⟨nd,rfl⟩⟩
           refine ⟨_,rfl,?_⟩
           refine hK.out _ _ ⟨(zz9 BK138.out 0).trans rfl,(zz9 BK138.out 1).trans rfl,(zz9 BK135.out 0).trans rfl,(zz9 BK135.out 1).trans rfl⟩ (fun hHeld=>?_)
           clear hK K
           refine norm_ (a':=?_) ?_ ?_;rotate_left;(show Act.put _ (some 46) _=_;simp only [Act.put,zz21,zz22,zz23,i64_w,i32_w];rfl)
           refine zz32 (v:=?_) (a':=?_) 17 (some 47) #[T,T,T,T,T,T,T,T,T,T,T,T,T,T,T,T,T,T,F,F,F,F,F,F,F,F,F,F,F,F,F,F,F,F] rfl rfl HT_.out (by kernel_rfl) (fun _ _ _ h=>h) (by rfl) (fun w'=>?_) ?_ ?_;rotate_left;(go_simp;with_reducible rfl);rotate_left;(simp only [Act.put,zz21,zz22,zz23,i64_w,i32_w];rfl)
           refine zz32 (v:=?_) (a':=?_) 18 (some 48) #[T,T,T,T,T,T,T,T,T,T,T,T,T,T,T,T,T,T,T,F,F,F,F,F,F,F,F,F,F,F,F,F,F,F] rfl rfl HT_.out (by kernel_rfl) (fun _ _ _ h=>h) (by rfl) (fun w'=>?_) ?_ ?_;rotate_left;(go_simp;with_reducible rfl);rotate_left;(simp only [Act.put,zz21,zz22,zz23,i64_w,i32_w];rfl)
           refine zz32 (v:=?_) (a':=?_) 19 (some 49) #[T,T,T,T,T,T,T,T,T,T,T,T,T,T,T,T,T,T,T,T,F,F,F,F,F,F,F,F,F,F,F,F,F,F] rfl rfl HT_.out (by kernel_rfl) (fun _ _ _ h=>h) (by rfl) (fun w'=>?_) ?_ ?_;rotate_left;(go_simp;with_reducible rfl);rotate_left;(simp only [Act.put,zz21,zz22,zz23,i64_w,i32_w];rfl)
           refine pure_ (i:=20) (N:=some 50) (v:=undef) (a':=?_) #[T,T,T,T,T,T,T,T,T,T,T,T,T,T,T,T,T,T,T,T,T,F,F,F,F,F,F,F,F,F,F,F,F,F] rfl rfl (any_of HT_.out (by kernel_rfl)) (fun _ _ _ h=>h) (Or.inr ⟨by rfl,rfl⟩) ?_ ?_
           rotate_left
           ·simp only [Act.put,zz21,zz22,zz23,i64_w,i32_w]
            rfl
           refine pure_ (i:=21) (N:=some 51) (v:=undef) (a':=?_) #[T,T,T,T,T,T,T,T,T,T,T,T,T,T,T,T,T,T,T,T,T,T,F,F,F,F,F,F,F,F,F,F,F,F] rfl rfl (any_of HT_.out (by kernel_rfl)) (fun _ _ _ h=>h) (Or.inr ⟨by rfl,rfl⟩) ?_ ?_
           rotate_left
           ·simp only [Act.put,zz21,zz22,zz23,i64_w,i32_w]
            rfl
           refine pure_ (i:=22) (N:=some 52) (v:=undef) (a':=?_) #[T,T,T,T,T,T,T,T,T,T,T,T,T,T,T,T,T,T,T,T,T,T,T,F,F,F,F,F,F,F,F,F,F,F] rfl rfl (any_of HT_.out (by kernel_rfl)) (fun _ _ _ h=>h) (Or.inr ⟨by rfl,rfl⟩) ?_ ?_
           rotate_left
           ·simp only [Act.put,zz21,zz22,zz23,i64_w,i32_w]
            rfl
           refine pure_ (i:=23) (N:=some 53) (v:=undef) (a':=?_) #[T,T,T,T,T,T,T,T,T,T,T,T,T,T,T,T,T,T,T,T,T,T,T,T,F,F,F,F,F,F,F,F,F,F] rfl rfl (any_of HT_.out (by kernel_rfl)) (fun _ _ _ h=>h) (Or.inr ⟨by rfl,rfl⟩) ?_ ?_
           rotate_left
           ·simp only [Act.put,zz21,zz22,zz23,i64_w,i32_w]
            rfl
           refine pure_ (i:=24) (N:=some 54) (v:=undef) (a':=?_) #[T,T,T,T,T,T,T,T,T,T,T,T,T,T,T,T,T,T,T,T,T,T,T,T,T,F,F,F,F,F,F,F,F,F] rfl rfl (any_of HT_.out (by kernel_rfl)) (fun _ _ _ h=>h) (Or.inr ⟨by rfl,rfl⟩) ?_ ?_
           rotate_left
           ·simp only [Act.put,zz21,zz22,zz23,i64_w,i32_w]
            rfl
           refine pure_ (i:=25) (N:=some 55) (v:=undef) (a':=?_) #[T,T,T,T,T,T,T,T,T,T,T,T,T,T,T,T,T,T,T,T,T,T,T,T,T,T,F,F,F,F,F,F,F,F] rfl rfl (any_of HT_.out (by kernel_rfl)) (fun _ _ _ h=>h) (Or.inr ⟨by rfl,rfl⟩) ?_ ?_
           rotate_left
           ·simp only [Act.put,zz21,zz22,zz23,i64_w,i32_w]
            rfl
           refine pure_ (i:=26) (N:=some 56) (v:=undef) (a':=?_) #[T,T,T,T,T,T,T,T,T,T,T,T,T,T,T,T,T,T,T,T,T,T,T,T,T,T,T,F,F,F,F,F,F,F] rfl rfl (any_of HT_.out (by kernel_rfl)) (fun _ _ _ h=>h) (Or.inr ⟨by rfl,rfl⟩) ?_ ?_
           rotate_left
           ·simp only [Act.put,zz21,zz22,zz23,i64_w,i32_w]
            rfl
           refine pure_ (i:=27) (N:=some 57) (v:=undef) (a':=?_) #[T,T,T,T,T,T,T,T,T,T,T,T,T,T,T,T,T,T,T,T,T,T,T,T,T,T,T,T,F,F,F,F,F,F] rfl rfl (any_of HT_.out (by kernel_rfl)) (fun _ _ _ h=>h) (Or.inr ⟨by rfl,rfl⟩) ?_ ?_
           rotate_left
           ·simp only [Act.put,zz21,zz22,zz23,i64_w,i32_w]
            rfl
           refine pure_ (i:=28) (N:=some 58) (v:=undef) (a':=?_) #[T,T,T,T,T,T,T,T,T,T,T,T,T,T,T,T,T,T,T,T,T,T,T,T,T,T,T,T,T,F,F,F,F,F] rfl rfl (any_of HT_.out (by kernel_rfl)) (fun _ _ _ h=>h) (Or.inr ⟨by rfl,rfl⟩) ?_ ?_
           rotate_left
           ·simp only [Act.put,zz21,zz22,zz23,i64_w,i32_w]
            rfl
           refine pure_ (i:=29) (N:=some 59) (v:=undef) (a':=?_) #[T,T,T,T,T,T,T,T,T,T,T,T,T,T,T,T,T,T,T,T,T,T,T,T,T,T,T,T,T,T,F,F,F,F] rfl rfl (any_of HT_.out (by kernel_rfl)) (fun _ _ _ h=>h) (Or.inr ⟨by rfl,rfl⟩) ?_ ?_
           rotate_left
           ·simp only [Act.put,zz21,zz22,zz23,i64_w,i32_w]
            rfl
           refine pure_ (i:=30) (N:=some 60) (v:=undef) (a':=?_) #[T,T,T,T,T,T,T,T,T,T,T,T,T,T,T,T,T,T,T,T,T,T,T,T,T,T,T,T,T,T,T,F,F,F] rfl rfl (any_of HT_.out (by kernel_rfl)) (fun _ _ _ h=>h) (Or.inr ⟨by rfl,rfl⟩) ?_ ?_
           rotate_left
           ·simp only [Act.put,zz21,zz22,zz23,i64_w,i32_w]
            rfl
           refine pure_ (i:=31) (N:=some 61) (v:=undef) (a':=?_) #[T,T,T,T,T,T,T,T,T,T,T,T,T,T,T,T,T,T,T,T,T,T,T,T,T,T,T,T,T,T,T,T,F,F] rfl rfl (any_of HT_.out (by kernel_rfl)) (fun _ _ _ h=>h) (Or.inr ⟨by rfl,rfl⟩) ?_ ?_
           rotate_left
           ·simp only [Act.put,zz21,zz22,zz23,i64_w,i32_w]
            rfl
           refine pure_ (i:=32) (N:=some 62) (v:=undef) (a':=?_) #[T,T,T,T,T,T,T,T,T,T,T,T,T,T,T,T,T,T,T,T,T,T,T,T,T,T,T,T,T,T,T,T,T,F] rfl rfl (any_of HT_.out (by kernel_rfl)) (fun _ _ _ h=>h) (Or.inr ⟨by rfl,rfl⟩) ?_ ?_
           rotate_left
           ·simp only [Act.put,zz21,zz22,zz23,i64_w,i32_w]
            rfl
           refine zz32 (v:=?_) (a':=?_) 33 (some 63) #[T,T,T,T,T,T,T,T,T,T,T,T,T,T,T,T,T,T,T,T,T,T,T,T,T,T,T,T,T,T,T,T,T,T] rfl rfl HT_.out (by kernel_rfl) (fun _ _ _ h=>h) (by rfl) (fun w'=>?_) ?_ ?_;rotate_left;(go_simp;with_reducible rfl);rotate_left;(simp only [Act.put,zz21,zz22,zz23,i64_w,i32_w];rfl)
           refine done_ (done_of HT_.out (by kernel_rfl)) ?_
           try go_wp2
           go_ret
           exact ⟨by first | rfl | (simp [errW_none,errW_some] <;> rfl) | (simp [*,errW_none,errW_some] <;> rfl),by repeat first | exact HB.out | apply zz2 | apply zz0 | apply zz1 | refine zz3 ?_ GE135.out | refine zz3 ?_ GE138.out⟩
         ·replace c14:=Bool.eq_false_iff.mpr c14
          subst c14
          have H1:(some false)=some r:=by rw [if_neg (show ¬ (false=true) by decide)] at H;exact H
          clear H
          have H:=H1
          clear H1
          obtain rfl:=Option.some.inj H
          have p137:0≤(x25_2:Int):=zz29 (by first | (with_reducible assumption) | assumption)
          have q137:x25_2 < (l0_1.length:Int):=zz29 (by first | (with_reducible assumption) | assumption)
          obtain ⟨ad137,e137,hx137_0,hx137_1⟩:=at_T70 HR0_1.out x25_2 p137 q137
          cases e137
          try replace hx137_0:=(HB.out.cell (World.block_lt_of_cell? w _ hx137_0)).trans hx137_0
          try replace hx137_1:=(HB.out.cell (World.block_lt_of_cell? w _ hx137_1)).trans hx137_1
          replace p137:=eq_true p137
          replace q137:=eq_true q137
          try go_wp2_with (first | ((with_reducible refine gate_dst (N:=4) rfl ?_);(try (refine gate_guard (by rfl) ?_;dsimp only));refine box_event ?hg (N:=4) ?hd (cs:=#[.int .i64 0,.int .i64 0]) (t:=70) ?hr ?_;(case hd=>rfl);(case hg=>rfl);(case hr=>first | (go_simp;done) | (go_simp;rfl));intro gb138 hg w45 hbox hb;have BK138:=zz31 (hbox);have GW138:=zz31 ((by rw [hg];exact (zz5 (by repeat first | exact HB.out | apply zz2 | apply zz0 | apply zz1 | refine zz3 ?_ GE135.out)):w.heap.size≤gb138));replace HB:=zz31 (zz4 (by repeat first | exact HB.out | apply zz2 | apply zz0 | apply zz1 | refine zz3 ?_ GE135.out) hb);have GE138:=GW138;have NB135_138:=zz31 ((by rw [hg];exact Nat.ne_of_lt (blk_lt (g:=gb135) (o:=.cells #[.int .i64 a0_0,.slice (some ad137) l0_1.length c0_1] 30 (0,0)) (by (with_reducible repeat (first | refine zz6 ?_ _ | refine zz7 ?_ | refine zz8 ?_ _));exact BK135.out)):gb135 ≠ gb138));have NB138_135:=zz31 ((by rw [hg];exact Nat.ne_of_gt (blk_lt (g:=gb135) (o:=.cells #[.int .i64 a0_0,.slice (some ad137) l0_1.length c0_1] 30 (0,0)) (by (with_reducible repeat (first | refine zz6 ?_ _ | refine zz7 ?_ | refine zz8 ?_ _));exact BK135.out)):gb138 ≠ gb135));replace BK135:=zz31 (zz11 (g:=gb135) (o:=.cells #[.int .i64 a0_0,.slice (some ad137) l0_1.length c0_1] 30 (0,0)) (by (with_reducible repeat (first | refine zz6 ?_ _ | refine zz7 ?_ | refine zz8 ?_ _));exact BK135.out) hb);clear hb hbox hg;have hnb46:=NB138_135.out;have hnc46:=NB135_138.out;have hcz47_0:w45.cell? ⟨gb138,0,none⟩=some (.int .i64 0):=(zz9 BK138.out 0).trans rfl;have hcz47_1:w45.cell? ⟨gb138,1,none⟩=some (.int .i64 0):=(zz9 BK138.out 1).trans rfl;have hfz47_0:=zz10 BK138.out 0;have hfz47_1:=zz10 BK138.out 1))
          have n0_:Aside0 (((w45.setCell ⟨gb138,0,none⟩ (.int .i64 ((rd_T70 l0_1 x25_2).f0))).setCell ⟨gb138,1,none⟩ (.int .i64 ((rd_T70 l0_1 x25_2).f1))).heap[gb135]?=some (.cells #[.int .i64 a0_0,.slice (some ad137) l0_1.length c0_1] 30 (0,0))):=⟨by (with_reducible repeat (first | refine zz6 ?_ _ | refine zz7 ?_ | refine zz8 ?_ _));refine blk_far ?_ NB135_138.out _;(with_reducible repeat (first | refine zz6 ?_ _ | refine zz7 ?_ | refine zz8 ?_ _));refine blk_far ?_ NB135_138.out _;(with_reducible repeat (first | refine zz6 ?_ _ | refine zz7 ?_ | refine zz8 ?_ _));exact BK135.out⟩
          have n1_:Aside0 (((w45.setCell ⟨gb138,0,none⟩ (.int .i64 ((rd_T70 l0_1 x25_2).f0))).setCell ⟨gb138,1,none⟩ (.int .i64 ((rd_T70 l0_1 x25_2).f1))).heap[gb138]?=some (.cells #[.int .i64 ((rd_T70 l0_1 x25_2).f0),.int .i64 ((rd_T70 l0_1 x25_2).f1)] 70 (0,0))):=⟨by (with_reducible repeat (first | refine zz6 ?_ _ | refine zz7 ?_ | refine zz8 ?_ _));refine blk_put (cs:=#[.int .i64 ((rd_T70 l0_1 x25_2).f0),.int .i64 0]) ?_ 1 _ rfl;(with_reducible repeat (first | refine zz6 ?_ _ | refine zz7 ?_ | refine zz8 ?_ _));refine blk_put (cs:=#[.int .i64 0,.int .i64 0]) ?_ 0 _ rfl;(with_reducible repeat (first | refine zz6 ?_ _ | refine zz7 ?_ | refine zz8 ?_ _));exact BK138.out⟩
          have n2_:Aside0 (Below w.heap.size w ((w45.setCell ⟨gb138,0,none⟩ (.int .i64 ((rd_T70 l0_1 x25_2).f0))).setCell ⟨gb138,1,none⟩ (.int .i64 ((rd_T70 l0_1 x25_2).f1)))):=⟨by repeat first | exact HB.out | apply zz2 | apply zz0 | apply zz1 | refine zz3 ?_ GE135.out | refine zz3 ?_ GE138.out⟩
          (try clear BK135)
          (try clear BK138)
          (try clear HB)
          generalize ((w45.setCell ⟨gb138,0,none⟩ (.int .i64 ((rd_T70 l0_1 x25_2).f0))).setCell ⟨gb138,1,none⟩ (.int .i64 ((rd_T70 l0_1 x25_2).f1)))=w48 at n0_ n1_ n2_ ⊢
          have BK135:=n0_
          have BK138:=n1_
          have HB:=n2_
          clear n0_ n1_ n2_
          replace BK135:=zz31 (zz7 BK135.out)
          replace BK138:=zz31 (zz7 BK138.out)
          replace HB:=zz31 (zz1 HB.out)
          refine start_ (n:=34) (S:=fun w'=>w'.cell? ⟨gb138,0,none⟩=some (.int .i64 ((rd_T70 l0_1 x25_2).f0))∧w'.cell? ⟨gb138,1,none⟩=some (.int .i64 ((rd_T70 l0_1 x25_2).f1))∧w'.cell? ⟨gb135,0,none⟩=some (.int .i64 a0_0)∧w'.cell? ⟨gb135,1,none⟩=some (.slice (some ad137) l0_1.length c0_1)) (ds:=[]) #[F,F,F,F,F,F,F,F,F,F,F,F,F,F,F,F,F,F,F,F,F,F,F,F,F,F,F,F,F,F,F,F,F,F] (by kernel_rfl) rfl rfl ⟨(zz9 BK138.out 0).trans rfl,(zz9 BK138.out 1).trans rfl,(zz9 BK135.out 0).trans rfl,(zz9 BK135.out 1).trans rfl⟩ (fun hHeld=>?_);refine with_tabW spec_paGood.tab6 spec_paGood.bits6 (fun HT_ HW_=>?_)
          generalize w48.drew=w49 at BK135 BK138 HB hHeld ⊢
          refine zz32 (v:=?_) (a':=?_) 0 (some 30) #[T,F,F,F,F,F,F,F,F,F,F,F,F,F,F,F,F,F,F,F,F,F,F,F,F,F,F,F,F,F,F,F,F,F] rfl rfl HT_.out (by kernel_rfl) (fun _ _ _ h=>h) (by rfl) (fun w'=>?_) ?_ ?_;rotate_left;(go_simp;with_reducible rfl);rotate_left;(simp only [Act.put,zz21,zz22,zz23,i64_w,i32_w];rfl)
          refine zz32 (v:=?_) (a':=?_) 2 (some 32) #[T,F,T,F,F,F,F,F,F,F,F,F,F,F,F,F,F,F,F,F,F,F,F,F,F,F,F,F,F,F,F,F,F,F] rfl rfl HT_.out (by kernel_rfl) (fun _ _ _ h=>h) (by rfl) (fun w'=>?_) ?_ ?_;rotate_left;(go_simp;with_reducible rfl);rotate_left;(simp only [Act.put,zz21,zz22,zz23,i64_w,i32_w];rfl)
          refine zz33 (v:=?_) (a':=?_) 1 (some 31) #[T,T,T,F,F,F,F,F,F,F,F,F,F,F,F,F,F,F,F,F,F,F,F,F,F,F,F,F,F,F,F,F,F,F] rfl rfl HT_.out HW_.out (by kernel_rfl) (fun _ _ _ h=>h) (by rfl) ?_ hHeld ?_ ?_;rotate_left;(rintro w' ⟨s0,s1,s2,s3⟩;go_simp;with_reducible rfl);rotate_left;(simp only [Act.put,zz21,zz22,zz23,i64_w,i32_w];rfl)
          refine zz33 (v:=?_) (a':=?_) 3 (some 33) #[T,T,T,T,F,F,F,F,F,F,F,F,F,F,F,F,F,F,F,F,F,F,F,F,F,F,F,F,F,F,F,F,F,F] rfl rfl HT_.out HW_.out (by kernel_rfl) (fun _ _ _ h=>h) (by rfl) ?_ hHeld ?_ ?_;rotate_left;(rintro w' ⟨s0,s1,s2,s3⟩;go_simp;with_reducible rfl);rotate_left;(simp only [Act.put,zz21,zz22,zz23,i64_w,i32_w];rfl)
          refine zz32 (v:=?_) (a':=?_) 4 (some 34) #[T,T,T,T,T,F,F,F,F,F,F,F,F,F,F,F,F,F,F,F,F,F,F,F,F,F,F,F,F,F,F,F,F,F] rfl rfl HT_.out (by kernel_rfl) (fun _ _ _ h=>h) (by rfl) (fun w'=>?_) ?_ ?_;rotate_left;(go_simp;with_reducible rfl);rotate_left;(simp only [Act.put,zz21,zz22,zz23,i64_w,i32_w];rfl)
          refine one_ (i:=5) (N:=some 35) #[T,T,T,T,T,T,F,F,F,F,F,F,F,F,F,F,F,F,F,F,F,F,F,F,F,F,F,F,F,F,F,F,F,F] rfl rfl (one_of HT_.out (by kernel_rfl)) (by decide) (fun K hK=>?_)
          refine goes_ Try.func74 (by kernel_rfl) rfl #[.int .i64 ((rd_T70 l0_1 x25_2).f0),.int .i64 0,.int .i64 (wrap64 (a0_0 - 1))] (by rfl) rfl rfl (by (try simp only [zz26,zz27,zz28]);first | done | rfl | (simp only [zz24,zz25];rfl)) ?_
          with_reducible refine (spec_l1In.calls ((rd_T70 l0_1 x25_2).f0) 0 (wrap64 (a0_0 - 1)) false _ A13.out).mono ?_
          rintro e w' ⟨rfl,⟨nd,rfl⟩⟩
          refine ⟨_,rfl,?_⟩
          refine hK.out _ _ ⟨(zz9 BK138.out 0).trans rfl,(zz9 BK138.out 1).trans rfl,(zz9 BK135.out 0).trans rfl,(zz9 BK135.out 1).trans rfl⟩ (fun hHeld=>?_)
          clear hK K
          refine norm_ (a':=?_) ?_ ?_;rotate_left;(show Act.put _ (some 35) _=_;simp only [Act.put,zz21,zz22,zz23,i64_w,i32_w];rfl)
          refine zz32 (v:=?_) (a':=?_) 6 (some 36) #[T,T,T,T,T,T,T,F,F,F,F,F,F,F,F,F,F,F,F,F,F,F,F,F,F,F,F,F,F,F,F,F,F,F] rfl rfl HT_.out (by kernel_rfl) (fun _ _ _ h=>h) (by rfl) (fun w'=>?_) ?_ ?_;rotate_left;(go_simp;with_reducible rfl);rotate_left;(simp only [Act.put,zz21,zz22,zz23,i64_w,i32_w];rfl)
          refine zz32 (v:=?_) (a':=?_) 7 (some 37) #[T,T,T,T,T,T,T,T,F,F,F,F,F,F,F,F,F,F,F,F,F,F,F,F,F,F,F,F,F,F,F,F,F,F] rfl rfl HT_.out (by kernel_rfl) (fun _ _ _ h=>h) (by rfl) (fun w'=>?_) ?_ ?_;rotate_left;(go_simp;with_reducible rfl);rotate_left;(simp only [Act.put,zz21,zz22,zz23,i64_w,i32_w];rfl)
          refine pure_ (i:=8) (N:=some 38) (v:=undef) (a':=?_) #[T,T,T,T,T,T,T,T,T,F,F,F,F,F,F,F,F,F,F,F,F,F,F,F,F,F,F,F,F,F,F,F,F,F] rfl rfl (any_of HT_.out (by kernel_rfl)) (fun _ _ _ h=>h) (Or.inr ⟨by rfl,rfl⟩) ?_ ?_
          rotate_left
          ·simp only [Act.put,zz21,zz22,zz23,i64_w,i32_w]
           rfl
          refine pure_ (i:=9) (N:=some 39) (v:=undef) (a':=?_) #[T,T,T,T,T,T,T,T,T,T,F,F,F,F,F,F,F,F,F,F,F,F,F,F,F,F,F,F,F,F,F,F,F,F] rfl rfl (any_of HT_.out (by kernel_rfl)) (fun _ _ _ h=>h) (Or.inr ⟨by rfl,rfl⟩) ?_ ?_
          rotate_left
          ·simp only [Act.put,zz21,zz22,zz23,i64_w,i32_w]
           rfl
          refine pure_ (i:=10) (N:=some 40) (v:=undef) (a':=?_) #[T,T,T,T,T,T,T,T,T,T,T,F,F,F,F,F,F,F,F,F,F,F,F,F,F,F,F,F,F,F,F,F,F,F] rfl rfl (any_of HT_.out (by kernel_rfl)) (fun _ _ _ h=>h) (Or.inr ⟨by rfl,rfl⟩) ?_ ?_
          rotate_left
          ·simp only [Act.put,zz21,zz22,zz23,i64_w,i32_w]
           rfl
          refine pure_ (i:=11) (N:=some 41) (v:=undef) (a':=?_) #[T,T,T,T,T,T,T,T,T,T,T,T,F,F,F,F,F,F,F,F,F,F,F,F,F,F,F,F,F,F,F,F,F,F] rfl rfl (any_of HT_.out (by kernel_rfl)) (fun _ _ _ h=>h) (Or.inr ⟨by rfl,rfl⟩) ?_ ?_
          rotate_left
          ·simp only [Act.put,zz21,zz22,zz23,i64_w,i32_w]
           rfl
          refine pure_ (i:=12) (N:=some 42) (v:=undef) (a':=?_) #[T,T,T,T,T,T,T,T,T,T,T,T,T,F,F,F,F,F,F,F,F,F,F,F,F,F,F,F,F,F,F,F,F,F] rfl rfl (any_of HT_.out (by kernel_rfl)) (fun _ _ _ h=>h) (Or.inr ⟨by rfl,rfl⟩) ?_ ?_
          rotate_left
          ·simp only [Act.put,zz21,zz22,zz23,i64_w,i32_w]
           rfl
          refine pure_ (i:=13) (N:=some 43) (v:=undef) (a':=?_) #[T,T,T,T,T,T,T,T,T,T,T,T,T,T,F,F,F,F,F,F,F,F,F,F,F,F,F,F,F,F,F,F,F,F] rfl rfl (any_of HT_.out (by kernel_rfl)) (fun _ _ _ h=>h) (Or.inr ⟨by rfl,rfl⟩) ?_ ?_
          rotate_left
          ·simp only [Act.put,zz21,zz22,zz23,i64_w,i32_w]
           rfl
          refine pure_ (i:=14) (N:=some 44) (v:=undef) (a':=?_) #[T,T,T,T,T,T,T,T,T,T,T,T,T,T,T,F,F,F,F,F,F,F,F,F,F,F,F,F,F,F,F,F,F,F] rfl rfl (any_of HT_.out (by kernel_rfl)) (fun _ _ _ h=>h) (Or.inr ⟨by rfl,rfl⟩) ?_ ?_
          rotate_left
          ·simp only [Act.put,zz21,zz22,zz23,i64_w,i32_w]
           rfl
          refine pure_ (i:=15) (N:=some 45) (v:=undef) (a':=?_) #[T,T,T,T,T,T,T,T,T,T,T,T,T,T,T,T,F,F,F,F,F,F,F,F,F,F,F,F,F,F,F,F,F,F] rfl rfl (any_of HT_.out (by kernel_rfl)) (fun _ _ _ h=>h) (Or.inr ⟨by rfl,rfl⟩) ?_ ?_
          rotate_left
          ·simp only [Act.put,zz21,zz22,zz23,i64_w,i32_w]
           rfl
          refine pure_ (i:=16) (N:=some 46) (v:=undef) (a':=?_) #[T,T,T,T,T,T,T,T,T,T,T,T,T,T,T,T,T,F,F,F,F,F,F,F,F,F,F,F,F,F,F,F,F,F] rfl rfl (any_of HT_.out (by kernel_rfl)) (fun _ _ _ h=>h) (Or.inr ⟨by rfl,rfl⟩) ?_ ?_
          rotate_left
          ·simp only [Act.put,zz21,zz22,zz23,i64_w,i32_w]
           rfl
          refine pure_ (i:=17) (N:=some 47) (v:=undef) (a':=?_) #[T,T,T,T,T,T,T,T,T,T,T,T,T,T,T,T,T,T,F,F,F,F,F,F,F,F,F,F,F,F,F,F,F,F] rfl rfl (any_of HT_.out (by kernel_rfl)) (fun _ _ _ h=>h) (Or.inr ⟨by rfl,rfl⟩) ?_ ?_
          rotate_left
          ·simp only [Act.put,zz21,zz22,zz23,i64_w,i32_w]
           rfl
          refine zz32 (v:=?_) (a':=?_) 18 (some 48) #[T,T,T,T,T,T,T,T,T,T,T,T,T,T,T,T,T,T,T,F,F,F,F,F,F,F,F,F,F,F,F,F,F,F] rfl rfl HT_.out (by kernel_rfl) (fun _ _ _ h=>h) (by rfl) (fun w'=>?_) ?_ ?_;rotate_left;(go_simp;with_reducible rfl);rotate_left;(simp only [Act.put,zz21,zz22,zz23,i64_w,i32_w];rfl)
          refine zz32 (v:=?_) (a':=?_) 19 (some 49) #[T,T,T,T,T,T,T,T,T,T,T,T,T,T,T,T,T,T,T,T,F,F,F,F,F,F,F,F,F,F,F,F,F,F] rfl rfl HT_.out (by kernel_rfl) (fun _ _ _ h=>h) (by rfl) (fun w'=>?_) ?_ ?_;rotate_left;(go_simp;with_reducible rfl);rotate_left;(simp only [Act.put,zz21,zz22,zz23,i64_w,i32_w];rfl)
          refine pure_ (i:=20) (N:=some 50) (v:=undef) (a':=?_) #[T,T,T,T,T,T,T,T,T,T,T,T,T,T,T,T,T,T,T,T,T,F,F,F,F,F,F,F,F,F,F,F,F,F] rfl rfl (any_of HT_.out (by kernel_rfl)) (fun _ _ _ h=>h) (Or.inr ⟨by rfl,rfl⟩) ?_ ?_
          rotate_left
          ·simp only [Act.put,zz21,zz22,zz23,i64_w,i32_w]
           rfl
          refine pure_ (i:=21) (N:=some 51) (v:=undef) (a':=?_) #[T,T,T,T,T,T,T,T,T,T,T,T,T,T,T,T,T,T,T,T,T,T,F,F,F,F,F,F,F,F,F,F,F,F] rfl rfl (any_of HT_.out (by kernel_rfl)) (fun _ _ _ h=>h) (Or.inr ⟨by rfl,rfl⟩) ?_ ?_
          rotate_left
          ·simp only [Act.put,zz21,zz22,zz23,i64_w,i32_w]
           rfl
          refine pure_ (i:=22) (N:=some 52) (v:=undef) (a':=?_) #[T,T,T,T,T,T,T,T,T,T,T,T,T,T,T,T,T,T,T,T,T,T,T,F,F,F,F,F,F,F,F,F,F,F] rfl rfl (any_of HT_.out (by kernel_rfl)) (fun _ _ _ h=>h) (Or.inr ⟨by rfl,rfl⟩) ?_ ?_
          rotate_left
          ·simp only [Act.put,zz21,zz22,zz23,i64_w,i32_w]
           rfl
          refine pure_ (i:=23) (N:=some 53) (v:=undef) (a':=?_) #[T,T,T,T,T,T,T,T,T,T,T,T,T,T,T,T,T,T,T,T,T,T,T,T,F,F,F,F,F,F,F,F,F,F] rfl rfl (any_of HT_.out (by kernel_rfl)) (fun _ _ _ h=>h) (Or.inr ⟨by rfl,rfl⟩) ?_ ?_
          rotate_left
          ·simp only [Act.put,zz21,zz22,zz23,i64_w,i32_w]
           rfl
          refine pure_ (i:=24) (N:=some 54) (v:=undef) (a':=?_) #[T,T,T,T,T,T,T,T,T,T,T,T,T,T,T,T,T,T,T,T,T,T,T,T,T,F,F,F,F,F,F,F,F,F] rfl rfl (any_of HT_.out (by kernel_rfl)) (fun _ _ _ h=>h) (Or.inr ⟨by rfl,rfl⟩) ?_ ?_
          rotate_left
          ·simp only [Act.put,zz21,zz22,zz23,i64_w,i32_w]
           rfl
          refine pure_ (i:=25) (N:=some 55) (v:=undef) (a':=?_) #[T,T,T,T,T,T,T,T,T,T,T,T,T,T,T,T,T,T,T,T,T,T,T,T,T,T,F,F,F,F,F,F,F,F] rfl rfl (any_of HT_.out (by kernel_rfl)) (fun _ _ _ h=>h) (Or.inr ⟨by rfl,rfl⟩) ?_ ?_
          rotate_left
          ·simp only [Act.put,zz21,zz22,zz23,i64_w,i32_w]
           rfl
          refine pure_ (i:=26) (N:=some 56) (v:=undef) (a':=?_) #[T,T,T,T,T,T,T,T,T,T,T,T,T,T,T,T,T,T,T,T,T,T,T,T,T,T,T,F,F,F,F,F,F,F] rfl rfl (any_of HT_.out (by kernel_rfl)) (fun _ _ _ h=>h) (Or.inr ⟨by rfl,rfl⟩) ?_ ?_
          rotate_left
          ·simp only [Act.put,zz21,zz22,zz23,i64_w,i32_w]
           rfl
          refine pure_ (i:=27) (N:=some 57) (v:=undef) (a':=?_) #[T,T,T,T,T,T,T,T,T,T,T,T,T,T,T,T,T,T,T,T,T,T,T,T,T,T,T,T,F,F,F,F,F,F] rfl rfl (any_of HT_.out (by kernel_rfl)) (fun _ _ _ h=>h) (Or.inr ⟨by rfl,rfl⟩) ?_ ?_
          rotate_left
          ·simp only [Act.put,zz21,zz22,zz23,i64_w,i32_w]
           rfl
          refine pure_ (i:=28) (N:=some 58) (v:=undef) (a':=?_) #[T,T,T,T,T,T,T,T,T,T,T,T,T,T,T,T,T,T,T,T,T,T,T,T,T,T,T,T,T,F,F,F,F,F] rfl rfl (any_of HT_.out (by kernel_rfl)) (fun _ _ _ h=>h) (Or.inr ⟨by rfl,rfl⟩) ?_ ?_
          rotate_left
          ·simp only [Act.put,zz21,zz22,zz23,i64_w,i32_w]
           rfl
          refine pure_ (i:=29) (N:=some 59) (v:=undef) (a':=?_) #[T,T,T,T,T,T,T,T,T,T,T,T,T,T,T,T,T,T,T,T,T,T,T,T,T,T,T,T,T,T,F,F,F,F] rfl rfl (any_of HT_.out (by kernel_rfl)) (fun _ _ _ h=>h) (Or.inr ⟨by rfl,rfl⟩) ?_ ?_
          rotate_left
          ·simp only [Act.put,zz21,zz22,zz23,i64_w,i32_w]
           rfl
          refine pure_ (i:=30) (N:=some 60) (v:=undef) (a':=?_) #[T,T,T,T,T,T,T,T,T,T,T,T,T,T,T,T,T,T,T,T,T,T,T,T,T,T,T,T,T,T,T,F,F,F] rfl rfl (any_of HT_.out (by kernel_rfl)) (fun _ _ _ h=>h) (Or.inr ⟨by rfl,rfl⟩) ?_ ?_
          rotate_left
          ·simp only [Act.put,zz21,zz22,zz23,i64_w,i32_w]
           rfl
          refine pure_ (i:=31) (N:=some 61) (v:=undef) (a':=?_) #[T,T,T,T,T,T,T,T,T,T,T,T,T,T,T,T,T,T,T,T,T,T,T,T,T,T,T,T,T,T,T,T,F,F] rfl rfl (any_of HT_.out (by kernel_rfl)) (fun _ _ _ h=>h) (Or.inr ⟨by rfl,rfl⟩) ?_ ?_
          rotate_left
          ·simp only [Act.put,zz21,zz22,zz23,i64_w,i32_w]
           rfl
          refine pure_ (i:=32) (N:=some 62) (v:=undef) (a':=?_) #[T,T,T,T,T,T,T,T,T,T,T,T,T,T,T,T,T,T,T,T,T,T,T,T,T,T,T,T,T,T,T,T,T,F] rfl rfl (any_of HT_.out (by kernel_rfl)) (fun _ _ _ h=>h) (Or.inr ⟨by rfl,rfl⟩) ?_ ?_
          rotate_left
          ·simp only [Act.put,zz21,zz22,zz23,i64_w,i32_w]
           rfl
          refine zz32 (v:=?_) (a':=?_) 33 (some 63) #[T,T,T,T,T,T,T,T,T,T,T,T,T,T,T,T,T,T,T,T,T,T,T,T,T,T,T,T,T,T,T,T,T,T] rfl rfl HT_.out (by kernel_rfl) (fun _ _ _ h=>h) (by rfl) (fun w'=>?_) ?_ ?_;rotate_left;(go_simp;with_reducible rfl);rotate_left;(simp only [Act.put,zz21,zz22,zz23,i64_w,i32_w];rfl)
          refine done_ (done_of HT_.out (by kernel_rfl)) ?_
          try go_wp2
          go_ret
          exact ⟨by first | rfl | (simp [errW_none,errW_some] <;> rfl) | (simp [*,errW_none,errW_some] <;> rfl),by repeat first | exact HB.out | apply zz2 | apply zz0 | apply zz1 | refine zz3 ?_ GE135.out | refine zz3 ?_ GE138.out⟩
        ·rw [if_neg c12] at H
         exact absurd H (by simp)
       ·rw [if_neg c11] at H
        exact absurd H (by simp)
      ·rw [if_neg c10] at H
       have c10b0:decide (x25_2 < (l0_1.length:Int))=false:=decide_eq_false c10
       clear c10
       obtain rfl:=Option.some.inj H
       go_wp2
       go_ret
       exact ⟨by first | rfl | (simp [errW_none,errW_some] <;> rfl) | (simp [*,errW_none,errW_some] <;> rfl),by repeat first | exact HB.out | apply zz2 | apply zz0 | apply zz1 | refine zz3 ?_ GE135.out⟩

/-! ### spec_paOf: function 42 -/
mutual
def spec_paOf.l0:Nat→List (List Bool)→Int→Int→Int→List (S70)→Option (Int × (List (S70)))
 | 0,_,_,_,_,_=>none
 | k+1,x0,x10,x11,x145000,x145001=>if x11 < x10 then (spec_paOf.l1 k x0 x11 (wrap64 (x11+1)) x10 x11 x145000 x145001) else (some (x145000,x145001))
def spec_paOf.l1:Nat→List (List Bool)→Int→Int→Int→Int→Int→List (S70)→Option (Int × (List (S70)))
 | 0,_,_,_,_,_,_,_=>none
 | k+1,x0,x4,x5,x10,x11,x145000,x145001=>if x5 < (x0.length:Int) then (if 0≤x4 then (if x4 < (x0.length:Int) then (if 0≤x5 then (if x5 < ((rd_L4 x0 x4).length:Int) then (if rdOf false (rd_L4 x0 x4) x5=true then (if x145001.length < 8796093022208 then (spec_paOf.l1 k x0 x4 (wrap64 (x5+1)) x10 x11 x145000 (x145001 ++ [(⟨x4,x5⟩:S70)])) else (none)) else (spec_paOf.l1 k x0 x4 (wrap64 (x5+1)) x10 x11 x145000 x145001)) else (none)) else (none)) else (none)) else (none)) else (spec_paOf.l0 k x0 x10 (wrap64 (x11+1)) x145000 x145001)
end
def spec_paOf.f (k:Nat) (l0:List (List Bool)):Option (Int × (List (S70))):=spec_paOf.l0 k l0 (l0.length:Int) 0 (l0.length:Int) ([]:List (S70))
theorem spec_paOf.mono_l:∀ k,(∀ y0 y1 y2 y3 y4,LeO (spec_paOf.l0 k y0 y1 y2 y3 y4) (spec_paOf.l0 (k+1) y0 y1 y2 y3 y4))∧(∀ y0 y1 y2 y3 y4 y5 y6,LeO (spec_paOf.l1 k y0 y1 y2 y3 y4 y5 y6) (spec_paOf.l1 (k+1) y0 y1 y2 y3 y4 y5 y6))
 | 0=>⟨fun _ _ _ _ _ r h=>by simp [spec_paOf.l0] at h,fun _ _ _ _ _ _ _ r h=>by simp [spec_paOf.l1] at h⟩
 | k+1=>by
  obtain ⟨ih0,ih1⟩:=spec_paOf.mono_l k
  refine ⟨?_,?_⟩
  ·intro y0 y1 y2 y3 y4
   unfold spec_paOf.l0
   repeat' first
   | (with_reducible exact ih0 _ _ _ _ _)
   | (with_reducible exact ih1 _ _ _ _ _ _ _)
   | (with_reducible exact LeO.refl _)
   | (with_reducible exact LeO.none _)
   | (with_reducible refine LeO.ite ?_ ?_)
   | (with_reducible refine LeO.bind ?_ (fun _=>?_))
   | exact ih0 _ _ _ _ _
   | exact ih1 _ _ _ _ _ _ _
   | exact LeO.none _
   | refine LeO.ite ?_ ?_
   | refine LeO.bind ?_ (fun _=>?_)
  ·intro y0 y1 y2 y3 y4 y5 y6
   unfold spec_paOf.l1
   repeat' first
   | (with_reducible exact ih0 _ _ _ _ _)
   | (with_reducible exact ih1 _ _ _ _ _ _ _)
   | (with_reducible exact LeO.refl _)
   | (with_reducible exact LeO.none _)
   | (with_reducible refine LeO.ite ?_ ?_)
   | (with_reducible refine LeO.bind ?_ (fun _=>?_))
   | exact ih0 _ _ _ _ _
   | exact ih1 _ _ _ _ _ _ _
   | exact LeO.none _
   | refine LeO.ite ?_ ?_
   | refine LeO.bind ?_ (fun _=>?_)
theorem spec_paOf.mono:∀ a0 k,LeO (spec_paOf.f k a0) (spec_paOf.f (k+1) a0):=by
 intro a0 k
 obtain ⟨ih0,ih1⟩:=spec_paOf.mono_l k
 unfold spec_paOf.f
 repeat' first
   | (with_reducible exact ih0 _ _ _ _ _)
   | (with_reducible exact ih1 _ _ _ _ _ _ _)
   | (with_reducible exact LeO.refl _)
   | (with_reducible exact LeO.none _)
   | (with_reducible refine LeO.ite ?_ ?_)
   | (with_reducible refine LeO.bind ?_ (fun _=>?_))
   | exact ih0 _ _ _ _ _
   | exact ih1 _ _ _ _ _ _ _
   | exact LeO.none _
   | refine LeO.ite ?_ ?_
   | refine LeO.bind ?_ (fun _=>?_)
set_option maxHeartbeats 8000000 in
set_option maxRecDepth 100000 in
theorem spec_paOf.calls (k:Nat) (A0:Option Addr) (c0:Nat) (l0:List (List Bool)) (r1:Int) (r2:List (S70)) (w:World) (hr0:Kd.C (Kd.slice 4 Kd.bool) w A0 l0.length l0) (hc0:l0.length≤c0) (h:spec_paOf.f k l0=some (r1,r2)) :
  Calls Try.prog 42 #[.slice A0 l0.length c0] w fun e w'=>∃ v1_:Value,e=.returned (.agg #[.int .i64 r1,v1_])∧Kd.R k70 70 w' w.heap.size (fun _=>True) v1_ r2∧Below w.heap.size w w':=by
 have hu30:=Try.underlying30
 have hu70:=Try.underlying70
 have HR0:=zz31 hr0
 have HC0:=zz31 hc0
 clear hr0 hc0
 have HB:=zz31 (Below.refl w.heap.size w)
 have H:(spec_paOf.l0 k l0 (l0.length:Int) 0 (l0.length:Int) ([]:List (S70)))=some (r1,r2):=h
 clear h
 have H':=zz31 H
 clear H
 go_enter Try.func42,Try.ntmps42
 go_wp2_with (first | ((with_reducible refine gate_dst (N:=2) rfl ?_);refine box_event ?hg (N:=2) ?hd (cs:=#[.int .i64 0,.slice none 0 0]) (t:=30) ?hr ?_;(case hd=>rfl);(case hg=>rfl);(case hr=>first | (go_simp;done) | (go_simp;rfl));intro gb143 hg w2 hbox hb;have BK143:=zz31 (hbox);have GW143:=zz31 ((by rw [hg];exact (zz5 (by repeat first | exact HB.out | apply zz2 | apply zz0 | apply zz1)):w.heap.size≤gb143));replace HB:=zz31 (zz4 (by repeat first | exact HB.out | apply zz2 | apply zz0 | apply zz1) hb);have GE143:=GW143;clear hb hbox hg) | ((with_reducible refine gate_dst (N:=3) rfl ?_);refine box_event ?hg (N:=3) ?hd (cs:=#[.int .i64 0,.slice none 0 0]) (t:=30) ?hr ?_;(case hd=>rfl);(case hg=>rfl);(case hr=>first | (go_simp;done) | (go_simp;rfl));intro gb144 hg w3 hbox hb;have BK144:=zz31 (hbox);have GW144:=zz31 ((by rw [hg];exact (zz5 (by repeat first | exact HB.out | apply zz2 | apply zz0 | apply zz1 | refine zz3 ?_ GE143.out)):w.heap.size≤gb144));replace HB:=zz31 (zz4 (by repeat first | exact HB.out | apply zz2 | apply zz0 | apply zz1 | refine zz3 ?_ GE143.out) hb);have GE144:=GW144;have NB143_144:=zz31 ((by rw [hg];exact Nat.ne_of_lt (blk_lt (g:=gb143) (o:=.cells #[.int .i64 0,.slice none 0 0] 30 (0,0)) (by (with_reducible repeat (first | refine zz6 ?_ _ | refine zz7 ?_ | refine zz8 ?_ _));exact BK143.out)):gb143 ≠ gb144));have NB144_143:=zz31 ((by rw [hg];exact Nat.ne_of_gt (blk_lt (g:=gb143) (o:=.cells #[.int .i64 0,.slice none 0 0] 30 (0,0)) (by (with_reducible repeat (first | refine zz6 ?_ _ | refine zz7 ?_ | refine zz8 ?_ _));exact BK143.out)):gb144 ≠ gb143));replace BK143:=zz31 (zz11 (g:=gb143) (o:=.cells #[.int .i64 0,.slice none 0 0] 30 (0,0)) (by (with_reducible repeat (first | refine zz6 ?_ _ | refine zz7 ?_ | refine zz8 ?_ _));exact BK143.out) hb);clear hb hbox hg;have hnb4:=NB144_143.out;have hnc4:=NB143_144.out;have hcz5_0:w3.cell? ⟨gb144,0,none⟩=some (.int .i64 0):=(zz9 BK144.out 0).trans rfl;have hcz5_1:w3.cell? ⟨gb144,1,none⟩=some (.slice none 0 0):=(zz9 BK144.out 1).trans rfl;have hfz5_0:=zz10 BK144.out 0;have hfz5_1:=zz10 BK144.out 1))
 go_loopg [11] k (fun kq v11 w'=>∃ (x11_1:Int) (x145001_1:List (S70)) (u145001:Value),v11=.int .i64 x11_1∧Aside0 (spec_paOf.l0 kq l0 (l0.length:Int) x11_1 (l0.length:Int) x145001_1=some (r1,r2))∧Aside0 (kq≤k)∧Aside0 (Kd.R k70 70 w' w.heap.size (fun _=>True) u145001 x145001_1)∧Aside0 (w'.heap[gb143]?=some (.cells #[.int .i64 0,(.slice none 0 0)] 30 (0,0)))∧Aside0 (w'.heap[gb144]?=some (.cells #[.int .i64 (l0.length:Int),u145001] 30 (0,0)))∧Aside0 (Below w.heap.size w w'))
 case atStart=>exact ⟨(0),(([]:List (S70))),(.slice none 0 0),(by first | rfl | (simp;done) | (simp [*];done)),H',⟨Nat.le_refl _⟩,⟨by first | exact Kd.R_nil _ _ _ _ _ | exact Kd.N_nil _ _ _ _ _ | exact Kd.V_nil _ _ _ _ _ | exact Kd.Q_nil _ _ _ _ _ | exact Kd.S_nil _ _ _ _ _⟩,⟨by (with_reducible repeat (first | refine zz6 ?_ _ | refine zz7 ?_ | refine zz8 ?_ _));refine blk_far ?_ NB143_144.out _;(with_reducible repeat (first | refine zz6 ?_ _ | refine zz7 ?_ | refine zz8 ?_ _));refine blk_far ?_ NB143_144.out _;(with_reducible repeat (first | refine zz6 ?_ _ | refine zz7 ?_ | refine zz8 ?_ _));exact BK143.out⟩,⟨by (with_reducible repeat (first | refine zz6 ?_ _ | refine zz7 ?_ | refine zz8 ?_ _));refine blk_put (cs:=#[.int .i64 (l0.length:Int),.slice none 0 0]) ?_ 1 _ rfl;(with_reducible repeat (first | refine zz6 ?_ _ | refine zz7 ?_ | refine zz8 ?_ _));refine blk_put (cs:=#[.int .i64 0,.slice none 0 0]) ?_ 0 _ rfl;(with_reducible repeat (first | refine zz6 ?_ _ | refine zz7 ?_ | refine zz8 ?_ _));exact BK144.out⟩,⟨by repeat first | exact HB.out | apply zz2 | apply zz0 | apply zz1 | refine zz3 ?_ GE143.out | refine zz3 ?_ GE144.out⟩⟩
 case round =>
  clear H'
  try clear p2
  try clear c4
  try clear hcz5_0
  try clear hcz5_1
  try clear hfz5_0
  try clear hfz5_1
  obtain ⟨x11_1,x145001_1,u145001,rfl,HA,HK1,HO_145001,BK143,BK144,HB⟩:=hrel
  cases gk with
  | zero=>exact absurd HA.out (by simp [spec_paOf.l0])
  | succ k1 =>
   have H:=HA.out
   clear HA
   simp only [spec_paOf.l0] at H
   by_cases c6:x11_1 < (l0.length:Int)
   ·rw [if_pos c6] at H
    have c6b0:decide (x11_1 < (l0.length:Int))=true:=decide_eq_true c6
    clear c6
    have H':=zz31 H
    clear H
    go_wp2
    go_loopg [5] k1 (fun kq v5 w'=>∃ (x5_2:Int) (x145001_2:List (S70)) (u145001:Value),v5=.int .i64 x5_2∧Aside0 (spec_paOf.l1 kq l0 x11_1 x5_2 (l0.length:Int) x11_1 (l0.length:Int) x145001_2=some (r1,r2))∧Aside0 (kq≤k1)∧Aside0 (Kd.R k70 70 w' w.heap.size (fun _=>True) u145001 x145001_2)∧Aside0 (w'.heap[gb143]?=some (.cells #[.int .i64 0,(.slice none 0 0)] 30 (0,0)))∧Aside0 (w'.heap[gb144]?=some (.cells #[.int .i64 (l0.length:Int),u145001] 30 (0,0)))∧Aside0 (Below w.heap.size w w'))
    case atStart=>exact ⟨(wrap64 (x11_1+1)),(x145001_1),(u145001),(by first | rfl | (simp;done) | (simp [*];done)),H',⟨Nat.le_refl _⟩,⟨by (with_reducible repeat (first | apply zz12 | apply zz13 | apply zz14));exact HO_145001.out⟩,⟨by (with_reducible repeat (first | refine zz6 ?_ _ | refine zz7 ?_ | refine zz8 ?_ _));exact BK143.out⟩,⟨by (with_reducible repeat (first | refine zz6 ?_ _ | refine zz7 ?_ | refine zz8 ?_ _));exact BK144.out⟩,⟨by repeat first | exact HB.out | apply zz2 | apply zz0 | apply zz1 | refine zz3 ?_ GE143.out | refine zz3 ?_ GE144.out⟩⟩
    case round =>
     clear H'
     try clear p2
     try clear c4
     try clear c6
     try clear c6b0
     try clear p6
     try clear hcz5_0
     try clear hcz5_1
     try clear hfz5_0
     try clear hfz5_1
     try clear p2
     obtain ⟨x5_2,x145001_2,u145001,rfl,HA,HK2,HO_145001,BK143,BK144,HB⟩:=hrel
     cases gk with
     | zero=>exact absurd HA.out (by simp [spec_paOf.l1])
     | succ k2 =>
      have H:=HA.out
      clear HA
      simp only [spec_paOf.l1] at H
      by_cases c7:x5_2 < (l0.length:Int)
      ·rw [if_pos c7] at H
       have c7b0:decide (x5_2 < (l0.length:Int))=true:=decide_eq_true c7
       clear c7
       by_cases c8:0≤x11_1
       ·rw [if_pos c8] at H
        have c8b0:decide (0≤x11_1)=true:=decide_eq_true c8
        clear c8
        by_cases c9:x11_1 < (l0.length:Int)
        ·rw [if_pos c9] at H
         have c9b0:decide (x11_1 < (l0.length:Int))=true:=decide_eq_true c9
         clear c9
         by_cases c10:0≤x5_2
         ·rw [if_pos c10] at H
          have c10b0:decide (0≤x5_2)=true:=decide_eq_true c10
          clear c10
          by_cases c11:x5_2 < ((rd_L4 l0 x11_1).length:Int)
          ·rw [if_pos c11] at H
           have c11b0:decide (x5_2 < ((rd_L4 l0 x11_1).length:Int))=true:=decide_eq_true c11
           clear c11
           obtain ⟨bq12,hbq12⟩:∃ b_:Bool,b_=(rdOf false (rd_L4 l0 x11_1) x5_2):=⟨_,rfl⟩
           replace H:(if bq12=true then (if x145001_2.length < 8796093022208 then (spec_paOf.l1 k2 l0 x11_1 (wrap64 (x5_2+1)) (l0.length:Int) x11_1 (l0.length:Int) (x145001_2 ++ [(⟨x11_1,x5_2⟩:S70)])) else (none)) else (spec_paOf.l1 k2 l0 x11_1 (wrap64 (x5_2+1)) (l0.length:Int) x11_1 (l0.length:Int) x145001_2))=some (r1,r2):=by rw [← hbq12] at H;exact H
           have Nbq12:=zz31 hbq12
           clear hbq12
           by_cases c13:bq12=true
           ·subst c13
            have H1:(if x145001_2.length < 8796093022208 then (spec_paOf.l1 k2 l0 x11_1 (wrap64 (x5_2+1)) (l0.length:Int) x11_1 (l0.length:Int) (x145001_2 ++ [(⟨x11_1,x5_2⟩:S70)])) else (none))=some (r1,r2):=by rw [if_pos rfl] at H;exact H
            clear H
            have H:=H1
            clear H1
            by_cases c14:x145001_2.length < 8796093022208
            ·rw [if_pos c14] at H
             have LMc14:=zz31 c14
             clear c14
             obtain ⟨y147,hy147⟩:∃ y_:List (S70),y_=(x145001_2 ++ [(⟨x11_1,x5_2⟩:S70)]):=⟨_,rfl⟩
             replace H:(spec_paOf.l1 k2 l0 x11_1 (wrap64 (x5_2+1)) (l0.length:Int) x11_1 (l0.length:Int) y147)=some (r1,r2):=by first | (rw [hy147];with_reducible exact H) | (have H2_:=(Option.bind_some _ _).symm.trans H;rw [hy147];with_reducible exact H2_) | (have H2_:=(Option.bind_some _ _).symm.trans H;with_reducible exact H2_) | with_reducible exact H | (rw [hy147];exact H) | exact H
             have Ny147:=zz31 hy147
             clear hy147
             have H':=zz31 H
             clear H
             have p145:0≤(x11_1:Int):=zz29 (by first | (with_reducible assumption) | assumption)
             have q145:x11_1 < (l0.length:Int):=zz29 (by first | (with_reducible assumption) | assumption)
             obtain ⟨ad145,A145_0,c145_0,e145,hx145_0,hl145_0,hi145_0⟩:=at_L4 HR0.out x11_1 p145 q145
             cases e145
             try replace hx145_0:=(HB.out.cell (World.block_lt_of_cell? w _ hx145_0)).trans hx145_0
             have HR145_0:=zz31 hi145_0
             have HC145_0:=zz31 hl145_0
             clear hi145_0 hl145_0
             replace p145:=eq_true p145
             replace q145:=eq_true q145
             have p146:0≤(x5_2:Int):=zz29 (by first | (with_reducible assumption) | assumption)
             have q146:x5_2 < ((rd_L4 l0 x11_1).length:Int):=zz29 (by first | (with_reducible assumption) | assumption)
             obtain ⟨ad146,e146,hx146_0⟩:=Kd.at_bool HR145_0.out x5_2 p146 q146
             (try rw [← Nbq12.out] at hx146_0)
             cases e146
             try replace hx146_0:=(HB.out.cell (World.block_lt_of_cell? w _ hx146_0)).trans hx146_0
             replace p146:=eq_true p146
             replace q146:=eq_true q146
             have hnb15:=NB144_143.out
             have hnc15:=NB143_144.out
             have hcz16_0:wr.cell? ⟨gb144,0,none⟩=some (.int .i64 (l0.length:Int)):=(zz9 BK144.out 0).trans rfl
             have hcz16_1:wr.cell? ⟨gb144,1,none⟩=some (u145001):=(zz9 BK144.out 1).trans rfl
             have hfz16_0:=zz10 BK144.out 0
             have hfz16_1:=zz10 BK144.out 1
             go_wp2_with (first | ((with_reducible refine gate_builtin (b:=.append) (xs:=#[.tmp 30,.tmp 34]) rfl ?_);at_builtin;refine Kd.R_append k70 (w0:=w) w.heap.size rfl (.tmp 30) (.tmp 34) 28 70 (.agg #[(.int .i64 0),(.int .i64 0)]) 16 rfl Try.underlying28 info70 rfl (by decide) (by omega) u145001 x145001_2 (⟨x11_1,x5_2⟩:S70) [.int .i64 x11_1,.int .i64 x5_2] (fun _=>True) (fun _=>False) rfl rfl ?aP (fun _ hk=>hk.elim) ?aF ?aO ?aB ?aS ?aL ?_;(case aP=>exact k70_mkM _ _ _ (⟨x11_1,x5_2⟩:S70));(case aB=>exact (by repeat first | exact HB.out | apply zz2 | apply zz0 | apply zz1 | refine zz3 ?_ GE143.out | refine zz3 ?_ GE144.out));(case aF=>exact (fun _ _=>trivial));(case aO=>exact (by (with_reducible repeat (first | apply zz12 | apply zz13 | apply zz14));exact HO_145001.out));(case aS=>exact (zz5 (by repeat first | exact HB.out | apply zz2 | apply zz0 | apply zz1 | refine zz3 ?_ GE143.out | refine zz3 ?_ GE144.out)));(case aL=>have:=LMc14.out;omega);intro v148 w17 ho hb hg hat;rw [← Ny147.out] at ho;replace BK143:=zz31 (blk_grown (g:=gb143) (o:=.cells #[.int .i64 0,.slice none 0 0] 30 (0,0)) (by (with_reducible repeat (first | refine zz6 ?_ _ | refine zz7 ?_ | refine zz8 ?_ _));exact BK143.out) hg (Kd.R_ne HO_145001.out BK143.out (by decide)));replace BK144:=zz31 (blk_grown (g:=gb144) (o:=.cells #[.int .i64 (l0.length:Int),u145001] 30 (0,0)) (by (with_reducible repeat (first | refine zz6 ?_ _ | refine zz7 ?_ | refine zz8 ?_ _));exact BK144.out) hg (Kd.R_ne HO_145001.out BK144.out (by decide)));replace HB:=zz31 (hb);have HO149:=zz31 (ho);clear HO_145001;clear ho hb hg hat;obtain ⟨Ao18,co18,eo18⟩:=Kd.R_slice HO149.out;subst eo18;have hcz19_0:w17.cell? ⟨gb144,0,none⟩=some (.int .i64 (l0.length:Int)):=(zz9 BK144.out 0).trans rfl;have hcz19_1:w17.cell? ⟨gb144,1,none⟩=some (u145001):=(zz9 BK144.out 1).trans rfl;have hfz19_0:=zz10 BK144.out 0;have hfz19_1:=zz10 BK144.out 1))
             go_roundg k2
             case measure=>have:=HK1.out;have:=HK2.out;omega
             case rel=>exact ⟨(wrap64 (x5_2+1)),(y147),(.slice Ao18 y147.length co18),(by first | rfl | (simp;done) | (simp [*];done)),H',⟨by have:=HK1.out;have:=HK2.out;omega⟩,⟨by (with_reducible repeat (first | apply zz12 | apply zz13 | apply zz14));exact Kd.R_mono (Kd.R_far (p:=⟨gb144,1,none⟩) (Kd.R_types HO149.out BK144.out (by decide)) (fun _ hk=>hk.2) (.slice Ao18 y147.length co18)) (fun _ hk=>trivial)⟩,⟨by (with_reducible repeat (first | refine zz6 ?_ _ | refine zz7 ?_ | refine zz8 ?_ _));refine blk_far ?_ NB143_144.out _;(with_reducible repeat (first | refine zz6 ?_ _ | refine zz7 ?_ | refine zz8 ?_ _));exact BK143.out⟩,⟨by (with_reducible repeat (first | refine zz6 ?_ _ | refine zz7 ?_ | refine zz8 ?_ _));refine blk_put (cs:=#[.int .i64 (l0.length:Int),u145001]) ?_ 1 _ rfl;(with_reducible repeat (first | refine zz6 ?_ _ | refine zz7 ?_ | refine zz8 ?_ _));exact BK144.out⟩,⟨by repeat first | exact HB.out | apply zz2 | apply zz0 | apply zz1 | refine zz3 ?_ GE143.out | refine zz3 ?_ GE144.out⟩⟩
            ·rw [if_neg c14] at H
             exact absurd H (by simp)
           ·replace c13:=Bool.eq_false_iff.mpr c13
            subst c13
            have H1:(spec_paOf.l1 k2 l0 x11_1 (wrap64 (x5_2+1)) (l0.length:Int) x11_1 (l0.length:Int) x145001_2)=some (r1,r2):=by rw [if_neg (show ¬ (false=true) by decide)] at H;exact H
            clear H
            have H:=H1
            clear H1
            have H':=zz31 H
            clear H
            have p145:0≤(x11_1:Int):=zz29 (by first | (with_reducible assumption) | assumption)
            have q145:x11_1 < (l0.length:Int):=zz29 (by first | (with_reducible assumption) | assumption)
            obtain ⟨ad145,A145_0,c145_0,e145,hx145_0,hl145_0,hi145_0⟩:=at_L4 HR0.out x11_1 p145 q145
            cases e145
            try replace hx145_0:=(HB.out.cell (World.block_lt_of_cell? w _ hx145_0)).trans hx145_0
            have HR145_0:=zz31 hi145_0
            have HC145_0:=zz31 hl145_0
            clear hi145_0 hl145_0
            replace p145:=eq_true p145
            replace q145:=eq_true q145
            have p146:0≤(x5_2:Int):=zz29 (by first | (with_reducible assumption) | assumption)
            have q146:x5_2 < ((rd_L4 l0 x11_1).length:Int):=zz29 (by first | (with_reducible assumption) | assumption)
            obtain ⟨ad146,e146,hx146_0⟩:=Kd.at_bool HR145_0.out x5_2 p146 q146
            (try rw [← Nbq12.out] at hx146_0)
            cases e146
            try replace hx146_0:=(HB.out.cell (World.block_lt_of_cell? w _ hx146_0)).trans hx146_0
            replace p146:=eq_true p146
            replace q146:=eq_true q146
            go_wp2
            go_roundg k2
            case measure=>have:=HK1.out;have:=HK2.out;omega
            case rel=>exact ⟨(wrap64 (x5_2+1)),(x145001_2),(u145001),(by first | rfl | (simp;done) | (simp [*];done)),H',⟨by have:=HK1.out;have:=HK2.out;omega⟩,⟨by (with_reducible repeat (first | apply zz12 | apply zz13 | apply zz14));exact HO_145001.out⟩,⟨by (with_reducible repeat (first | refine zz6 ?_ _ | refine zz7 ?_ | refine zz8 ?_ _));exact BK143.out⟩,⟨by (with_reducible repeat (first | refine zz6 ?_ _ | refine zz7 ?_ | refine zz8 ?_ _));exact BK144.out⟩,⟨by repeat first | exact HB.out | apply zz2 | apply zz0 | apply zz1 | refine zz3 ?_ GE143.out | refine zz3 ?_ GE144.out⟩⟩
          ·rw [if_neg c11] at H
           exact absurd H (by simp)
         ·rw [if_neg c10] at H
          exact absurd H (by simp)
        ·rw [if_neg c9] at H
         exact absurd H (by simp)
       ·rw [if_neg c8] at H
        exact absurd H (by simp)
      ·rw [if_neg c7] at H
       have c7b0:decide (x5_2 < (l0.length:Int))=false:=decide_eq_false c7
       clear c7
       have H':=zz31 H
       clear H
       go_wp2
       go_roundg k2
       case measure=>have:=HK1.out;have:=HK2.out;omega
       case rel=>exact ⟨(wrap64 (x11_1+1)),(x145001_2),(u145001),(by first | rfl | (simp;done) | (simp [*];done)),H',⟨by have:=HK1.out;have:=HK2.out;omega⟩,⟨by (with_reducible repeat (first | apply zz12 | apply zz13 | apply zz14));exact HO_145001.out⟩,⟨by (with_reducible repeat (first | refine zz6 ?_ _ | refine zz7 ?_ | refine zz8 ?_ _));exact BK143.out⟩,⟨by (with_reducible repeat (first | refine zz6 ?_ _ | refine zz7 ?_ | refine zz8 ?_ _));exact BK144.out⟩,⟨by repeat first | exact HB.out | apply zz2 | apply zz0 | apply zz1 | refine zz3 ?_ GE143.out | refine zz3 ?_ GE144.out⟩⟩
   ·rw [if_neg c6] at H
    have c6b0:decide (x11_1 < (l0.length:Int))=false:=decide_eq_false c6
    clear c6
    simp only [Option.some.injEq,Prod.mk.injEq] at H
    obtain ⟨rfl,rfl⟩:=H
    have hnb20:=NB144_143.out
    have hnc20:=NB143_144.out
    have hcz21_0:wr.cell? ⟨gb144,0,none⟩=some (.int .i64 (l0.length:Int)):=(zz9 BK144.out 0).trans rfl
    have hcz21_1:wr.cell? ⟨gb144,1,none⟩=some (u145001):=(zz9 BK144.out 1).trans rfl
    have hfz21_0:=zz10 BK144.out 0
    have hfz21_1:=zz10 BK144.out 1
    have hcz22_0:wr.cell? ⟨gb143,0,none⟩=some (.int .i64 0):=(zz9 BK143.out 0).trans rfl
    have hcz22_1:wr.cell? ⟨gb143,1,none⟩=some (.slice none 0 0):=(zz9 BK143.out 1).trans rfl
    have hfz22_0:=zz10 BK143.out 0
    have hfz22_1:=zz10 BK143.out 1
    obtain ⟨Ao23,co23,eo23⟩:=Kd.R_slice HO_145001.out
    subst eo23
    go_wp2
    refine bodyPost_ret (results_cell_row rfl _ _ gb143 30 #[.int .i64 (l0.length:Int),.slice Ao23 x145001_1.length co23] (0,0) _ rfl (by (with_reducible repeat (first | refine zz6 ?_ _ | refine zz7 ?_ | refine zz8 ?_ _));refine blk_put (cs:=#[.int .i64 (l0.length:Int),.slice none 0 0]) ?_ 1 _ rfl;(with_reducible repeat (first | refine zz6 ?_ _ | refine zz7 ?_ | refine zz8 ?_ _));refine blk_put (cs:=#[.int .i64 0,.slice none 0 0]) ?_ 0 _ rfl;(with_reducible repeat (first | refine zz6 ?_ _ | refine zz7 ?_ | refine zz8 ?_ _));exact BK143.out) Try.underlying30 rfl (by kernel_rfl)) rfl ?_
    exact ⟨_,by first | rfl | (simp [errW_none,errW_some] <;> rfl) | (simp [*,errW_none,errW_some] <;> rfl),by (with_reducible repeat (first | apply zz12 | apply zz13 | apply zz14));exact Kd.R_mono (Kd.R_far (p:=⟨gb143,1,none⟩) (Kd.R_far (p:=⟨gb143,0,none⟩) (Kd.R_types HO_145001.out BK143.out (by decide)) (fun _ hk=>hk.2) (.int .i64 (l0.length:Int))) (fun _ hk=>hk.2) (.slice Ao23 x145001_1.length co23)) (fun _ hk=>trivial),by repeat first | exact HB.out | apply zz2 | apply zz0 | apply zz1 | refine zz3 ?_ GE143.out | refine zz3 ?_ GE144.out⟩

/-! ### spec_paTable: function 43 -/
mutual
def spec_paTable.l0:Nat→List (List Bool)→Int→Int→List (S70)→Option ((List (List Bool)))
 | 0,_,_,_,_=>none
 | k+1,x3,x4,x151000,x151001=>if x4 < x151000 then (if 0≤x151000 then (if (x151000:Int).toNat≤281474976710656 then (if x3.length < 5864062014805 then (spec_paTable.l0 k (x3 ++ [(List.replicate (x151000:Int).toNat false)]) (wrap64 (x4+1)) x151000 x151001) else (none)) else (none)) else (none)) else (spec_paTable.l1 k x3 x151001 (x151001.length:Int) 0)
def spec_paTable.l1:Nat→List (List Bool)→List (S70)→Int→Int→Option ((List (List Bool)))
 | 0,_,_,_,_=>none
 | k+1,x3,x20,x21,x22=>if x22 < x21 then (if 0≤x22 then (if x22 < (x20.length:Int) then (if 0≤((rd_T70 x20 x22).f0) then (if ((rd_T70 x20 x22).f0) < (x3.length:Int) then (if 0≤((rd_T70 x20 x22).f1) then (if ((rd_T70 x20 x22).f1) < ((rd_L4 x3 ((rd_T70 x20 x22).f0)).length:Int) then ((some (x3.set (((rd_T70 x20 x22).f0):Int).toNat ((rd_L4 x3 ((rd_T70 x20 x22).f0)).set (((rd_T70 x20 x22).f1):Int).toNat true):List (List Bool))).bind fun y162=>(if ((rd_T70 x20 x22).f1) < (x3.length:Int) then (if ((rd_T70 x20 x22).f0) < ((rd_L4 y162 ((rd_T70 x20 x22).f1)).length:Int) then (spec_paTable.l1 k (y162.set (((rd_T70 x20 x22).f1):Int).toNat ((rd_L4 y162 ((rd_T70 x20 x22).f1)).set (((rd_T70 x20 x22).f0):Int).toNat true)) x20 x21 (wrap64 (x22+1))) else (none)) else (none))) else (none)) else (none)) else (none)) else (none)) else (none)) else (none)) else (some x3)
end
def spec_paTable.f (k:Nat) (a0_0:Int) (l0_1:List (S70)):Option ((List (List Bool))):=spec_paTable.l0 k ([]:List (List Bool)) 0 a0_0 l0_1
theorem spec_paTable.mono_l:∀ k,(∀ y0 y1 y2 y3,LeO (spec_paTable.l0 k y0 y1 y2 y3) (spec_paTable.l0 (k+1) y0 y1 y2 y3))∧(∀ y0 y1 y2 y3,LeO (spec_paTable.l1 k y0 y1 y2 y3) (spec_paTable.l1 (k+1) y0 y1 y2 y3))
 | 0=>⟨fun _ _ _ _ r h=>by simp [spec_paTable.l0] at h,fun _ _ _ _ r h=>by simp [spec_paTable.l1] at h⟩
 | k+1=>by
  obtain ⟨ih0,ih1⟩:=spec_paTable.mono_l k
  refine ⟨?_,?_⟩
  ·intro y0 y1 y2 y3
   unfold spec_paTable.l0
   repeat' first
   | (with_reducible exact ih0 _ _ _ _)
   | (with_reducible exact ih1 _ _ _ _)
   | (with_reducible exact LeO.refl _)
   | (with_reducible exact LeO.none _)
   | (with_reducible refine LeO.ite ?_ ?_)
   | (with_reducible refine LeO.bind ?_ (fun _=>?_))
   | exact ih0 _ _ _ _
   | exact ih1 _ _ _ _
   | exact LeO.none _
   | refine LeO.ite ?_ ?_
   | refine LeO.bind ?_ (fun _=>?_)
  ·intro y0 y1 y2 y3
   unfold spec_paTable.l1
   repeat' first
   | (with_reducible exact ih0 _ _ _ _)
   | (with_reducible exact ih1 _ _ _ _)
   | (with_reducible exact LeO.refl _)
   | (with_reducible exact LeO.none _)
   | (with_reducible refine LeO.ite ?_ ?_)
   | (with_reducible refine LeO.bind ?_ (fun _=>?_))
   | exact ih0 _ _ _ _
   | exact ih1 _ _ _ _
   | exact LeO.none _
   | refine LeO.ite ?_ ?_
   | refine LeO.bind ?_ (fun _=>?_)
theorem spec_paTable.mono:∀ a0 a1 k,LeO (spec_paTable.f k a0 a1) (spec_paTable.f (k+1) a0 a1):=by
 intro a0 a1 k
 obtain ⟨ih0,ih1⟩:=spec_paTable.mono_l k
 unfold spec_paTable.f
 repeat' first
   | (with_reducible exact ih0 _ _ _ _)
   | (with_reducible exact ih1 _ _ _ _)
   | (with_reducible exact LeO.refl _)
   | (with_reducible exact LeO.none _)
   | (with_reducible refine LeO.ite ?_ ?_)
   | (with_reducible refine LeO.bind ?_ (fun _=>?_))
   | exact ih0 _ _ _ _
   | exact ih1 _ _ _ _
   | exact LeO.none _
   | refine LeO.ite ?_ ?_
   | refine LeO.bind ?_ (fun _=>?_)
def spec_paTable.T9:Bool × List (List Nat × List Nat):=(true,[([],[]),([],[]),([1],[1]),([0,2],[0,2]),([3],[3]),([],[]),([5],[5]),([4,6,0,1,2,3,4,5,6],[4,6]),([7,0,1,2,3,4,5,6],[7])])
def spec_paTable.B9:List Nat:=[0,0,2,7,15,0,32,127,255]
theorem spec_paTable.tab9:rtab .any (opsOf Try.f43 9)=spec_paTable.T9:=by kernel_rfl
theorem spec_paTable.bits9:waitsOk spec_paTable.T9.2 spec_paTable.B9=true:=by kernel_rfl
def spec_paTable.T10:Bool × List (List Nat × List Nat):=(true,[([],[]),([],[]),([1],[1]),([0,2],[0,2]),([3],[3]),([],[]),([5],[5]),([4,6,0,1,2,3,4,5,6],[4,6]),([7,0,1,2,3,4,5,6],[7])])
def spec_paTable.B10:List Nat:=[0,0,2,7,15,0,32,127,255]
theorem spec_paTable.tab10:rtab .any (opsOf Try.f43 10)=spec_paTable.T10:=by kernel_rfl
theorem spec_paTable.bits10:waitsOk spec_paTable.T10.2 spec_paTable.B10=true:=by kernel_rfl
set_option maxHeartbeats 8000000 in
set_option maxRecDepth 100000 in
theorem spec_paTable.calls (k:Nat) (a0_0:Int) (A0_1:Option Addr) (c0_1:Nat) (l0_1:List (S70)) (r:List (List Bool)) (w:World) (hr0_1:Kd.C k70 w A0_1 l0_1.length l0_1) (hc0_1:l0_1.length≤c0_1) (h:spec_paTable.f k a0_0 l0_1=some r) :
  Calls Try.prog 43 #[.agg #[.int .i64 a0_0,.slice A0_1 l0_1.length c0_1]] w fun e w'=>∃ v0_:Value,e=.returned (v0_)∧Kd.S (Kd.slice 4 Kd.bool) 92 w' w.heap.size (fun _=>True) v0_ r∧Below w.heap.size w w':=by
 have hu30:=Try.underlying30
 have hu70:=Try.underlying70
 have HR0_1:=zz31 hr0_1
 have HC0_1:=zz31 hc0_1
 clear hr0_1 hc0_1
 have HB:=zz31 (Below.refl w.heap.size w)
 have H:(spec_paTable.l0 k ([]:List (List Bool)) 0 a0_0 l0_1)=some r:=h
 clear h
 have H':=zz31 H
 clear H
 go_enter Try.func43,Try.ntmps43
 go_wp2_with (first | ((with_reducible refine gate_dst (N:=1) rfl ?_);refine box_event ?hg (N:=1) ?hd (cs:=#[.int .i64 a0_0,.slice A0_1 l0_1.length c0_1]) (t:=30) ?hr ?_;(case hd=>rfl);(case hg=>rfl);(case hr=>first | (go_simp;done) | (go_simp;rfl));intro gb150 hg w2 hbox hb;have BK150:=zz31 (hbox);have GW150:=zz31 ((by rw [hg];exact (zz5 (by repeat first | exact HB.out | apply zz2 | apply zz0 | apply zz1)):w.heap.size≤gb150));replace HB:=zz31 (zz4 (by repeat first | exact HB.out | apply zz2 | apply zz0 | apply zz1) hb);have GE150:=GW150;clear hb hbox hg))
 go_loopg [3,4] k (fun kq v3 v4 w'=>∃ (x3_1:List (List Bool)) (x4_1:Int),v4=.int .i64 x4_1∧Aside0 (spec_paTable.l0 kq x3_1 x4_1 a0_0 l0_1=some r)∧Aside0 (kq≤k)∧Aside0 (Kd.S (Kd.slice 4 Kd.bool) 92 w' w.heap.size (fun _=>True) v3 x3_1)∧Aside0 (w'.heap[gb150]?=some (.cells #[.int .i64 a0_0,(.slice A0_1 l0_1.length c0_1)] 30 (0,0)))∧Aside0 (Below w.heap.size w w'))
 case atStart=>exact ⟨(([]:List (List Bool))),(0),(by first | rfl | (simp;done) | (simp [*];done)),H',⟨Nat.le_refl _⟩,⟨by first | exact Kd.S_nil _ _ _ _ _ | exact Kd.N_nil _ _ _ _ _ | exact Kd.V_nil _ _ _ _ _ | exact Kd.Q_nil _ _ _ _ _ | exact Kd.R_nil _ _ _ _ _⟩,⟨by (with_reducible repeat (first | refine zz6 ?_ _ | refine zz7 ?_ | refine zz8 ?_ _));exact BK150.out⟩,⟨by repeat first | exact HB.out | apply zz2 | apply zz0 | apply zz1 | refine zz3 ?_ GE150.out⟩⟩
 case round =>
  clear H'
  try clear p2
  obtain ⟨x3_1,x4_1,rfl,HA,HK1,HO_3,BK150,HB⟩:=hrel
  cases gk with
  | zero=>exact absurd HA.out (by simp [spec_paTable.l0])
  | succ k1 =>
   have H:=HA.out
   clear HA
   simp only [spec_paTable.l0] at H
   by_cases c3:x4_1 < a0_0
   ·rw [if_pos c3] at H
    have c3b0:decide (x4_1 < a0_0)=true:=decide_eq_true c3
    clear c3
    by_cases c4:0≤a0_0
    ·rw [if_pos c4] at H
     have c4b0:=eq_true c4
     have c4b1:decide (0≤a0_0)=true:=decide_eq_true c4
     clear c4
     by_cases c5:(a0_0:Int).toNat≤281474976710656
     ·rw [if_pos c5] at H
      have c5b0:=eq_true c5
      have c5b1:decide ((a0_0:Int).toNat≤281474976710656)=true:=decide_eq_true c5
      clear c5
      obtain ⟨y151,hy151⟩:∃ y_:List Bool,y_=(List.replicate (a0_0:Int).toNat false):=⟨_,rfl⟩
      replace H:(if x3_1.length < 5864062014805 then (spec_paTable.l0 k1 (x3_1 ++ [y151]) (wrap64 (x4_1+1)) a0_0 l0_1) else (none))=some r:=by first | (rw [hy151];with_reducible exact H) | (have H2_:=(Option.bind_some _ _).symm.trans H;rw [hy151];with_reducible exact H2_) | (have H2_:=(Option.bind_some _ _).symm.trans H;with_reducible exact H2_) | with_reducible exact H | (rw [hy151];exact H) | exact H
      have Ny151:=zz31 hy151
      clear hy151
      by_cases c6:x3_1.length < 5864062014805
      ·rw [if_pos c6] at H
       have LMc6:=zz31 c6
       clear c6
       obtain ⟨y154,hy154⟩:∃ y_:List (List Bool),y_=(x3_1 ++ [y151]):=⟨_,rfl⟩
       replace H:(spec_paTable.l0 k1 y154 (wrap64 (x4_1+1)) a0_0 l0_1)=some r:=by first | (rw [hy154];with_reducible exact H) | (have H2_:=(Option.bind_some _ _).symm.trans H;rw [hy154];with_reducible exact H2_) | (have H2_:=(Option.bind_some _ _).symm.trans H;with_reducible exact H2_) | with_reducible exact H | (rw [hy154];exact H) | exact H
       have Ny154:=zz31 hy154
       clear hy154
       have H':=zz31 H
       clear H
       have hcz7_0:wr.cell? ⟨gb150,0,none⟩=some (.int .i64 a0_0):=(zz9 BK150.out 0).trans rfl
       have hcz7_1:wr.cell? ⟨gb150,1,none⟩=some (.slice A0_1 l0_1.length c0_1):=(zz9 BK150.out 1).trans rfl
       have hfz7_0:=zz10 BK150.out 0
       have hfz7_1:=zz10 BK150.out 1
       go_wp2_with (first | ((with_reducible refine gate_dst (N:=16) rfl ?_);refine Kd.R_make Kd.bool _ 4 rfl (N:=16) rfl 92 _ _ rfl a0_0 rfl rfl Try.underlying92 (.bool false) 1 info4 rfl (by decide) (by omega) false (ok:=fun _=>True) (okp:=fun _=>True) rfl (fun _ hk=>hk) trivial (zz29 (by first | (with_reducible assumption) | assumption)) (Nat.le_trans (Nat.mul_le_mul_right _ (zz29 (by first | (with_reducible assumption) | assumption):a0_0.toNat≤281474976710656)) (by omega)) (Below.refl _ _) (Nat.le_refl _) ?_;intro v152 w8 ho9 hb hg_ hnew_;clear hg_ hnew_;(first | rw [← Ny151.out] at ho9 | (simp only [Int.reduceToNat] at ho9;rw [← Ny151.out] at ho9));replace HO_3:=zz31 (Kd.S_elder' (by (with_reducible repeat (first | apply zz15 | apply zz16 | apply zz17));exact HO_3.out) (Kd.R_base ho9) hb);have HO153:=zz31 (Kd.R_lower ho9 (zz5 (by repeat first | exact HB.out | apply zz2 | apply zz0 | apply zz1 | refine zz3 ?_ GE150.out)));replace BK150:=zz31 (zz11 (g:=gb150) (o:=.cells #[.int .i64 a0_0,.slice A0_1 l0_1.length c0_1] 30 (0,0)) (by (with_reducible repeat (first | refine zz6 ?_ _ | refine zz7 ?_ | refine zz8 ?_ _));exact BK150.out) hb);replace HB:=zz31 (zz4 (by repeat first | exact HB.out | apply zz2 | apply zz0 | apply zz1 | refine zz3 ?_ GE150.out) hb);clear hb ho9;obtain ⟨Ao11,co11,eo11⟩:=Kd.R_slice HO153.out;subst eo11) | ((with_reducible refine gate_builtin (b:=.append) (xs:=#[.tmp 13,.tmp 17]) rfl ?_);at_builtin;refine Kd.S_append (Kd.slice 4 Kd.bool) (w0:=w) w.heap.size rfl (.tmp 13) (.tmp 17) 64 92 (.slice none 0 0) 24 rfl Try.underlying64 info92 rfl (by decide) (by omega) u3 x3_1 y151 [.slice Ao11 y151.length co11] (fun _=>True) (fun k_=>some k_=(.slice Ao11 y151.length co11:Value).ownBlock) rfl rfl ?aP (fun k_ hk_=>((Kd.R_mono (ok':=fun k_=>((fun _=>True)) k_∧some k_ ≠ (u3:Value).ownBlock) (Kd.R_apart' (HO153.out) (Kd.S_typed HO_3.out) (by decide)) (fun k_ hk=>⟨trivial,hk.2⟩))).1 k_ hk_.symm) ?aF ?aO ?aB ?aS ?aL ?_;(case aP=>exact Kd.M_row (Kd.R_mono (Kd.R_tight rfl (Kd.R_mono (ok':=fun k_=>((fun _=>True)) k_∧some k_ ≠ (u3:Value).ownBlock) (Kd.R_apart' (HO153.out) (Kd.S_typed HO_3.out) (by decide)) (fun k_ hk=>⟨trivial,hk.2⟩))) (fun _ h_=>h_)));(case aB=>exact (by repeat first | exact HB.out | apply zz2 | apply zz0 | apply zz1 | refine zz3 ?_ GE150.out));(case aF=>exact (fun _ _=>trivial));(case aO=>exact (by (with_reducible repeat (first | apply zz15 | apply zz16 | apply zz17));exact Kd.S_mono HO_3.out (fun k_ hk=>⟨trivial,fun e_=>hk.2 e_⟩)));(case aS=>exact (zz5 (by repeat first | exact HB.out | apply zz2 | apply zz0 | apply zz1 | refine zz3 ?_ GE150.out)));(case aL=>have:=LMc6.out;omega);intro v155 w10 ho hb hg hat;rw [← Ny154.out] at ho;replace BK150:=zz31 (blk_grown (g:=gb150) (o:=.cells #[.int .i64 a0_0,.slice A0_1 l0_1.length c0_1] 30 (0,0)) (by (with_reducible repeat (first | refine zz6 ?_ _ | refine zz7 ?_ | refine zz8 ?_ _));exact BK150.out) hg (Kd.S_ne HO_3.out BK150.out (by decide)));replace HB:=zz31 (hb);have HO156:=zz31 (ho);clear HO_3 HO153;clear ho hb hg hat))
       go_roundg k1
       case measure=>have:=HK1.out;omega
       case rel=>exact ⟨(y154),(wrap64 (x4_1+1)),(by first | rfl | (simp;done) | (simp [*];done)),H',⟨by have:=HK1.out;omega⟩,⟨by (with_reducible repeat (first | apply zz15 | apply zz16 | apply zz17));exact HO156.out⟩,⟨by (with_reducible repeat (first | refine zz6 ?_ _ | refine zz7 ?_ | refine zz8 ?_ _));exact BK150.out⟩,⟨by repeat first | exact HB.out | apply zz2 | apply zz0 | apply zz1 | refine zz3 ?_ GE150.out⟩⟩
      ·rw [if_neg c6] at H
       exact absurd H (by simp)
     ·rw [if_neg c5] at H
      exact absurd H (by simp)
    ·rw [if_neg c4] at H
     exact absurd H (by simp)
   ·rw [if_neg c3] at H
    have c3b0:decide (x4_1 < a0_0)=false:=decide_eq_false c3
    clear c3
    have H':=zz31 H
    clear H
    have hcz12_0:wr.cell? ⟨gb150,0,none⟩=some (.int .i64 a0_0):=(zz9 BK150.out 0).trans rfl
    have hcz12_1:wr.cell? ⟨gb150,1,none⟩=some (.slice A0_1 l0_1.length c0_1):=(zz9 BK150.out 1).trans rfl
    have hfz12_0:=zz10 BK150.out 0
    have hfz12_1:=zz10 BK150.out 1
    go_wp2
    go_loopg [22] k1 (fun kq v22 w'=>∃ (x3_2:List (List Bool)) (x22_2:Int),v22=.int .i64 x22_2∧Aside0 (spec_paTable.l1 kq x3_2 l0_1 (l0_1.length:Int) x22_2=some r)∧Aside0 (kq≤k1)∧Aside0 (Kd.S (Kd.slice 4 Kd.bool) 92 w' w.heap.size (fun _=>True) u3 x3_2)∧Aside0 (w'.heap[gb150]?=some (.cells #[.int .i64 a0_0,(.slice A0_1 l0_1.length c0_1)] 30 (0,0)))∧Aside0 (Below w.heap.size w w'))
    case atStart=>exact ⟨(x3_1),(0),(by first | rfl | (simp;done) | (simp [*];done)),H',⟨Nat.le_refl _⟩,⟨by (with_reducible repeat (first | apply zz15 | apply zz16 | apply zz17));exact HO_3.out⟩,⟨by (with_reducible repeat (first | refine zz6 ?_ _ | refine zz7 ?_ | refine zz8 ?_ _));exact BK150.out⟩,⟨by repeat first | exact HB.out | apply zz2 | apply zz0 | apply zz1 | refine zz3 ?_ GE150.out⟩⟩
    case round =>
     clear H'
     try clear p2
     try clear c3
     try clear c3b0
     try clear c4
     try clear c4b0
     try clear c4b1
     try clear c5
     try clear c5b0
     try clear c5b1
     try clear c6
     try clear p6
     try clear hcz12_0
     try clear hcz12_1
     try clear hcz7_0
     try clear hcz7_1
     try clear hfz12_0
     try clear hfz12_1
     try clear hfz7_0
     try clear hfz7_1
     try clear p2
     obtain ⟨x3_2,x22_2,rfl,HA,HK2,HO_3,BK150,HB⟩:=hrel
     cases gk with
     | zero=>exact absurd HA.out (by simp [spec_paTable.l1])
     | succ k2 =>
      have H:=HA.out
      clear HA
      simp only [spec_paTable.l1] at H
      by_cases c13:x22_2 < (l0_1.length:Int)
      ·rw [if_pos c13] at H
       have c13b0:decide (x22_2 < (l0_1.length:Int))=true:=decide_eq_true c13
       clear c13
       by_cases c14:0≤x22_2
       ·rw [if_pos c14] at H
        have c14b0:decide (0≤x22_2)=true:=decide_eq_true c14
        clear c14
        by_cases c15:x22_2 < (l0_1.length:Int)
        ·rw [if_pos c15] at H
         have c15b0:decide (x22_2 < (l0_1.length:Int))=true:=decide_eq_true c15
         clear c15
         by_cases c16:0≤((rd_T70 l0_1 x22_2).f0)
         ·rw [if_pos c16] at H
          have c16b0:decide (0≤((rd_T70 l0_1 x22_2).f0))=true:=decide_eq_true c16
          clear c16
          by_cases c17:((rd_T70 l0_1 x22_2).f0) < (x3_2.length:Int)
          ·rw [if_pos c17] at H
           have c17b0:decide (((rd_T70 l0_1 x22_2).f0) < (x3_2.length:Int))=true:=decide_eq_true c17
           clear c17
           by_cases c18:0≤((rd_T70 l0_1 x22_2).f1)
           ·rw [if_pos c18] at H
            have c18b0:decide (0≤((rd_T70 l0_1 x22_2).f1))=true:=decide_eq_true c18
            clear c18
            by_cases c19:((rd_T70 l0_1 x22_2).f1) < ((rd_L4 x3_2 ((rd_T70 l0_1 x22_2).f0)).length:Int)
            ·rw [if_pos c19] at H
             have c19b0:decide (((rd_T70 l0_1 x22_2).f1) < ((rd_L4 x3_2 ((rd_T70 l0_1 x22_2).f0)).length:Int))=true:=decide_eq_true c19
             clear c19
             obtain ⟨y160,hy160⟩:∃ y_:List Bool,y_=((rd_L4 x3_2 ((rd_T70 l0_1 x22_2).f0)).set (((rd_T70 l0_1 x22_2).f1):Int).toNat true):=⟨_,rfl⟩
             replace H:((some (x3_2.set (((rd_T70 l0_1 x22_2).f0):Int).toNat y160:List (List Bool))).bind fun y162=>(if ((rd_T70 l0_1 x22_2).f1) < (x3_2.length:Int) then (if ((rd_T70 l0_1 x22_2).f0) < ((rd_L4 y162 ((rd_T70 l0_1 x22_2).f1)).length:Int) then (spec_paTable.l1 k2 (y162.set (((rd_T70 l0_1 x22_2).f1):Int).toNat ((rd_L4 y162 ((rd_T70 l0_1 x22_2).f1)).set (((rd_T70 l0_1 x22_2).f0):Int).toNat true)) l0_1 (l0_1.length:Int) (wrap64 (x22_2+1))) else (none)) else (none)))=some r:=by first | (rw [hy160];with_reducible exact H) | (have H2_:=(Option.bind_some _ _).symm.trans H;rw [hy160];with_reducible exact H2_) | (have H2_:=(Option.bind_some _ _).symm.trans H;with_reducible exact H2_) | with_reducible exact H | (rw [hy160];exact H) | exact H
             have Ny160:=zz31 hy160
             clear hy160
             obtain ⟨y162,hy162⟩:∃ y_:List (List Bool),y_=(x3_2.set (((rd_T70 l0_1 x22_2).f0):Int).toNat y160):=⟨_,rfl⟩
             replace H:(if ((rd_T70 l0_1 x22_2).f1) < (x3_2.length:Int) then (if ((rd_T70 l0_1 x22_2).f0) < ((rd_L4 y162 ((rd_T70 l0_1 x22_2).f1)).length:Int) then (spec_paTable.l1 k2 (y162.set (((rd_T70 l0_1 x22_2).f1):Int).toNat ((rd_L4 y162 ((rd_T70 l0_1 x22_2).f1)).set (((rd_T70 l0_1 x22_2).f0):Int).toNat true)) l0_1 (l0_1.length:Int) (wrap64 (x22_2+1))) else (none)) else (none))=some r:=by first | (rw [hy162];with_reducible exact H) | (have H2_:=(Option.bind_some _ _).symm.trans H;rw [hy162];with_reducible exact H2_) | (have H2_:=(Option.bind_some _ _).symm.trans H;with_reducible exact H2_) | with_reducible exact H | (rw [hy162];exact H) | exact H
             have Ny162:=zz31 hy162
             clear hy162
             by_cases c21:((rd_T70 l0_1 x22_2).f1) < (x3_2.length:Int)
             ·rw [if_pos c21] at H
              have c21b0:decide (((rd_T70 l0_1 x22_2).f1) < (x3_2.length:Int))=true:=decide_eq_true c21
              clear c21
              by_cases c22:((rd_T70 l0_1 x22_2).f0) < ((rd_L4 y162 ((rd_T70 l0_1 x22_2).f1)).length:Int)
              ·rw [if_pos c22] at H
               have c22b0:decide (((rd_T70 l0_1 x22_2).f0) < ((rd_L4 y162 ((rd_T70 l0_1 x22_2).f1)).length:Int))=true:=decide_eq_true c22
               clear c22
               obtain ⟨y164,hy164⟩:∃ y_:List Bool,y_=((rd_L4 y162 ((rd_T70 l0_1 x22_2).f1)).set (((rd_T70 l0_1 x22_2).f0):Int).toNat true):=⟨_,rfl⟩
               replace H:(spec_paTable.l1 k2 (y162.set (((rd_T70 l0_1 x22_2).f1):Int).toNat y164) l0_1 (l0_1.length:Int) (wrap64 (x22_2+1)))=some r:=by first | (rw [hy164];with_reducible exact H) | (have H2_:=(Option.bind_some _ _).symm.trans H;rw [hy164];with_reducible exact H2_) | (have H2_:=(Option.bind_some _ _).symm.trans H;with_reducible exact H2_) | with_reducible exact H | (rw [hy164];exact H) | exact H
               have Ny164:=zz31 hy164
               clear hy164
               obtain ⟨y166,hy166⟩:∃ y_:List (List Bool),y_=(y162.set (((rd_T70 l0_1 x22_2).f1):Int).toNat y164):=⟨_,rfl⟩
               replace H:(spec_paTable.l1 k2 y166 l0_1 (l0_1.length:Int) (wrap64 (x22_2+1)))=some r:=by first | (rw [hy166];with_reducible exact H) | (have H2_:=(Option.bind_some _ _).symm.trans H;rw [hy166];with_reducible exact H2_) | (have H2_:=(Option.bind_some _ _).symm.trans H;with_reducible exact H2_) | with_reducible exact H | (rw [hy166];exact H) | exact H
               have Ny166:=zz31 hy166
               clear hy166
               have H':=zz31 H
               clear H
               have p157:0≤(x22_2:Int):=zz29 (by first | (with_reducible assumption) | assumption)
               have q157:x22_2 < (l0_1.length:Int):=zz29 (by first | (with_reducible assumption) | assumption)
               obtain ⟨ad157,e157,hx157_0,hx157_1⟩:=at_T70 HR0_1.out x22_2 p157 q157
               cases e157
               try replace hx157_0:=(HB.out.cell (World.block_lt_of_cell? w _ hx157_0)).trans hx157_0
               try replace hx157_1:=(HB.out.cell (World.block_lt_of_cell? w _ hx157_1)).trans hx157_1
               replace p157:=eq_true p157
               replace q157:=eq_true q157
               try go_wp2_with (first | ((with_reducible refine gate_dst (N:=6) rfl ?_);refine box_event ?hg (N:=6) ?hd (cs:=#[.int .i64 0,.int .i64 0]) (t:=70) ?hr ?_;(case hd=>rfl);(case hg=>rfl);(case hr=>first | (go_simp;done) | (go_simp;rfl));intro gb158 hg w24 hbox hb;replace HO_3:=zz31 (Kd.S_below (by (with_reducible repeat (first | apply zz15 | apply zz16 | apply zz17));exact HO_3.out) hb);have BK158:=zz31 (hbox);have GW158:=zz31 ((by rw [hg];exact (zz5 (by repeat first | exact HB.out | apply zz2 | apply zz0 | apply zz1 | refine zz3 ?_ GE150.out)):w.heap.size≤gb158));replace HB:=zz31 (zz4 (by repeat first | exact HB.out | apply zz2 | apply zz0 | apply zz1 | refine zz3 ?_ GE150.out) hb);have GE158:=GW158;have NB150_158:=zz31 ((by rw [hg];exact Nat.ne_of_lt (blk_lt (g:=gb150) (o:=.cells #[.int .i64 a0_0,.slice (some ad157) l0_1.length c0_1] 30 (0,0)) (by (with_reducible repeat (first | refine zz6 ?_ _ | refine zz7 ?_ | refine zz8 ?_ _));exact BK150.out)):gb150 ≠ gb158));have NB158_150:=zz31 ((by rw [hg];exact Nat.ne_of_gt (blk_lt (g:=gb150) (o:=.cells #[.int .i64 a0_0,.slice (some ad157) l0_1.length c0_1] 30 (0,0)) (by (with_reducible repeat (first | refine zz6 ?_ _ | refine zz7 ?_ | refine zz8 ?_ _));exact BK150.out)):gb158 ≠ gb150));replace BK150:=zz31 (zz11 (g:=gb150) (o:=.cells #[.int .i64 a0_0,.slice (some ad157) l0_1.length c0_1] 30 (0,0)) (by (with_reducible repeat (first | refine zz6 ?_ _ | refine zz7 ?_ | refine zz8 ?_ _));exact BK150.out) hb);clear hb hbox hg;have hnb25:=NB158_150.out;have hnc25:=NB150_158.out;have hcz26_0:w24.cell? ⟨gb158,0,none⟩=some (.int .i64 0):=(zz9 BK158.out 0).trans rfl;have hcz26_1:w24.cell? ⟨gb158,1,none⟩=some (.int .i64 0):=(zz9 BK158.out 1).trans rfl;have hfz26_0:=zz10 BK158.out 0;have hfz26_1:=zz10 BK158.out 1))
               have n0_:Aside0 (Kd.S (Kd.slice 4 Kd.bool) 92 ((w24.setCell ⟨gb158,0,none⟩ (.int .i64 ((rd_T70 l0_1 x22_2).f0))).setCell ⟨gb158,1,none⟩ (.int .i64 ((rd_T70 l0_1 x22_2).f1))) w.heap.size (fun _=>True) u3 x3_2):=⟨by (with_reducible repeat (first | apply zz15 | apply zz16 | apply zz17));exact Kd.S_mono (Kd.S_far (p:=⟨gb158,1,none⟩) (Kd.S_far (p:=⟨gb158,0,none⟩) (Kd.S_types HO_3.out BK158.out (by decide)) (fun _ hk=>hk.2) (.int .i64 ((rd_T70 l0_1 x22_2).f0))) (fun _ hk=>hk.2) (.int .i64 ((rd_T70 l0_1 x22_2).f1))) (fun _ hk=>trivial)⟩
               have n1_:Aside0 (((w24.setCell ⟨gb158,0,none⟩ (.int .i64 ((rd_T70 l0_1 x22_2).f0))).setCell ⟨gb158,1,none⟩ (.int .i64 ((rd_T70 l0_1 x22_2).f1))).heap[gb150]?=some (.cells #[.int .i64 a0_0,.slice (some ad157) l0_1.length c0_1] 30 (0,0))):=⟨by (with_reducible repeat (first | refine zz6 ?_ _ | refine zz7 ?_ | refine zz8 ?_ _));refine blk_far ?_ NB150_158.out _;(with_reducible repeat (first | refine zz6 ?_ _ | refine zz7 ?_ | refine zz8 ?_ _));refine blk_far ?_ NB150_158.out _;(with_reducible repeat (first | refine zz6 ?_ _ | refine zz7 ?_ | refine zz8 ?_ _));exact BK150.out⟩
               have n2_:Aside0 (((w24.setCell ⟨gb158,0,none⟩ (.int .i64 ((rd_T70 l0_1 x22_2).f0))).setCell ⟨gb158,1,none⟩ (.int .i64 ((rd_T70 l0_1 x22_2).f1))).heap[gb158]?=some (.cells #[.int .i64 ((rd_T70 l0_1 x22_2).f0),.int .i64 ((rd_T70 l0_1 x22_2).f1)] 70 (0,0))):=⟨by (with_reducible repeat (first | refine zz6 ?_ _ | refine zz7 ?_ | refine zz8 ?_ _));refine blk_put (cs:=#[.int .i64 ((rd_T70 l0_1 x22_2).f0),.int .i64 0]) ?_ 1 _ rfl;(with_reducible repeat (first | refine zz6 ?_ _ | refine zz7 ?_ | refine zz8 ?_ _));refine blk_put (cs:=#[.int .i64 0,.int .i64 0]) ?_ 0 _ rfl;(with_reducible repeat (first | refine zz6 ?_ _ | refine zz7 ?_ | refine zz8 ?_ _));exact BK158.out⟩
               have n3_:Aside0 (Below w.heap.size w ((w24.setCell ⟨gb158,0,none⟩ (.int .i64 ((rd_T70 l0_1 x22_2).f0))).setCell ⟨gb158,1,none⟩ (.int .i64 ((rd_T70 l0_1 x22_2).f1)))):=⟨by repeat first | exact HB.out | apply zz2 | apply zz0 | apply zz1 | refine zz3 ?_ GE150.out | refine zz3 ?_ GE158.out⟩
               (try clear HO_3)
               (try clear BK150)
               (try clear BK158)
               (try clear HB)
               generalize ((w24.setCell ⟨gb158,0,none⟩ (.int .i64 ((rd_T70 l0_1 x22_2).f0))).setCell ⟨gb158,1,none⟩ (.int .i64 ((rd_T70 l0_1 x22_2).f1)))=w27 at n0_ n1_ n2_ n3_ ⊢
               have HO_3:=n0_
               have BK150:=n1_
               have BK158:=n2_
               have HB:=n3_
               clear n0_ n1_ n2_ n3_
               replace HO_3:=zz31 (zz17 HO_3.out)
               replace BK150:=zz31 (zz7 BK150.out)
               replace BK158:=zz31 (zz7 BK158.out)
               replace HB:=zz31 (zz1 HB.out)
               obtain ⟨Ao29,co29,eo29⟩:=Kd.S_slice HO_3.out
               (first | subst eo29 | (injection eo29 with f1_ f2_ f3_;have f4_:=f1_.symm;have f5_:=f3_.symm;clear f1_ f2_ f3_;subst f4_;subst f5_))
               have p159:0≤(((rd_T70 l0_1 x22_2).f0):Int):=zz29 (by first | (with_reducible assumption) | assumption)
               have q159:((rd_T70 l0_1 x22_2).f0) < (x3_2.length:Int):=zz29 (by first | (with_reducible assumption) | assumption)
               obtain ⟨ad159,A159_0,c159_0,e159,hx159_0,hl159_0,hi159_0⟩:=at_L4 (Kd.S_reads' HO_3.out).2.2 ((rd_T70 l0_1 x22_2).f0) p159 q159
               cases e159
               obtain ⟨ce159,hce159,hMe159,hcc159⟩:=Kd.S_get HO_3.out [] ((rd_T70 l0_1 x22_2).f0) p159 (by first | exact q159 | exact zz29 (by first | (with_reducible assumption) | assumption) | (have e_:=(Kd.S_reads' HO_3.out).1;omega))
               obtain ⟨ve159_0,rfl,ge159_0⟩:=hMe159
               have hv159_0:=hcc159 0 _ rfl
               rw [Nat.add_zero,show ((Kd.slice 4 Kd.bool)).sz=1 from rfl,Nat.mul_one] at hv159_0
               replace hv159_0:=Option.some.inj (hv159_0.symm.trans hx159_0)
               rw [hv159_0] at ge159_0
               have HL159_0:=zz31 (show Kd.R Kd.bool 4 _ _ _ _ (rd_L4 x3_2 ((rd_T70 l0_1 x22_2).f0)) from ge159_0)
               clear hv159_0 ge159_0
               have HX159_0:=zz31 hx159_0
               clear hcc159 hce159
               have HR159_0:=zz31 hi159_0
               have HC159_0:=zz31 hl159_0
               clear hi159_0 hl159_0
               replace p159:=eq_true p159
               replace q159:=eq_true q159
               have p20:0≤(((rd_T70 l0_1 x22_2).f1):Int):=zz29 (by first | (with_reducible assumption) | assumption)
               have q20:(((rd_T70 l0_1 x22_2).f1):Int) < (((rd_L4 x3_2 ((rd_T70 l0_1 x22_2).f0)).length:Int):Int):=zz29 (by first | (with_reducible assumption) | assumption)
               obtain ⟨go20,co20,eo20,gb20,gl20,cl20,HG20⟩:=Kd.R_form HL159_0.out (by omega)
               (first | cases eo20 | (injection eo20 with ea_ en_ ec_;(first | subst ea_ | (injection ea_ with ea_;subst ea_));subst ec_;clear en_))
               have GB20:=zz31 gb20
               have GG20:=zz31 HG20
               clear gb20 gl20 HG20
               obtain ⟨hx20_0,hf20_0⟩:=Kd.R_celln false HL159_0.out (((rd_T70 l0_1 x22_2).f1):Int) p20 q20
               replace p20:=eq_true p20
               replace q20:=eq_true q20
               have hq30:(((rd_T70 l0_1 x22_2).f0):Int) < (x3_2.length:Int):=(by have h_:(((rd_T70 l0_1 x22_2).f0):Int) < ((x3_2.length:Int):Int):=zz29 (by first | (with_reducible assumption) | assumption);first | exact h_ | (have e_:=(Kd.S_reads' HO_3.out).1;omega) | simpa only [List.length_set,List.length_set] using h_)
               obtain ⟨oki30,ce30,hcl30,hM30,hcc30,hok30,hbk30⟩:=Kd.S_borrow HO_3.out [] (((rd_T70 l0_1 x22_2).f0):Int) (zz29 (by first | (with_reducible assumption) | assumption)) (by first | exact hq30 | (have e_:=(Kd.S_reads' HO_3.out).1;omega))
               obtain ⟨ve30_0,rfl,ge30_0⟩:=hM30
               have hv30:=hcc30 0 _ rfl
               rw [Nat.add_zero,show ((Kd.slice 4 Kd.bool)).sz=1 from rfl,Nat.mul_one] at hv30
               replace hv30:=Option.some.inj (hv30.symm.trans HX159_0.out)
               subst hv30
               clear hcc30 hcl30
               replace ge30_0:=(show Kd.R Kd.bool 4 _ _ _ _ (rd_L4 x3_2 ((rd_T70 l0_1 x22_2).f0)) from ge30_0)
               have HP30:=Kd.R_putg ge30_0 (((rd_T70 l0_1 x22_2).f1):Int) true
               rw [← Ny160.out] at HP30
               have HS30:=hbk30 HP30.2 (fun k_ e_=>by injection e_ with e_;subst e_;exact ge30_0.1 _ rfl) (x':=y160) (Kd.M_row HP30.1)
               rw [← Ny162.out] at HS30
               have HQ30:=zz31 HS30
               clear HP30 HS30 hbk30 hok30
               refine start_ (n:=9) (S:=fun w'=>w'.cell? ⟨gb158,0,none⟩=some (.int .i64 ((rd_T70 l0_1 x22_2).f0))∧w'.cell? ⟨gb158,1,none⟩=some (.int .i64 ((rd_T70 l0_1 x22_2).f1))∧w'.cell? (ad159.add (((rd_T70 l0_1 x22_2).f0)).toNat)=some (.slice (some ⟨go20,0,none⟩) (rd_L4 x3_2 ((rd_T70 l0_1 x22_2).f0)).length c159_0)) (ds:=[8]) #[F,F,F,F,F,F,F,F,F] (by kernel_rfl) rfl rfl ⟨(zz9 BK158.out 0).trans rfl,(zz9 BK158.out 1).trans rfl,hx159_0⟩ (fun hHeld=>?_);refine with_tabW spec_paTable.tab9 spec_paTable.bits9 (fun HT_ HW_=>?_)
               generalize w27.drew=w28 at HO_3 BK150 BK158 HB GG20 HL159_0 HQ30 HR159_0 HX159_0 hf20_0 hx159_0 hx20_0 hHeld ⊢
               refine zz32 (v:=?_) (a':=?_) 0 (some 26) #[T,F,F,F,F,F,F,F,F] rfl rfl HT_.out (by kernel_rfl) (fun _ _ _ h=>h) (by rfl) (fun w'=>?_) ?_ ?_;rotate_left;(go_simp;with_reducible rfl);rotate_left;(simp only [Act.put,zz21,zz22,zz23,i64_w,i32_w];rfl)
               refine zz32 (v:=?_) (a':=?_) 1 (some 27) #[T,T,F,F,F,F,F,F,F] rfl rfl HT_.out (by kernel_rfl) (fun _ _ _ h=>h) (by rfl) (fun w'=>?_) ?_ ?_;rotate_left;(go_simp;with_reducible rfl);rotate_left;(simp only [Act.put,zz21,zz22,zz23,i64_w,i32_w];rfl)
               refine zz32 (v:=?_) (a':=?_) 5 (some 31) #[T,T,F,F,F,T,F,F,F] rfl rfl HT_.out (by kernel_rfl) (fun _ _ _ h=>h) (by rfl) (fun w'=>?_) ?_ ?_;rotate_left;(go_simp;with_reducible rfl);rotate_left;(simp only [Act.put,zz21,zz22,zz23,i64_w,i32_w];rfl)
               refine zz33 (v:=?_) (a':=?_) 2 (some 28) #[T,T,T,F,F,T,F,F,F] rfl rfl HT_.out HW_.out (by kernel_rfl) (fun _ _ _ h=>h) (by rfl) ?_ hHeld ?_ ?_;rotate_left;(rintro w' ⟨s0,s1,s2⟩;go_simp;with_reducible rfl);rotate_left;(simp only [Act.put,zz21,zz22,zz23,i64_w,i32_w];rfl)
               refine zz32 (v:=?_) (a':=?_) 3 (some 29) #[T,T,T,T,F,T,F,F,F] rfl rfl HT_.out (by kernel_rfl) (fun _ _ _ h=>h) (by rfl) (fun w'=>?_) ?_ ?_;rotate_left;(go_simp;with_reducible rfl);rotate_left;(simp only [Act.put,zz21,zz22,zz23,i64_w,i32_w];rfl)
               refine zz33 (v:=?_) (a':=?_) 4 (some 30) #[T,T,T,T,T,T,F,F,F] rfl rfl HT_.out HW_.out (by kernel_rfl) (fun _ _ _ h=>h) (by rfl) ?_ hHeld ?_ ?_;rotate_left;(rintro w' ⟨s0,s1,s2⟩;go_simp;with_reducible rfl);rotate_left;(simp only [Act.put,zz21,zz22,zz23,i64_w,i32_w];rfl)
               refine zz33 (v:=?_) (a':=?_) 6 (some 32) #[T,T,T,T,T,T,T,F,F] rfl rfl HT_.out HW_.out (by kernel_rfl) (fun _ _ _ h=>h) (by rfl) ?_ hHeld ?_ ?_;rotate_left;(rintro w' ⟨s0,s1,s2⟩;go_simp;with_reducible rfl);rotate_left;(simp only [Act.put,zz21,zz22,zz23,i64_w,i32_w];rfl)
               refine zz32 (v:=?_) (a':=?_) 7 (some 33) #[T,T,T,T,T,T,T,T,F] rfl rfl HT_.out (by kernel_rfl) (fun _ _ _ h=>h) (by rfl) (fun w'=>?_) ?_ ?_;rotate_left;(go_simp;with_reducible rfl);rotate_left;(simp only [Act.put,zz21,zz22,zz23,i64_w,i32_w];rfl)
               refine last_ (i:=8) (N:=none) #[T,T,T,T,T,T,T,T,T] rfl rfl (one_of HT_.out (by kernel_rfl)) (by decide) (fun K hK=>?_)
               refine skip_ (w1:=?_) (by rfl) rfl ?_ ?_
               rotate_left
               ·go_simp
                rfl
               refine hK.out _ _ ?_
               clear hK K
               refine done_ (done_of HT_.out (by kernel_rfl)) ?_
               try go_wp2
               have n0_:Aside0 (Kd.S (Kd.slice 4 Kd.bool) 92 (w28.setCell ⟨go20,(((rd_T70 l0_1 x22_2).f1):Int).toNat,none⟩ (.bool true)) w.heap.size (fun _=>True) (.slice (some ad159) x3_2.length co29) y162):=⟨by (with_reducible repeat (first | apply zz15 | apply zz16 | apply zz17));exact HQ30.out⟩
               have n1_:Aside0 ((w28.setCell ⟨go20,(((rd_T70 l0_1 x22_2).f1):Int).toNat,none⟩ (.bool true)).heap[gb150]?=some (.cells #[.int .i64 a0_0,.slice (some ad157) l0_1.length c0_1] 30 (0,0))):=⟨by (with_reducible repeat (first | refine zz6 ?_ _ | refine zz7 ?_ | refine zz8 ?_ _));refine blk_far ?_ (by have h_:=Kd.R_ne HL159_0.out BK150.out (by decide);intro e_;exact h_ (by rw [e_];rfl)) _;(with_reducible repeat (first | refine zz6 ?_ _ | refine zz7 ?_ | refine zz8 ?_ _));exact BK150.out⟩
               have n2_:Aside0 ((w28.setCell ⟨go20,(((rd_T70 l0_1 x22_2).f1):Int).toNat,none⟩ (.bool true)).heap[gb158]?=some (.cells #[.int .i64 ((rd_T70 l0_1 x22_2).f0),.int .i64 ((rd_T70 l0_1 x22_2).f1)] 70 (0,0))):=⟨by (with_reducible repeat (first | refine zz6 ?_ _ | refine zz7 ?_ | refine zz8 ?_ _));refine blk_far ?_ (by have h_:=Kd.R_ne HL159_0.out BK158.out (by decide);intro e_;exact h_ (by rw [e_];rfl)) _;(with_reducible repeat (first | refine zz6 ?_ _ | refine zz7 ?_ | refine zz8 ?_ _));exact BK158.out⟩
               have n3_:Aside0 (Below w.heap.size w (w28.setCell ⟨go20,(((rd_T70 l0_1 x22_2).f1):Int).toNat,none⟩ (.bool true))):=⟨by repeat first | exact HB.out | apply zz2 | apply zz0 | apply zz1 | refine zz3 ?_ GB20.out | refine zz3 ?_ GE150.out | refine zz3 ?_ GE158.out⟩
               (try clear HO_3)
               (try clear BK150)
               (try clear BK158)
               (try clear HB)
               generalize (w28.setCell ⟨go20,(((rd_T70 l0_1 x22_2).f1):Int).toNat,none⟩ (.bool true))=w32 at n0_ n1_ n2_ n3_ ⊢
               have HO_3:=n0_
               have BK150:=n1_
               have BK158:=n2_
               have HB:=n3_
               clear n0_ n1_ n2_ n3_
               replace HO_3:=zz31 (zz17 HO_3.out)
               replace BK150:=zz31 (zz7 BK150.out)
               replace BK158:=zz31 (zz7 BK158.out)
               replace HB:=zz31 (zz1 HB.out)
               have p163:0≤(((rd_T70 l0_1 x22_2).f1):Int):=zz29 (by first | (with_reducible assumption) | assumption)
               have q163:((rd_T70 l0_1 x22_2).f1) < (y162.length:Int):=(by have h_:(((rd_T70 l0_1 x22_2).f1):Int) < ((x3_2.length:Int):Int):=zz29 (by first | (with_reducible assumption) | assumption);first | (have e_:=(Kd.S_reads' HO_3.out).1;omega) | simpa only [Ny162.out,List.length_set] using h_)
               have ql163:((((rd_T70 l0_1 x22_2).f1):Int) < ((x3_2.length:Int):Int))=True:=eq_true (zz29 (by first | (with_reducible assumption) | assumption))
               obtain ⟨ad163,A163_0,c163_0,e163,hx163_0,hl163_0,hi163_0⟩:=at_L4 (Kd.S_reads' HO_3.out).2.2 ((rd_T70 l0_1 x22_2).f1) p163 q163
               obtain rfl:ad159=ad163:=(by injection e163)
               obtain ⟨ce163,hce163,hMe163,hcc163⟩:=Kd.S_get HO_3.out [] ((rd_T70 l0_1 x22_2).f1) p163 (by first | exact q163 | exact zz29 (by first | (with_reducible assumption) | assumption) | (have e_:=(Kd.S_reads' HO_3.out).1;omega))
               obtain ⟨ve163_0,rfl,ge163_0⟩:=hMe163
               have hv163_0:=hcc163 0 _ rfl
               rw [Nat.add_zero,show ((Kd.slice 4 Kd.bool)).sz=1 from rfl,Nat.mul_one] at hv163_0
               replace hv163_0:=Option.some.inj (hv163_0.symm.trans hx163_0)
               rw [hv163_0] at ge163_0
               have HL163_0:=zz31 (show Kd.R Kd.bool 4 _ _ _ _ (rd_L4 y162 ((rd_T70 l0_1 x22_2).f1)) from ge163_0)
               clear hv163_0 ge163_0
               have HX163_0:=zz31 hx163_0
               clear hcc163 hce163
               have HR163_0:=zz31 hi163_0
               have HC163_0:=zz31 hl163_0
               clear hi163_0 hl163_0
               replace p163:=eq_true p163
               replace q163:=eq_true q163
               have p23:0≤(((rd_T70 l0_1 x22_2).f0):Int):=zz29 (by first | (with_reducible assumption) | assumption)
               have q23:(((rd_T70 l0_1 x22_2).f0):Int) < (((rd_L4 y162 ((rd_T70 l0_1 x22_2).f1)).length:Int):Int):=zz29 (by first | (with_reducible assumption) | assumption)
               obtain ⟨go23,co23,eo23,gb23,gl23,cl23,HG23⟩:=Kd.R_form HL163_0.out (by omega)
               (first | cases eo23 | (injection eo23 with ea_ en_ ec_;(first | subst ea_ | (injection ea_ with ea_;subst ea_));subst ec_;clear en_))
               have GB23:=zz31 gb23
               have GG23:=zz31 HG23
               clear gb23 gl23 HG23
               obtain ⟨hx23_0,hf23_0⟩:=Kd.R_celln false HL163_0.out (((rd_T70 l0_1 x22_2).f0):Int) p23 q23
               replace p23:=eq_true p23
               replace q23:=eq_true q23
               have hq34:(((rd_T70 l0_1 x22_2).f1):Int) < (y162.length:Int):=(by have h_:(((rd_T70 l0_1 x22_2).f1):Int) < ((x3_2.length:Int):Int):=zz29 (by first | (with_reducible assumption) | assumption);first | exact h_ | (have e_:=(Kd.S_reads' HO_3.out).1;omega) | simpa only [Ny162.out,List.length_set] using h_)
               obtain ⟨oki34,ce34,hcl34,hM34,hcc34,hok34,hbk34⟩:=Kd.S_borrow HO_3.out [] (((rd_T70 l0_1 x22_2).f1):Int) (zz29 (by first | (with_reducible assumption) | assumption)) (by first | exact hq34 | (have e_:=(Kd.S_reads' HO_3.out).1;omega))
               obtain ⟨ve34_0,rfl,ge34_0⟩:=hM34
               have hv34:=hcc34 0 _ rfl
               rw [Nat.add_zero,show ((Kd.slice 4 Kd.bool)).sz=1 from rfl,Nat.mul_one] at hv34
               replace hv34:=Option.some.inj (hv34.symm.trans HX163_0.out)
               subst hv34
               clear hcc34 hcl34
               replace ge34_0:=(show Kd.R Kd.bool 4 _ _ _ _ (rd_L4 y162 ((rd_T70 l0_1 x22_2).f1)) from ge34_0)
               have HP34:=Kd.R_putg ge34_0 (((rd_T70 l0_1 x22_2).f0):Int) true
               rw [← Ny164.out] at HP34
               have HS34:=hbk34 HP34.2 (fun k_ e_=>by injection e_ with e_;subst e_;exact ge34_0.1 _ rfl) (x':=y164) (Kd.M_row HP34.1)
               rw [← Ny166.out] at HS34
               have HQ34:=zz31 HS34
               clear HP34 HS34 hbk34 hok34
               refine start_ (n:=9) (S:=fun w'=>w'.cell? ⟨gb158,0,none⟩=some (.int .i64 ((rd_T70 l0_1 x22_2).f0))∧w'.cell? ⟨gb158,1,none⟩=some (.int .i64 ((rd_T70 l0_1 x22_2).f1))∧w'.cell? (ad159.add (((rd_T70 l0_1 x22_2).f1)).toNat)=some (.slice (some ⟨go23,0,none⟩) (rd_L4 y162 ((rd_T70 l0_1 x22_2).f1)).length c163_0)) (ds:=[8]) #[F,F,F,F,F,F,F,F,F] (by kernel_rfl) rfl rfl ⟨(zz9 BK158.out 0).trans rfl,(zz9 BK158.out 1).trans rfl,hx163_0⟩ (fun hHeld=>?_);refine with_tabW spec_paTable.tab10 spec_paTable.bits10 (fun HT_ HW_=>?_)
               generalize w32.drew=w33 at HO_3 BK150 BK158 HB GG23 HL163_0 HQ30 HQ34 HR163_0 HX163_0 hf23_0 hx163_0 hx23_0 hHeld ⊢
               refine zz32 (v:=?_) (a':=?_) 0 (some 34) #[T,F,F,F,F,F,F,F,F] rfl rfl HT_.out (by kernel_rfl) (fun _ _ _ h=>h) (by rfl) (fun w'=>?_) ?_ ?_;rotate_left;(go_simp;with_reducible rfl);rotate_left;(simp only [Act.put,zz21,zz22,zz23,i64_w,i32_w];rfl)
               refine zz32 (v:=?_) (a':=?_) 1 (some 35) #[T,T,F,F,F,F,F,F,F] rfl rfl HT_.out (by kernel_rfl) (fun _ _ _ h=>h) (by rfl) (fun w'=>?_) ?_ ?_;rotate_left;(go_simp;with_reducible rfl);rotate_left;(simp only [Act.put,zz21,zz22,zz23,i64_w,i32_w];rfl)
               refine zz32 (v:=?_) (a':=?_) 5 (some 39) #[T,T,F,F,F,T,F,F,F] rfl rfl HT_.out (by kernel_rfl) (fun _ _ _ h=>h) (by rfl) (fun w'=>?_) ?_ ?_;rotate_left;(go_simp;with_reducible rfl);rotate_left;(simp only [Act.put,zz21,zz22,zz23,i64_w,i32_w];rfl)
               refine zz33 (v:=?_) (a':=?_) 2 (some 36) #[T,T,T,F,F,T,F,F,F] rfl rfl HT_.out HW_.out (by kernel_rfl) (fun _ _ _ h=>h) (by rfl) ?_ hHeld ?_ ?_;rotate_left;(rintro w' ⟨s0,s1,s2⟩;go_simp;with_reducible rfl);rotate_left;(simp only [Act.put,zz21,zz22,zz23,i64_w,i32_w];rfl)
               refine zz32 (v:=?_) (a':=?_) 3 (some 37) #[T,T,T,T,F,T,F,F,F] rfl rfl HT_.out (by kernel_rfl) (fun _ _ _ h=>h) (by rfl) (fun w'=>?_) ?_ ?_;rotate_left;(go_simp;with_reducible rfl);rotate_left;(simp only [Act.put,zz21,zz22,zz23,i64_w,i32_w];rfl)
               refine zz33 (v:=?_) (a':=?_) 4 (some 38) #[T,T,T,T,T,T,F,F,F] rfl rfl HT_.out HW_.out (by kernel_rfl) (fun _ _ _ h=>h) (by rfl) ?_ hHeld ?_ ?_;rotate_left;(rintro w' ⟨s0,s1,s2⟩;go_simp;with_reducible rfl);rotate_left;(simp only [Act.put,zz21,zz22,zz23,i64_w,i32_w];rfl)
               refine zz33 (v:=?_) (a':=?_) 6 (some 40) #[T,T,T,T,T,T,T,F,F] rfl rfl HT_.out HW_.out (by kernel_rfl) (fun _ _ _ h=>h) (by rfl) ?_ hHeld ?_ ?_;rotate_left;(rintro w' ⟨s0,s1,s2⟩;go_simp;with_reducible rfl);rotate_left;(simp only [Act.put,zz21,zz22,zz23,i64_w,i32_w];rfl)
               refine zz32 (v:=?_) (a':=?_) 7 (some 41) #[T,T,T,T,T,T,T,T,F] rfl rfl HT_.out (by kernel_rfl) (fun _ _ _ h=>h) (by rfl) (fun w'=>?_) ?_ ?_;rotate_left;(go_simp;with_reducible rfl);rotate_left;(simp only [Act.put,zz21,zz22,zz23,i64_w,i32_w];rfl)
               refine last_ (i:=8) (N:=none) #[T,T,T,T,T,T,T,T,T] rfl rfl (one_of HT_.out (by kernel_rfl)) (by decide) (fun K hK=>?_)
               refine skip_ (w1:=?_) (by rfl) rfl ?_ ?_
               rotate_left
               ·go_simp
                rfl
               refine hK.out _ _ ?_
               clear hK K
               refine done_ (done_of HT_.out (by kernel_rfl)) ?_
               try go_wp2
               go_roundg k2
               case measure=>have:=HK1.out;have:=HK2.out;omega
               case rel=>exact ⟨(y166),(wrap64 (x22_2+1)),(by first | rfl | (simp;done) | (simp [*];done)),H',⟨by have:=HK1.out;have:=HK2.out;omega⟩,⟨by (with_reducible repeat (first | apply zz15 | apply zz16 | apply zz17));exact HQ34.out⟩,⟨by (with_reducible repeat (first | refine zz6 ?_ _ | refine zz7 ?_ | refine zz8 ?_ _));refine blk_far ?_ (by have h_:=Kd.R_ne HL163_0.out BK150.out (by decide);intro e_;exact h_ (by rw [e_];rfl)) _;(with_reducible repeat (first | refine zz6 ?_ _ | refine zz7 ?_ | refine zz8 ?_ _));exact BK150.out⟩,⟨by repeat first | exact HB.out | apply zz2 | apply zz0 | apply zz1 | refine zz3 ?_ GB23.out | refine zz3 ?_ GE150.out | refine zz3 ?_ GE158.out⟩⟩
              ·rw [if_neg c22] at H
               exact absurd H (by simp)
             ·rw [if_neg c21] at H
              exact absurd H (by simp)
            ·rw [if_neg c19] at H
             exact absurd H (by simp)
           ·rw [if_neg c18] at H
            exact absurd H (by simp)
          ·rw [if_neg c17] at H
           exact absurd H (by simp)
         ·rw [if_neg c16] at H
          exact absurd H (by simp)
        ·rw [if_neg c15] at H
         exact absurd H (by simp)
       ·rw [if_neg c14] at H
        exact absurd H (by simp)
      ·rw [if_neg c13] at H
       have c13b0:decide (x22_2 < (l0_1.length:Int))=false:=decide_eq_false c13
       clear c13
       obtain rfl:=Option.some.inj H
       go_wp2
       go_ret
       exact ⟨_,by first | rfl | (simp [errW_none,errW_some] <;> rfl) | (simp [*,errW_none,errW_some] <;> rfl),by (with_reducible repeat (first | apply zz15 | apply zz16 | apply zz17));exact HO_3.out,by repeat first | exact HB.out | apply zz2 | apply zz0 | apply zz1 | refine zz3 ?_ GE150.out⟩

end Go.Proofs.Ytoedkkoafidalaa.P
